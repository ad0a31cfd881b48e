/- rat.Make and the reference's: the same answer, where the divisor has one limb. -/
import Derived.Test.YtnkmeocccbkdkaaNatProg
import Derived.Test.YtnkmeocccbkdkaaNatRef
import Derived.Test.YtnkmeocccbkdkaaPx2
import Derived.Test.YtnkmeocccbkdkaaPx11
import Derived.Test.YtnkmeocccbkdkaaPx18
import Derived.Test.YtnkmeocccbkdkaaPx26
namespace Go.Proofs.Ytnkmeocccbkdkaa.Pure
open Go.RowKit Go.Proofs.Ytnkmeocccbkdkaa.P Go.Proofs.YtnkmeocccbkdkaaW.PrintWords Go.Proofs.YtnkmeocccbkdkaaW.PrintLast
set_option linter.unusedVariables false

theorem one_limb : ∀ {l : List Int}, Nrm l → 0 < val l → val l < 1000000000 → l.length = 1
  | [], _, h, _ => by simp [val] at h
  | [x], _, _, _ => rfl
  | x :: y :: ys, hn, _, h => by
    have := val_pos hn.2.2.1; have := hn.1
    simp only [val] at *; omega

theorem absV (p : Int) (h : -1125899906842624 ≤ p ∧ p ≤ 1125899906842624) : mx p (wrap64 (-p)) = (p.natAbs : Int) := by
  rw [w64 (by omega) (by omega)]; unfold mx; split <;> omega

theorem reduced_both (neg : Bool) (a b a' b' : List Int) (A B : Nat) (ha : Nrm a) (hb : Nrm b) (ha' : Nrm a') (hb' : Nrm b') (la : a.length ≤ 2) (lb : b.length ≤ 2) (va : val a = A) (vb : val b = B) (va' : val a' = A) (vb' : val b' = B) (hA : A < 1000000000000000000) (hB0 : 0 < B) (hB : B < 1000000000) (k : Nat) (hk : B + 2000 ≤ k) :
    ∃ s x y, rat_reduced.f k neg a b = some (s, x, y, 0) ∧ papermillref03_Reduce.f k neg a' b' = some (s, x, y) ∧ x.length ≤ 48 ∧ y.length ≤ 48 := by
  obtain rfl : a = a' := nrm_unique ha ha' (by omega)
  obtain rfl : b = b' := nrm_unique hb hb' (by omega)
  have hbne : b ≠ [] := by intro e; subst e; simp [val] at vb; omega
  obtain ⟨g, e1, e2, e3, e4⟩ := gcd_eq a b ha hb la lb hbne A B va vb hA (by omega) k (by omega)
  obtain ⟨g', f1, f2, f3, f4⟩ := refgcd_eq a b A B k ha hb (by omega) (by omega) va vb (by omega)
  obtain rfl : g = g' := nrm_unique e2 f2 (by rw [e3, f3])
  have hg0 : 0 < Nat.gcd A B := Nat.gcd_pos_of_pos_right _ hB0
  have hg1 : Nat.gcd A B ≤ B := Nat.gcd_le_right _ hB0
  have lg := one_limb e2 (by omega) (by omega)
  obtain ⟨q1, r1, x1, x2, x3, x4, x5⟩ := divmod_eq a g ha e2 (by omega) lg k (by omega)
  obtain ⟨q2, r2, y1, y2, y3, y4, y5⟩ := divmod_eq b g hb e2 (by omega) lg k (by omega)
  obtain ⟨q3, r3, z1, z2, z3, z4, z5, z6, z7⟩ := refdivmod_eq a g ha e2 (by omega) (by omega) (by omega) k (by omega)
  obtain ⟨q4, r4, t1, t2, t3, t4, t5, t6, t7⟩ := refdivmod_eq b g hb e2 (by omega) (by omega) (by omega) k (by omega)
  obtain rfl : q1 = q3 := nrm_unique x2 z2 (by rw [x4, z4])
  obtain rfl : q2 = q4 := nrm_unique y2 t2 (by rw [y4, t4])
  unfold rat_reduced.f papermillref03_Reduce.f
  rw [e1, f1]
  simp only [Option.bind_some]
  rw [x1, y1, z1, t1]
  simp only [Option.bind_some, if_true]
  cases neg with
  | true => exact ⟨_, _, _, by rw [if_pos rfl], by rw [if_pos rfl], by omega, by omega⟩
  | false => exact ⟨_, _, _, by rw [if_neg (by simp)], by rw [if_neg (by simp)], by omega, by omega⟩

theorem natural_eq (p : Int) (h : -1125899906842624 ≤ p ∧ p ≤ 1125899906842624) (k : Nat) (hk : 100 ≤ k) : ∃ r, rat_natural.f k p = some r ∧ Nrm r ∧ val r = (p.natAbs : Int) ∧ r.length ≤ 2 := by
  unfold rat_natural.f
  rw [absV p h]
  obtain ⟨r, e1, e2, e3, e4⟩ := of_eq (p.natAbs : Int) (by omega) (by omega) k hk
  rw [e1]
  exact ⟨r, rfl, e2, e3, e4⟩

theorem make_both (p q : Int) (hp : -1125899906842624 ≤ p ∧ p ≤ 1125899906842624) (hq : -999999999 ≤ q ∧ q ≤ 999999999) (k : Nat) (hk : 1000003000 ≤ k) :
    ∃ s x y e, rat_Make.f k p q = some (s, x, y, e) ∧ papermillref03_Make.f k p q = some (s, x, y, e) ∧ x.length ≤ 48 ∧ y.length ≤ 48 := by
  obtain ⟨k, rfl⟩ : ∃ j, k = j + 1 := ⟨k - 1, by omega⟩
  unfold rat_Make.f papermillref03_Make.f rat_in.f
  rw [if_pos (by omega), if_pos (by omega), if_neg (by omega), if_neg (by omega), if_neg (by omega), decide_eq_true (show p ≤ 1125899906842624 by omega), decide_eq_true (show q ≤ 1125899906842624 by omega), decide_eq_false (show ¬ q > 1125899906842624 by omega)]
  simp only [Option.bind_some, if_true, Bool.not_true, rat_Make.j0, papermillref03_Make.j0, Bool.false_eq_true, if_false]
  by_cases c : q = 0
  · rw [if_pos c, if_pos c]; exact ⟨_, _, _, _, rfl, rfl, by simp, by simp⟩
  · rw [if_neg c, if_neg c]
    obtain ⟨a, e1, e2, e3, e4⟩ := natural_eq p hp k (by omega)
    obtain ⟨b, f1, f2, f3, f4⟩ := natural_eq q (by omega) k (by omega)
    obtain ⟨a', g1, g2, g3, g4⟩ := refof_eq (p.natAbs : Int) (by omega) (by omega) k (by omega)
    obtain ⟨b', h1, h2, h3, h4⟩ := refof_eq (q.natAbs : Int) (by omega) (by omega) k (by omega)
    rw [e1, f1, absV p hp, absV q (by omega), g1, h1]
    simp only [Option.bind_some]
    obtain ⟨s, x, y, r1, r2, r3, r4⟩ := reduced_both (decide (p < 0) != decide (q < 0)) a b a' b' p.natAbs q.natAbs e2 f2 g2 h2 e4 f4 e3 f3 g3 h3 (by omega) (by omega) (by omega) k (by omega)
    rw [r1, r2]
    exact ⟨s, x, y, 0, rfl, rfl, r3, r4⟩

theorem refsame_l0 (l : List Int) (hl : l.length ≤ 60) (d : Nat) : ∀ (k i : Nat), i + d = l.length → d < k → papermillref02_Same.l0 k l l (i : Int) = some true := by
  induction d with
  | zero =>
    intro k i hi hk
    obtain ⟨k, rfl⟩ : ∃ j, k = j + 1 := ⟨k - 1, by omega⟩
    simp only [papermillref02_Same.l0]
    rw [if_neg (by omega)]
  | succ d ih =>
    intro k i hi hk
    obtain ⟨k, rfl⟩ : ∃ j, k = j + 1 := ⟨k - 1, by omega⟩
    simp only [papermillref02_Same.l0]
    rw [if_pos (by omega), if_pos (by omega), if_pos (by omega), if_pos trivial, w64 (by omega) (by omega)]
    exact ih k (i + 1) (by omega) (by omega)
theorem refsame_eq (l : List Int) (hl : l.length ≤ 60) (k : Nat) (hk : 100 ≤ k) : papermillref02_Same.f k l l = some true := by
  unfold papermillref02_Same.f
  rw [if_pos rfl]
  exact refsame_l0 l hl l.length k 0 (by omega) (by omega)
end Go.Proofs.Ytnkmeocccbkdkaa.Pure
