/- The statement BrokeSums over numbers alone: Sums and Rate answer as the reference. -/
import Derived.Test.YtnkmeocccbkdkaaPx47
import Derived.Test.YtnkmeocccbkdkaaPx34
import Derived.Test.YtnkmeocccbkdkaaPx40
import Derived.Test.YtnkmeocccbkdkaaPx41
import Derived.Test.YtnkmeocccbkdkaaBrokeLevel
import Derived.Test.YtnkmeocccbkdkaaBrokeRef
import Derived.Test.YtnkmeocccbkdkaaHandSums
import Derived.Test.YtnkmeocccbkdkaaHandRate
import Derived.Test.YtnkmeocccbkdkaaRatMake
import Derived.Test.YtnkmeocccbkdkaaNatDiv
namespace Go.Proofs.Ytnkmeocccbkdkaa.Pure
open Go.RowKit Go.Proofs.Ytnkmeocccbkdkaa.P Go.Proofs.YtnkmeocccbkdkaaW.PrintWords Go.Proofs.YtnkmeocccbkdkaaW.PrintLast
set_option linter.unusedVariables false

theorem reduced_both2 (neg : Bool) (a b a' b' : List Int) (A B : Nat) (ha : Nrm a) (hb : Nrm b) (ha' : Nrm a') (hb' : Nrm b') (la : a.length ≤ 2) (lb : b.length ≤ 2) (va : val a = A) (vb : val b = B) (va' : val a' = A) (vb' : val b' = B) (hA : A < 1000000000000000000) (hB0 : 0 < B) (hB : B < 1000000000000000000) (k : Nat) (hk : B + 2000 ≤ k) :
    ∃ s x y, rat_reduced.f k neg a b = some (s, x, y, 0) ∧ papermillref03_Reduce.f k neg a' b' = some (s, x, y) ∧ x.length ≤ 48 ∧ y.length ≤ 48 := by
  obtain rfl : a = a' := nrm_unique ha ha' (by omega)
  obtain rfl : b = b' := nrm_unique hb hb' (by omega)
  have hbne : b ≠ [] := by intro e; subst e; simp [val] at vb; omega
  obtain ⟨g, e1, e2, e3, e4⟩ := gcd_eq a b ha hb la lb hbne A B va vb hA (by omega) k (by omega)
  obtain ⟨g', f1, f2, f3, f4⟩ := refgcd_eq a b A B k ha hb (by omega) (by omega) va vb (by omega)
  obtain rfl : g = g' := nrm_unique e2 f2 (by rw [e3, f3])
  have hg0 : 0 < Nat.gcd A B := Nat.gcd_pos_of_pos_right _ hB0
  obtain ⟨q1, r1, x1, x2, x3, x4, x5⟩ := divmod_eq2 a g ha e2 la e4 (by omega) (by omega) k (by omega)
  obtain ⟨q2, r2, y1, y2, y3, y4, y5⟩ := divmod_eq2 b g hb e2 lb e4 (by omega) (by omega) k (by omega)
  obtain ⟨q3, r3, z1, z2, z3, z4, z5, z6, z7⟩ := refdivmod_eq a g ha e2 (by omega) (by omega) (by omega) k (by omega)
  obtain ⟨q4, r4, t1, t2, t3, t4, t5, t6, t7⟩ := refdivmod_eq b g hb e2 (by omega) (by omega) (by omega) k (by omega)
  obtain rfl : q1 = q3 := nrm_unique x2 z2 (by rw [x4, z4])
  obtain rfl : q2 = q4 := nrm_unique y2 t2 (by rw [y4, t4])
  unfold rat_reduced.f papermillref03_Reduce.f
  rw [e1, f1]
  simp only [Option.bind_some]
  rw [x1, y1, z1, t1]
  simp only [Option.bind_some, if_true]
  cases neg with
  | true => exact ⟨_, _, _, by rw [if_pos rfl], by rw [if_pos rfl], by omega, by omega⟩
  | false => exact ⟨_, _, _, by rw [if_neg (by simp)], by rw [if_neg (by simp)], by omega, by omega⟩

theorem make_both2 (p q : Int) (hp : -1125899906842624 ≤ p ∧ p ≤ 1125899906842624) (hq : -1125899906842624 ≤ q ∧ q ≤ 1125899906842624) (k : Nat) (hk : 1125899906850000 ≤ k) :
    ∃ s x y e, rat_Make.f k p q = some (s, x, y, e) ∧ papermillref03_Make.f k p q = some (s, x, y, e) ∧ x.length ≤ 48 ∧ y.length ≤ 48 ∧ (q = 0 → s = false ∧ x = [] ∧ y = [] ∧ e = 16) := by
  obtain ⟨k, rfl⟩ : ∃ j, k = j + 1 := ⟨k - 1, by omega⟩
  unfold rat_Make.f papermillref03_Make.f rat_in.f
  rw [if_pos (by omega), if_pos (by omega), if_neg (by omega), if_neg (by omega), if_neg (by omega), decide_eq_true (show p ≤ 1125899906842624 by omega), decide_eq_true (show q ≤ 1125899906842624 by omega), decide_eq_false (show ¬ q > 1125899906842624 by omega)]
  simp only [Option.bind_some, if_true, Bool.not_true, rat_Make.j0, papermillref03_Make.j0, Bool.false_eq_true, if_false]
  by_cases c : q = 0
  · rw [if_pos c, if_pos c]; exact ⟨_, _, _, _, rfl, rfl, by simp, by simp, fun _ => ⟨rfl, rfl, rfl, rfl⟩⟩
  · rw [if_neg c, if_neg c]
    obtain ⟨a, e1, e2, e3, e4⟩ := natural_eq p hp k (by omega)
    obtain ⟨b, f1, f2, f3, f4⟩ := natural_eq q (by omega) k (by omega)
    obtain ⟨a', g1, g2, g3, g4⟩ := refof_eq (p.natAbs : Int) (by omega) (by omega) k (by omega)
    obtain ⟨b', h1, h2, h3, h4⟩ := refof_eq (q.natAbs : Int) (by omega) (by omega) k (by omega)
    rw [e1, f1, absV p hp, absV q (by omega), g1, h1]
    simp only [Option.bind_some]
    obtain ⟨s, x, y, r1, r2, r3, r4⟩ := reduced_both2 (decide (p < 0) != decide (q < 0)) a b a' b' p.natAbs q.natAbs e2 f2 g2 h2 e4 f4 e3 f3 g3 h3 (by omega) (by omega) (by omega) k (by omega)
    rw [r1, r2]
    exact ⟨s, x, y, 0, rfl, rfl, r3, r4, fun z => absurd z c⟩

theorem limbs_l0 (s : List Int) (hs : s.length ≤ 60) (d : Nat) : ∀ (k i : Nat), i + d = s.length → d < k → papermilllaw22_limbs.l0 k s s (s.length : Int) i = some true := by
  induction d with
  | zero =>
    intro k i hd hk
    obtain ⟨k, rfl⟩ : ∃ m, k = m + 1 := ⟨k - 1, by omega⟩
    simp only [papermilllaw22_limbs.l0]
    rw [if_neg (by omega)]
  | succ d ih =>
    intro k i hd hk
    obtain ⟨k, rfl⟩ : ∃ m, k = m + 1 := ⟨k - 1, by omega⟩
    simp only [papermilllaw22_limbs.l0]
    rw [if_pos (by omega), if_pos (by omega), if_pos (by omega), if_pos (by omega), if_pos trivial, w64 (by omega) (by omega)]
    have := ih k (i + 1) (by omega) (by omega)
    rwa [show ((i + 1 : Nat) : Int) = (i : Int) + 1 from by omega] at this
theorem limbs_eq (s : List Int) (hs : s.length ≤ 60) (k : Nat) (hk : 100 ≤ k) : papermilllaw22_limbs.f k s s = some true := by
  unfold papermilllaw22_limbs.f
  rw [if_pos rfl]
  exact limbs_l0 s hs s.length k 0 (by omega) (by omega)
theorem same_eq (b : Bool) (x y : List Int) (hx : x.length ≤ 60) (hy : y.length ≤ 60) (k : Nat) (hk : 100 ≤ k) : papermilllaw22_same.f k b x y b x y = some true := by
  unfold papermilllaw22_same.f
  rw [if_pos (by simp), limbs_eq x hx k hk, Option.bind_some, if_pos rfl, limbs_eq y hy k hk]; rfl

theorem sints_l0 (s : List Int) (hs : s.length ≤ 60) (d : Nat) : ∀ (k i : Nat), i + d = s.length → d < k → papermilllaw22_ints.l0 k s s (s.length : Int) i = some true := by
  induction d with
  | zero =>
    intro k i hd hk
    obtain ⟨k, rfl⟩ : ∃ m, k = m + 1 := ⟨k - 1, by omega⟩
    simp only [papermilllaw22_ints.l0]
    rw [if_neg (by omega)]
  | succ d ih =>
    intro k i hd hk
    obtain ⟨k, rfl⟩ : ∃ m, k = m + 1 := ⟨k - 1, by omega⟩
    simp only [papermilllaw22_ints.l0]
    rw [if_pos (by omega), if_pos (by omega), if_pos (by omega), if_pos (by omega), if_pos trivial, w64 (by omega) (by omega)]
    have := ih k (i + 1) (by omega) (by omega)
    rwa [show ((i + 1 : Nat) : Int) = (i : Int) + 1 from by omega] at this
theorem sints_eq (s : List Int) (hs : s.length ≤ 60) (k : Nat) (hk : 100 ≤ k) : papermilllaw22_ints.f k s s = some true := by
  unfold papermilllaw22_ints.f
  rw [if_pos rfl]
  exact sints_l0 s hs s.length k 0 (by omega) (by omega)

theorem refsums_l0 (l : List S63) (hv : ∀ x ∈ l, chk1 x = 0) (hl : l.length ≤ 512) (d : Nat) : ∀ (k i : Nat) (acc : List Int), i + d = l.length → d < k → Oks i acc →
    papermillref22_Sums.l0 k l acc i = some ((l.drop i).foldl stepS acc, 0) := by
  induction d with
  | zero =>
    intro k i acc hd hk ho
    obtain ⟨k, rfl⟩ : ∃ m, k = m + 1 := ⟨k - 1, by omega⟩
    rw [List.drop_of_length_le (by omega)]
    simp only [papermillref22_Sums.l0]
    rw [if_neg (by omega)]; rfl
  | succ d ih =>
    intro k i acc hd hk ho
    obtain ⟨k, rfl⟩ : ∃ m, k = m + 1 := ⟨k - 1, by omega⟩
    have hlt : i < l.length := by omega
    have hx := hv _ (List.getElem_mem hlt)
    have hb := (chk1_zero _).1 hx
    have hj := ho.2 (l[i].f1 - 1).toNat
    have h7 := ho.1
    simp only [papermillref22_Sums.l0]
    have er : rd acc (l[i].f1 - 1) = acc.getD (l[i].f1 - 1).toNat 0 := rfl
    rw [if_pos (by omega), if_pos (by omega), rdT_get l i hlt, w64 (x := l[i].f1 - 1) (by omega) (by omega), if_pos (by omega), if_pos (by omega), er, w64 (x := acc.getD (l[i].f1 - 1).toNat 0 + l[i].f2) (by omega) (by omega), w64 (x := (i : Int) + 1) (by omega) (by omega)]
    rw [List.drop_eq_getElem_cons hlt, List.foldl_cons]
    have := ih k (i + 1) (stepS acc l[i]) (by omega) (by omega) (oks_step ho hx)
    rwa [show ((i + 1 : Nat) : Int) = (i : Int) + 1 from by omega] at this

theorem refsums_eq (l : List S63) (cap : Int) (k : Nat) (hk : 4000 ≤ k) : papermillref22_Sums.f k l cap = some (if chk l cap = 0 then (sumsF l, 0) else ([], chk l cap)) := by
  unfold papermillref22_Sums.f
  rw [ref_check_eq l cap k (by omega), Option.bind_some]
  by_cases h : chk l cap = 0
  · obtain ⟨_, _, hl, hv, _⟩ := chk_zero l cap h
    rw [if_pos h, if_pos h]
    have := refsums_l0 l hv hl l.length k 0 [0, 0, 0, 0, 0, 0, 0] (by omega) (by omega) ⟨rfl, fun j => by
      rcases j with _ | _ | _ | _ | _ | _ | _ | j <;> simp⟩
    simpa [sumsF] using this
  · rw [if_neg h, if_neg h]

theorem rate_l0 (a2 : Int) (s : List Int) (hs : s.length = 7) (k : Nat) (r : Bool × List Int × List Int × Int) (hr : papermillref03_Make.f k (sumTo s 5) a2 = some r) : papermillref22_Rate.l0 (k + 6) a2 s 0 0 = some r := by
  have e : ∀ i : Nat, i < 5 → ∀ j, papermillref22_Rate.l0 (j + 1) a2 s (sumTo s i) (i : Int) = papermillref22_Rate.l0 j a2 s (sumTo s (i + 1)) ((i + 1 : Nat) : Int) := by
    intro i hi j
    simp only [papermillref22_Rate.l0]
    rw [if_pos (by omega), if_pos (by omega), if_pos (by omega), w64 (x := (i : Int) + 1) (by omega) (by omega)]
    rfl
  have h0 := e 0 (by omega) (k + 5)
  have h1 := e 1 (by omega) (k + 4)
  have h2 := e 2 (by omega) (k + 3)
  have h3 := e 3 (by omega) (k + 2)
  have h4 := e 4 (by omega) (k + 1)
  have h5 : papermillref22_Rate.l0 (k + 1) a2 s (sumTo s 5) ((5 : Nat) : Int) = some r := by
    simp only [papermillref22_Rate.l0]
    rw [if_neg (by omega), hr]; rfl
  exact h0.trans (h1.trans (h2.trans (h3.trans (h4.trans h5))))

def tot (s : List Int) : Int := s.getD 0 0 + s.getD 1 0 + s.getD 2 0 + s.getD 3 0 + s.getD 4 0
theorem list7 : ∀ {s : List Int}, s.length = 7 → ∃ a b c d e f g, s = [a, b, c, d, e, f, g]
  | [a, b, c, d, e, f, g], _ => ⟨a, b, c, d, e, f, g, rfl⟩
theorem tot_step (s : List Int) (hs : s.length = 7) (x : S63) (hx : chk1 x = 0) : tot (stepS s x) ≤ tot s + 1099511627776 := by
  obtain ⟨a, b, c, d, e, f, g, rfl⟩ := list7 hs
  have hb := (chk1_zero x).1 hx
  unfold stepS
  obtain ⟨j, hj, hj7⟩ : ∃ j : Nat, (x.f1 - 1).toNat = j ∧ j < 7 := ⟨_, rfl, by omega⟩
  rw [hj]
  rcases j with _ | _ | _ | _ | _ | _ | _ | j
  · simp [tot]; omega
  · simp [tot]; omega
  · simp [tot]; omega
  · simp [tot]; omega
  · simp [tot]; omega
  · simp [tot]; omega
  · simp [tot]; omega
  · omega
theorem tot_fold : ∀ (l : List S63) (s : List Int), s.length = 7 → (∀ x ∈ l, chk1 x = 0) → tot (l.foldl stepS s) ≤ tot s + (l.length : Int) * 1099511627776
  | [], s, _, _ => by simp
  | x :: l, s, hs, hv => by
    have h1 := tot_step s hs x (hv x (by simp))
    have h2 := tot_fold l (stepS s x) (by rw [stepS_len]; exact hs) (fun y hy => hv y (by simp [hy]))
    simp only [List.foldl_cons, List.length_cons]
    omega
theorem sumTo5 (l : List S63) (hv : ∀ x ∈ l, chk1 x = 0) (hl : l.length ≤ 512) : sumTo (sumsF l) 5 = tot (sumsF l) ∧ 0 ≤ tot (sumsF l) ∧ tot (sumsF l) ≤ 562949953421312 := by
  have h := tot_fold l (List.replicate 7 0) (by simp) hv
  have b0 := sumsF_bound l hv 0
  have b1 := sumsF_bound l hv 1
  have b2 := sumsF_bound l hv 2
  have b3 := sumsF_bound l hv 3
  have b4 := sumsF_bound l hv 4
  have e0 : tot (List.replicate 7 0) = 0 := by simp [tot, List.replicate]
  have es : l.foldl stepS (List.replicate 7 0) = sumsF l := rfl
  rw [es, e0] at h
  unfold tot at h ⊢
  refine ⟨?_, by omega, by omega⟩
  simp only [sumTo]
  rw [w64 (x := 0 + (sumsF l).getD 0 0) (by omega) (by omega), w64 (x := 0 + (sumsF l).getD 0 0 + (sumsF l).getD 1 0) (by omega) (by omega), w64 (x := 0 + (sumsF l).getD 0 0 + (sumsF l).getD 1 0 + (sumsF l).getD 2 0) (by omega) (by omega), w64 (x := 0 + (sumsF l).getD 0 0 + (sumsF l).getD 1 0 + (sumsF l).getD 2 0 + (sumsF l).getD 3 0) (by omega) (by omega), w64 (by omega) (by omega)]
  omega

theorem rate_both (l : List S63) (a1 a2 : Int) (k : Nat) (hk : 1125899906860000 ≤ k) :
    ∃ s x y e, broke_Rate.f k l a1 a2 = some (s, x, y, e) ∧ papermillref22_Rate.f k l a1 a2 = some (s, x, y, e) ∧ x.length ≤ 48 ∧ y.length ≤ 48 := by
  obtain ⟨k, rfl⟩ : ∃ j, k = j + 7 := ⟨k - 7, by omega⟩
  unfold broke_Rate.f papermillref22_Rate.f
  rw [refsums_eq l a1 _ (by omega), Option.bind_some]
  by_cases h : chk l a1 = 0
  · obtain ⟨_, _, hl, hv, _⟩ := chk_zero l a1 h
    obtain ⟨t1, t2, t3⟩ := sumTo5 l hv hl
    rw [if_pos h, if_pos h]
    dsimp only
    rw [if_pos (rfl : (0 : Int) = 0)]
    by_cases c1 : a2 < 0
    · rw [if_pos (Or.inl c1), if_pos c1]
      simp only [papermillref22_Rate.j0]
      exact ⟨_, _, _, _, rfl, rfl, by simp, by simp⟩
    · rw [if_neg c1]
      by_cases c2 : 1099511627776 < a2
      · rw [if_pos (Or.inr c2), decide_eq_true (show a2 > 1099511627776 from c2)]
        simp only [papermillref22_Rate.j0]
        exact ⟨_, _, _, _, rfl, rfl, by simp, by simp⟩
      · rw [if_neg (fun z => z.elim c1 c2), decide_eq_false (show ¬ a2 > 1099511627776 from c2)]
        simp only [papermillref22_Rate.j0]
        rw [if_neg (by simp)]
        obtain ⟨s, x, y, e, m1, m2, m3, m4, m5⟩ := make_both2 (sumTo (sumsF l) 5) a2 (by omega) (by omega) k (by omega)
        have m1' : rat_Make.f (k + 7) (sumTo (sumsF l) 5) a2 = some (s, x, y, e) := at_rounds (rat_Make.mono _ _) (show k ≤ k + 7 by omega) m1
        rw [m1']
        by_cases c3 : a2 = 0
        · obtain ⟨rfl, rfl, rfl, rfl⟩ := m5 c3
          rw [if_pos c3]
          exact ⟨_, _, _, _, rfl, rfl, by simp, by simp⟩
        · rw [if_neg c3]
          exact ⟨s, x, y, e, rfl, rate_l0 a2 (sumsF l) (sumsF_len l) k _ m2, m3, m4⟩
  · rw [if_neg h, if_neg h]
    dsimp only
    rw [if_neg h]
    exact ⟨_, _, _, _, rfl, rfl, by simp, by simp⟩

theorem sums_law (l : List S63) (a1 a2 : Int) (k : Nat) (hk : 1125899906860000 ≤ k) : papermilllaw22_BrokeSums.f k l a1 a2 = some true := by
  obtain ⟨s, x, y, e, r1, r2, r3, r4⟩ := rate_both l a1 a2 k hk
  unfold papermilllaw22_BrokeSums.f broke_Sums.f
  rw [Option.bind_some, refsums_eq l a1 k (by omega), Option.bind_some, r1, Option.bind_some, r2, Option.bind_some]
  have hP : (if chk l a1 = 0 then (sumsF l, 0) else (([] : List Int), chk l a1)).1.length ≤ 60 := by split <;> simp [sumsF_len]
  generalize (if chk l a1 = 0 then (sumsF l, 0) else (([] : List Int), chk l a1)) = P at *
  dsimp only
  rw [if_pos rfl, sints_eq _ hP k (by omega), Option.bind_some, if_pos rfl, if_pos rfl, same_eq s x y (by omega) (by omega) k (by omega), Option.bind_some, if_pos rfl, broke_awake k (by omega)]
  rfl

theorem BrokeSums (l0 : List S63) (a1 a2 : Int) (m0 : l0.length ≤ maxLen) (wl0 : ∀ x ∈ l0, (Lit.int .i64 x.f0).wf = true ∧ (Lit.int .i64 x.f1).wf = true ∧ (Lit.int .i64 x.f2).wf = true ∧ (Lit.int .i64 x.f3).wf = true) (w1 : (Lit.int .i64 a1).wf = true) (w2 : (Lit.int .i64 a2).wf = true) :
    ∃ k, papermilllaw22_BrokeSums.f k l0 a1 a2 = some true := ⟨1125899906860000, sums_law l0 a1 a2 _ (Nat.le_refl _)⟩
end Go.Proofs.Ytnkmeocccbkdkaa.Pure
