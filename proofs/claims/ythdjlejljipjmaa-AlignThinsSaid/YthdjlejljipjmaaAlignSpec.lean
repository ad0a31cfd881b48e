/- Forward and Back of valid marks: order, and that Back is the least inverse. What align.Forward answers. -/
import Derived.Test.YthdjlejljipjmaaHandForward
import Derived.Test.YthdjlejljipjmaaHandBack
import Derived.Test.YthdjlejljipjmaaPx7
import Derived.Test.YthdjlejljipjmaaPx5
namespace Go.Proofs.Ythdjlejljipjmaa.P
open Go.RowKit Go.Proofs.YthdjlejljipjmaaW.PrintWords Go.Proofs.YthdjlejljipjmaaW.PrintLast Go.Proofs.YthdjlejljipjmaaW.PrintMore Go.Proofs.Ythdjlejljipjmaa.First Go.Proofs.Ythdjlejljipjmaa.Math
set_option linter.unusedVariables false

theorem ceil_le_iff {x c b : Int} (hc : 0 < c) : -(-x / c) ≤ b ↔ x ≤ b * c := by
  have h := Int.le_ediv_iff_mul_le (a := -b) (b := -x) hc
  rw [Int.neg_mul] at h
  omega

theorem fwd_bounds {l : List Mk} (hok : okM l) {a : Int} (h0 : mA l 0 ≤ a) (h1 : a ≤ mA l (l.length - 1)) : mB l (seg fA l a) ≤ fwd l a ∧ fwd l a ≤ mB l (seg fA l a + 1) := by
  have hs := segA_spec hok h0 h1
  have hk := seg_le fA l a
  have h2 := hok.1
  have b1 := hok.2.2.1 (seg fA l a) (by omega)
  have b2 := hok.2.2.1 (seg fA l a + 1) (by omega)
  have b3 := hok.2.2.2 (seg fA l a) (by omega)
  have hm := md_down (a - mA l (seg fA l a)) (mB l (seg fA l a + 1) - mB l (seg fA l a)) (mA l (seg fA l a + 1) - mA l (seg fA l a)) (by omega) (by omega) (by omega) (by omega) (by omega) (by omega)
  unfold fwd
  omega

theorem bck_bounds {l : List Mk} (hok : okM l) {b : Int} (h0 : mB l 0 ≤ b) (h1 : b ≤ mB l (l.length - 1)) : mA l (seg fB l b) ≤ bck l b ∧ bck l b ≤ mA l (seg fB l b + 1) ∧ (mB l (seg fB l b) < b → mA l (seg fB l b) < bck l b) := by
  have hs := segB_spec hok h0 h1
  have hk := seg_le fB l b
  have h2 := hok.1
  have b1 := hok.2.2.1 (seg fB l b) (by omega)
  have b2 := hok.2.2.1 (seg fB l b + 1) (by omega)
  have b3 := hok.2.2.2 (seg fB l b) (by omega)
  have hm := md_up (b - mB l (seg fB l b)) (mA l (seg fB l b + 1) - mA l (seg fB l b)) (mB l (seg fB l b + 1) - mB l (seg fB l b)) (by omega) (by omega) (by omega) (by omega) (by omega) (by omega)
  unfold bck
  refine ⟨by omega, by omega, fun h => ?_⟩
  have hc := ceil_le_iff (x := (b - mB l (seg fB l b)) * (mA l (seg fB l b + 1) - mA l (seg fB l b))) (c := mB l (seg fB l b + 1) - mB l (seg fB l b)) (b := 0) (by omega)
  have hp := Int.mul_pos (show 0 < b - mB l (seg fB l b) by omega) (show 0 < mA l (seg fB l b + 1) - mA l (seg fB l b) by omega)
  rw [Int.zero_mul] at hc
  omega

theorem mono_le {l : List Mk} (h : okM l) {i j : Nat} (hij : i ≤ j) (hj : j < l.length) : mA l i ≤ mA l j ∧ mB l i ≤ mB l j := by
  by_cases e : i = j
  · subst e; exact ⟨Int.le_refl _, Int.le_refl _⟩
  · have := mono_of h (show i < j by omega) hj; omega

/-- Back is the least inverse of Forward. -/
theorem galois {l : List Mk} (hok : okM l) {a b : Int} (ha0 : mA l 0 ≤ a) (ha1 : a ≤ mA l (l.length - 1)) (hb0 : mB l 0 ≤ b) (hb1 : b ≤ mB l (l.length - 1)) : b ≤ fwd l a ↔ bck l b ≤ a := by
  have hs := segA_spec hok ha0 ha1
  have ht := segB_spec hok hb0 hb1
  have hk := seg_le fA l a
  have hj := seg_le fB l b
  have fb := fwd_bounds hok ha0 ha1
  have bb := bck_bounds hok hb0 hb1
  have h2 := hok.1
  rcases Nat.lt_trichotomy (seg fA l a) (seg fB l b) with h | h | h
  · have m := mono_le hok (show seg fA l a + 1 ≤ seg fB l b by omega) (by omega)
    have l1 := ht.2.2 (by omega)
    have l2 := bb.2.2 l1
    omega
  · have b3 := hok.2.2.2 (seg fA l a) (by omega)
    unfold fwd bck
    rw [← h] at ht ⊢
    clear fb bb h hj
    generalize mA l (seg fA l a) = p0 at *
    generalize mB l (seg fA l a) = p1 at *
    generalize mA l (seg fA l a + 1) = q0 at *
    generalize mB l (seg fA l a + 1) = q1 at *
    have e1 := Int.le_ediv_iff_mul_le (a := b - p1) (b := (a - p0) * (q1 - p1)) (c := q0 - p0) (by omega)
    have e2 := ceil_le_iff (x := (b - p1) * (q0 - p0)) (c := q1 - p1) (b := a - p0) (by omega)
    omega
  · have m := mono_le hok (show seg fB l b + 1 ≤ seg fA l a by omega) (by omega)
    omega

theorem fwd_range {l : List Mk} (hok : okM l) {a : Int} (ha0 : mA l 0 ≤ a) (ha1 : a ≤ mA l (l.length - 1)) : mB l 0 ≤ fwd l a ∧ fwd l a ≤ mB l (l.length - 1) := by
  have hk := seg_le fA l a
  have h2 := hok.1
  have fb := fwd_bounds hok ha0 ha1
  have m1 := mono_le hok (show 0 ≤ seg fA l a by omega) (by omega)
  have m2 := mono_le hok (show seg fA l a + 1 ≤ l.length - 1 by omega) (by omega)
  omega

theorem bck_range {l : List Mk} (hok : okM l) {b : Int} (hb0 : mB l 0 ≤ b) (hb1 : b ≤ mB l (l.length - 1)) : mA l 0 ≤ bck l b ∧ bck l b ≤ mA l (l.length - 1) := by
  have hk := seg_le fB l b
  have h2 := hok.1
  have fb := bck_bounds hok hb0 hb1
  have m1 := mono_le hok (show 0 ≤ seg fB l b by omega) (by omega)
  have m2 := mono_le hok (show seg fB l b + 1 ≤ l.length - 1 by omega) (by omega)
  omega

theorem fwd_mono {l : List Mk} (hok : okM l) {a a' : Int} (h0 : mA l 0 ≤ a) (h : a ≤ a') (h1 : a' ≤ mA l (l.length - 1)) : fwd l a ≤ fwd l a' := by
  have hr := fwd_range hok h0 (Int.le_trans h h1)
  have g := (galois hok h0 (Int.le_trans h h1) hr.1 hr.2).1 (Int.le_refl _)
  exact (galois hok (Int.le_trans h0 h) h1 hr.1 hr.2).2 (Int.le_trans g h)

theorem fwd_at {l : List Mk} (hok : okM l) (i : Nat) (hi : i < l.length) : fwd l (mA l i) = mB l i := by
  have h2 := hok.1
  have m1 := mono_le hok (show 0 ≤ i by omega) hi
  have m2 := mono_le hok (show i ≤ l.length - 1 by omega) (by omega)
  have hs := segA_spec hok m1.1 m2.1
  have hk := seg_le fA l (mA l i)
  have b3 := hok.2.2.2 (seg fA l (mA l i)) (by omega)
  unfold fwd
  generalize seg fA l (mA l i) = k at *
  by_cases e : k = i
  · subst e
    rw [Int.sub_self, Int.zero_mul, Int.zero_ediv, Int.add_zero]
  · have e2 : k + 1 = i := by
      rcases Nat.lt_trichotomy (k + 1) i with c | c | c
      · have := mono_of hok c hi; omega
      · exact c
      · have := mono_of hok (show i < k by omega) (by omega)
        omega
    subst e2
    rw [Int.mul_ediv_cancel_left _ (by omega)]
    omega

/-- What Forward answers. -/
def fwdS (l : List Mk) (a : Int) : Int × Int := if chkM l = 0 then (if mA l 0 ≤ a ∧ a ≤ mA l (l.length - 1) then (fwd l a, 0) else (0, 1)) else (0, chkM l)

theorem last_idx (l : List Mk) (h : 0 < l.length) (h64 : l.length ≤ 64) : wrap64 ((l.length : Int) - 1) = ((l.length - 1 : Nat) : Int) := by unfold wrap64; omega

theorem inA_eq (l : List Mk) (a : Int) (h : 0 < l.length) (h64 : l.length ≤ 64) : align_inA.f l a = some (decide (mA l 0 ≤ a ∧ a ≤ mA l (l.length - 1))) := by
  unfold align_inA.f
  rw [last_idx l h h64, if_pos (show (0 : Int) < (l.length : Int) by omega), if_pos (show (0 : Int) ≤ ((l.length - 1 : Nat) : Int) by omega), if_pos (show ((l.length - 1 : Nat) : Int) < (l.length : Int) by omega)]
  change (if a ≥ mA l 0 then some (decide (a ≤ mA l (l.length - 1))) else some false) = _
  by_cases c : a ≥ mA l 0
  · rw [if_pos c]; congr 1; rw [decide_eq_decide]; omega
  · rw [if_neg c, decide_eq_false (by omega)]

theorem forward_eq (l : List Mk) (a : Int) (k : Nat) (hk : 200 ≤ k) : align_Forward.f k l a = some (fwdS l a) := by
  unfold align_Forward.f fwdS
  rw [checkM_eq l k hk]
  simp only [Option.bind_some]
  by_cases h : chkM l = 0
  · have hok := (chkM_zero l).1 h
    rw [if_pos h, if_pos h, inA_eq l a (by have := hok.1; omega) hok.2.1]
    simp only [Option.bind_some]
    by_cases c : mA l 0 ≤ a ∧ a ≤ mA l (l.length - 1)
    · rw [decide_eq_true c, if_pos rfl, if_pos c]
      unfold align_forward.f
      rw [if_pos ⟨h, c⟩]
      rfl
    · rw [decide_eq_false c, if_neg (by simp), if_neg c]
  · rw [if_neg h, if_neg h]
end Go.Proofs.Ythdjlejljipjmaa.P
