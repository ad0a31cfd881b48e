/- Rounding to the nearest: what determines it; signs; the scaled product. Plain arithmetic. -/
import Derived.Test.YtpmopomiadaonaaFixedSpec
namespace Go.Proofs.Ytpmopomiadaonaa.P
open Go.RowKit Go.Proofs.YtpmopomiadaonaaW.PrintWords Go.Proofs.YtpmopomiadaonaaW.PrintLast Go.Proofs.Ytpmopomiadaonaa.Math
set_option linter.unusedVariables false

def Near (n d q : Int) : Prop := -d ≤ 2 * (n - d * q) ∧ 2 * (n - d * q) ≤ d ∧ ((2 * (n - d * q) = d ∨ 2 * (n - d * q) = -d) → q % 2 = 0)

theorem rnd2_near (n d : Int) (hd : 0 < d) : Near n d (rnd n d 2) := by
  have h1 := Int.mul_ediv_add_emod n d
  have h2 := Int.emod_nonneg n (show d ≠ 0 by omega)
  have h3 := Int.emod_lt_of_pos n hd
  unfold rnd Near
  rw [if_neg (by omega), if_neg (by omega)]
  have e : d * (n / d + 1) = d * (n / d) + d := by rw [Int.mul_add, Int.mul_one]
  split
  · refine ⟨by omega, by omega, fun h => by omega⟩
  · split
    · rw [e]; refine ⟨by omega, by omega, fun h => by omega⟩
    · split
      · refine ⟨by omega, by omega, fun h => by omega⟩
      · rw [e]; refine ⟨by omega, by omega, fun h => by omega⟩

theorem near_unique {n d q r : Int} (hd : 0 < d) (hq : Near n d q) (hr : Near n d r) : q = r := by
  have key : ∀ q r : Int, Near n d q → Near n d r → ¬ q < r := by
    intro q r hq hr hlt
    unfold Near at hq hr
    obtain ⟨t, rfl⟩ : ∃ t : Int, r = q + 1 + t := ⟨r - q - 1, by omega⟩
    have ht : 0 ≤ t := by omega
    have e : d * (q + 1 + t) = d * q + d + d * t := by rw [Int.mul_add, Int.mul_add, Int.mul_one]
    have hp := Int.mul_nonneg (Int.le_of_lt hd) ht
    rw [e] at hr
    by_cases h0 : t = 0
    · subst h0; rw [Int.mul_zero] at *; omega
    · have := Int.mul_le_mul_of_nonneg_left (show 1 ≤ t by omega) (Int.le_of_lt hd)
      omega
  have a := key q r hq hr
  have b := key r q hr hq
  omega

theorem rnd2_unique {n d q : Int} (hd : 0 < d) (hq : Near n d q) : rnd n d 2 = q := near_unique hd (rnd2_near n d hd) hq

theorem rnd2_neg (n d : Int) (hd : 0 < d) : rnd (-n) d 2 = -rnd n d 2 := by
  apply rnd2_unique hd
  have h := rnd2_near n d hd
  unfold Near at h ⊢
  rw [Int.mul_neg]
  omega

theorem rnd2_exact (x d : Int) (hd : 0 < d) : rnd (x * d) d 2 = x := by
  apply rnd2_unique hd
  unfold Near
  rw [Int.mul_comm x d]
  omega

/-- The rounded quotient a * b / c. -/
def q2 (a b c : Int) : Int := rnd (if c < 0 then -(a * b) else a * b) (if c < 0 then -c else c) 2

theorem scl_eq (a b c : Int) (ha : -1125899906842624 ≤ a ∧ a ≤ 1125899906842624) (hb : -1125899906842624 ≤ b ∧ b ≤ 1125899906842624) (hc : -1125899906842624 ≤ c ∧ c ≤ 1125899906842624) (h0 : c ≠ 0) :
    scl a b c = if inF (q2 a b c) = true then (q2 a b c, 0) else (0, 2) := by
  have hmd : md a b c 2 = if q2 a b c < -1125899906842624 ∨ 1125899906842624 < q2 a b c then (0, 2) else (q2 a b c, 0) := by
    unfold md q2
    rw [if_neg (by omega), if_neg h0, if_neg (by omega)]
  unfold scl
  rw [hmd]
  by_cases h : q2 a b c < -1125899906842624 ∨ 1125899906842624 < q2 a b c
  · have hi : inF (q2 a b c) = false := by unfold inF; exact decide_eq_false (by omega)
    simp [h, hi]
  · simp [h]

theorem scl_zero (a b : Int) (ha : -1125899906842624 ≤ a ∧ a ≤ 1125899906842624) (hb : -1125899906842624 ≤ b ∧ b ≤ 1125899906842624) : scl a b 0 = (0, 16) := by
  have hmd : md a b 0 2 = (0, 16) := by
    unfold md
    rw [if_neg (by omega), if_pos rfl]
  unfold scl
  rw [hmd]
  simp

theorem mulF_eq (a b : Int) (ha : inF a = true) (hb : inF b = true) : mulF a b = if inF (q2 a b 65536) = true then (q2 a b 65536, 0) else (0, 2) := by
  have h1 := (inF_iff a).1 ha
  have h2 := (inF_iff b).1 hb
  unfold mulF
  rw [if_pos ⟨ha, hb⟩, scl_eq a b 65536 (by omega) (by omega) (by omega) (by omega)]

theorem divF_eq (a b : Int) (ha : inF a = true) (hb : inF b = true) (h0 : b ≠ 0) : divF a b = if inF (q2 a 65536 b) = true then (q2 a 65536 b, 0) else (0, 2) := by
  have h1 := (inF_iff a).1 ha
  have h2 := (inF_iff b).1 hb
  unfold divF
  rw [if_pos ⟨ha, hb⟩, scl_eq a 65536 b (by omega) (by omega) (by omega) h0]

theorem divF_zero (a : Int) (ha : inF a = true) : divF a 0 = (0, 16) := by
  have h1 := (inF_iff a).1 ha
  unfold divF
  rw [if_pos ⟨ha, rfl⟩, scl_zero a 65536 (by omega) (by omega)]

theorem q2_near_pos (a b c : Int) (hc : 0 < c) : Near (a * b) c (q2 a b c) := by
  unfold q2
  rw [if_neg (by omega), if_neg (by omega)]
  exact rnd2_near _ _ hc

theorem q2_near_neg (a b c : Int) (hc : c < 0) : Near (-(a * b)) (-c) (q2 a b c) := by
  unfold q2
  rw [if_pos hc, if_pos hc]
  exact rnd2_near _ _ (by omega)
end Go.Proofs.Ytpmopomiadaonaa.P
