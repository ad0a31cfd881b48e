/- Rounding to the nearest: what determines it; signs; order. Plain arithmetic. -/
import Derived.Test.YthbpjiembjapdaaMath
namespace Go.Proofs.Ythbpjiembjapdaa.P
open Go.Proofs.Ythbpjiembjapdaa.Math
set_option linter.unusedVariables false

def Near (n d q : Int) : Prop := -d ≤ 2 * (n - d * q) ∧ 2 * (n - d * q) ≤ d ∧ ((2 * (n - d * q) = d ∨ 2 * (n - d * q) = -d) → q % 2 = 0)

theorem rnd2_near (n d : Int) (hd : 0 < d) : Near n d (rnd n d 2) := by
  have h1 := Int.mul_ediv_add_emod n d
  have h2 := Int.emod_nonneg n (show d ≠ 0 by omega)
  have h3 := Int.emod_lt_of_pos n hd
  unfold rnd Near
  rw [if_neg (by omega), if_neg (by omega)]
  have e : d * (n / d + 1) = d * (n / d) + d := by rw [Int.mul_add, Int.mul_one]
  split
  · refine ⟨by omega, by omega, fun h => by omega⟩
  · split
    · rw [e]; refine ⟨by omega, by omega, fun h => by omega⟩
    · split
      · refine ⟨by omega, by omega, fun h => by omega⟩
      · rw [e]; refine ⟨by omega, by omega, fun h => by omega⟩

theorem near_unique {n d q r : Int} (hd : 0 < d) (hq : Near n d q) (hr : Near n d r) : q = r := by
  have key : ∀ q r : Int, Near n d q → Near n d r → ¬ q < r := by
    intro q r hq hr hlt
    unfold Near at hq hr
    obtain ⟨t, rfl⟩ : ∃ t : Int, r = q + 1 + t := ⟨r - q - 1, by omega⟩
    have ht : 0 ≤ t := by omega
    have e : d * (q + 1 + t) = d * q + d + d * t := by rw [Int.mul_add, Int.mul_add, Int.mul_one]
    have hp := Int.mul_nonneg (Int.le_of_lt hd) ht
    rw [e] at hr
    by_cases h0 : t = 0
    · subst h0; rw [Int.mul_zero] at *; omega
    · have := Int.mul_le_mul_of_nonneg_left (show 1 ≤ t by omega) (Int.le_of_lt hd)
      omega
  have a := key q r hq hr
  have b := key r q hr hq
  omega

theorem rnd2_unique {n d q : Int} (hd : 0 < d) (hq : Near n d q) : rnd n d 2 = q := near_unique hd (rnd2_near n d hd) hq

theorem rnd2_neg (n d : Int) (hd : 0 < d) : rnd (-n) d 2 = -rnd n d 2 := by
  apply rnd2_unique hd
  have h := rnd2_near n d hd
  unfold Near at h ⊢
  rw [Int.mul_neg]
  omega

theorem rnd2_exact (x d : Int) (hd : 0 < d) : rnd (x * d) d 2 = x := by
  apply rnd2_unique hd
  unfold Near
  rw [Int.mul_comm x d]
  omega

theorem rnd2_mono (n m d : Int) (hd : 0 < d) (h : n ≤ m) : rnd n d 2 ≤ rnd m d 2 := by
  have h1 := rnd2_near n d hd
  have h2 := rnd2_near m d hd
  by_cases e : n = m
  · rw [e]; exact Int.le_refl _
  · generalize rnd n d 2 = q at *
    generalize rnd m d 2 = r at *
    unfold Near at h1 h2
    rcases Int.lt_or_le r q with c | c
    · have := Int.mul_le_mul_of_nonneg_left (show r + 1 ≤ q by omega) (Int.le_of_lt hd)
      rw [Int.mul_add, Int.mul_one] at this
      omega
    · exact c
end Go.Proofs.Ythbpjiembjapdaa.P
