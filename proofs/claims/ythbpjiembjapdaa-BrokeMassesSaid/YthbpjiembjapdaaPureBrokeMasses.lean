/- The statement BrokeMasses over numbers alone: Mass and its reference answer alike, for any two integers. -/
import Derived.Test.YthbpjiembjapdaaPx12
import Derived.Test.YthbpjiembjapdaaBrokeMass
import Derived.Test.YthbpjiembjapdaaBrokeLevel
namespace Go.Proofs.Ythbpjiembjapdaa.Pure
open Go.RowKit Go.Proofs.Ythbpjiembjapdaa.P Go.Proofs.YthbpjiembjapdaaW.PrintWords Go.Proofs.YthbpjiembjapdaaW.PrintLast Go.Proofs.Ythbpjiembjapdaa.Math
set_option linter.unusedVariables false

theorem ref_mass_eq (a b : Int) (k : Nat) (hk : 2 ≤ k) : papermillref22_Mass.f k a b = some (massF a b) := by
  obtain ⟨k, rfl⟩ : ∃ m, k = m + 1 := ⟨k - 1, by omega⟩
  unfold papermillref22_Mass.f massF
  simp only [papermillref22_Mass.j0]
  by_cases a1 : a < 0
  · rw [if_pos a1, if_pos (show a < 0 ∨ 206158430208000 < a ∨ b < 0 ∨ 1000000 < b by omega)]; rfl
  · rw [if_neg a1]
    by_cases a2 : a > 206158430208000
    · rw [if_pos a2, if_pos (show a < 0 ∨ 206158430208000 < a ∨ b < 0 ∨ 1000000 < b by omega)]; rfl
    · rw [if_neg a2]
      by_cases a3 : b < 0
      · rw [if_pos a3, if_pos (show a < 0 ∨ 206158430208000 < a ∨ b < 0 ∨ 1000000 < b by omega)]; rfl
      · rw [if_neg a3]
        by_cases a4 : b > 1000000
        · rw [decide_eq_true a4, if_pos rfl, if_pos (show a < 0 ∨ 206158430208000 < a ∨ b < 0 ∨ 1000000 < b by omega)]
        · rw [decide_eq_false a4, if_neg (by simp), if_neg (show ¬ (a < 0 ∨ 206158430208000 < a ∨ b < 0 ∨ 1000000 < b) by omega)]
          rw [Int.tmod_eq_emod_of_nonneg (a := a) (by omega), Int.tdiv_eq_ediv_of_nonneg (a := a) (by omega)]
          have hA := Int.mul_ediv_add_emod a 1000000000
          have h1 := Int.emod_nonneg a (show (1000000000 : Int) ≠ 0 by omega)
          have h2 := Int.emod_lt_of_pos a (show (0 : Int) < 1000000000 by omega)
          generalize a / 1000000000 = q at *
          generalize a % 1000000000 = r at *
          have hq0 : 0 ≤ q := by omega
          have hqb := Int.mul_le_mul (show q ≤ 206158 by omega) (show b ≤ 1000000 by omega) (by omega) (by omega)
          have hq1 := Int.mul_nonneg hq0 (show 0 ≤ b by omega)
          have hrb := Int.mul_le_mul (show r ≤ 1000000000 by omega) (show b ≤ 1000000 by omega) (by omega) (by omega)
          have hr1 := Int.mul_nonneg h1 (show 0 ≤ b by omega)
          rw [w64 (x := r * b) (by omega) (by omega), w64 (x := q) (by omega) (by omega), w64 (x := q * b) (by omega) (by omega), Int.tmod_eq_emod_of_nonneg (a := r * b) hr1, Int.tdiv_eq_ediv_of_nonneg (a := r * b) hr1]
          have hP := Int.mul_ediv_add_emod (r * b) 1000000000
          have p1 := Int.emod_nonneg (r * b) (show (1000000000 : Int) ≠ 0 by omega)
          have p2 := Int.emod_lt_of_pos (r * b) (show (0 : Int) < 1000000000 by omega)
          have eab : a * b = 1000000000 * (q * b + r * b / 1000000000) + r * b % 1000000000 := by
            rw [← hA, Int.add_mul, Int.mul_assoc, Int.mul_add]; omega
          generalize r * b / 1000000000 = s at *
          generalize r * b % 1000000000 = u at *
          generalize q * b = v at *
          have d1 : a * b / 1000000000 = v + s := div_unique (by omega) (by omega) (by omega)
          have d2 : a * b % 1000000000 = u := mod_unique (x := v + s) (by omega) (by omega) (by omega) (by omega)
          rw [w64 (x := s) (by omega) (by omega), w64 (x := v + s) (by omega) (by omega), w64 (x := 2 * u) (by omega) (by omega), w64 (x := v + s + 1) (by omega) (by omega), Int.tmod_eq_emod_of_nonneg (a := v + s) (by omega)]
          unfold rnd
          rw [d1, d2, if_neg (show ¬ (2 : Int) = 0 by omega), if_neg (show ¬ (2 : Int) = 1 by omega)]
          by_cases c1 : 2 * u > 1000000000
          · rw [if_pos c1, if_neg (show ¬ 2 * u < 1000000000 by omega), if_pos (show (1000000000 : Int) < 2 * u by omega)]
          · rw [if_neg c1]
            by_cases c2 : 2 * u = 1000000000
            · rw [if_pos c2, if_neg (show ¬ 2 * u < 1000000000 by omega), if_neg (show ¬ (1000000000 : Int) < 2 * u by omega)]
              by_cases c3 : (v + s) % 2 = 1
              · rw [if_pos c3, if_neg (show ¬ (v + s) % 2 = 0 by omega)]
              · rw [if_neg c3, if_pos (show (v + s) % 2 = 0 by omega)]
            · rw [if_neg c2, if_pos (show 2 * u < 1000000000 by omega)]

theorem BrokeMasses : papermilllaw22_BrokeMasses.Pure := by
  intro a b _ _
  refine ⟨4000, ?_⟩
  unfold papermilllaw22_BrokeMasses.f
  rw [bmass_eq, ref_mass_eq _ _ _ (by omega), broke_awake _ (by omega)]
  simp
end Go.Proofs.Ythbpjiembjapdaa.Pure
