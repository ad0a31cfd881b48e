/- The statement DiameterGrows over numbers alone. -/
import Derived.Test.YtnjcedkgnjohfaaPx12
import Derived.Test.YtnjcedkgnjohfaaDiaSpec
import Derived.Test.YtnjcedkgnjohfaaPx3
namespace Go.Proofs.Ytnjcedkgnjohfaa.Pure
open Go.RowKit Go.Proofs.Ytnjcedkgnjohfaa.P Go.Proofs.YtnjcedkgnjohfaaW.PrintWords Go.Proofs.YtnjcedkgnjohfaaW.PrintLast Go.Proofs.Ytnjcedkgnjohfaa.Math
set_option linter.unusedVariables false

theorem lenOk (core dia cal : Int) (h1 : 1 ≤ core) (h2 : core ≤ dia) (h3 : dia ≤ 2500) (h4 : 1 ≤ cal) (h5 : cal ≤ 5000) : lenSpec core dia cal = (woundZ core dia cal, 0) := by
  unfold lenSpec; rw [if_neg (by omega), if_neg (by omega)]

theorem woundZ_nonneg (core dia cal : Int) (h1 : 0 ≤ core) (h2 : core ≤ dia) (h4 : 1 ≤ cal) : 0 ≤ woundZ core dia cal := by
  unfold woundZ
  have := sq_mono h1 h2
  exact Int.ediv_nonneg (by omega) (by omega)

theorem woundZ_thin (core dia cal : Int) (h1 : 0 ≤ core) (h2 : core ≤ dia) (h4 : 1 < cal) : woundZ core dia cal ≤ woundZ core dia (cal - 1) := by
  have h := sq_mono h1 h2
  have hn := woundZ_nonneg core dia cal h1 h2 (by omega)
  refine (Int.le_ediv_iff_mul_le (by omega)).2 ?_
  have h3 := Int.ediv_mul_le (3141592653 * ((dia * dia - core * core) * 250)) (show 1000000000 * cal ≠ 0 by omega)
  have h5 : woundZ core dia cal * (1000000000 * (cal - 1)) ≤ woundZ core dia cal * (1000000000 * cal) := Int.mul_le_mul_of_nonneg_left (by omega) hn
  exact Int.le_trans h5 h3

theorem DiameterGrows : papermilllaw37_DiameterGrows.Pure := by
  intro a0 a1 a2 _ _ _
  refine ⟨103, ?_⟩
  unfold papermilllaw37_DiameterGrows.f
  rw [length_eq _ _ _ 103 (by omega), length_eq _ _ _ 103 (by omega), dia_awake 103 (by omega)]
  simp only [Option.bind_some]
  by_cases hb : a0 < 1 ∨ 2500 < a0 ∨ a2 < 1 ∨ 5000 < a2 ∨ a1 < 1 ∨ 2500 < a1
  · have e : lenSpec a0 a1 a2 = (0, 1) := by unfold lenSpec; rw [if_pos hb]
    rw [e]; simp
  · by_cases ho : a1 < a0
    · have e : lenSpec a0 a1 a2 = (0, 9) := by unfold lenSpec; rw [if_neg hb, if_pos ho]
      rw [e]; simp
    · rw [lenOk a0 a1 a2 (by omega) (by omega) (by omega) (by omega) (by omega), lenOk a0 a0 a2 (by omega) (by omega) (by omega) (by omega) (by omega)]
      have z : woundZ a0 a0 a2 = 0 := by unfold woundZ; simp
      have hn := woundZ_nonneg a0 a1 a2 (by omega) (by omega) (by omega)
      simp only [if_true]
      rw [if_pos z, decide_eq_false (by omega)]
      simp only [papermilllaw37_DiameterGrows.j0]
      rw [if_neg (by simp)]
      have tail : ∀ k, 10 ≤ k → papermilllaw37_DiameterGrows.j1 (k + 1) a0 a1 a2 (woundZ a0 a1 a2) = some true := fun k hk => by
        simp only [papermilllaw37_DiameterGrows.j1]
        rw [dia_awake k hk, length_eq _ _ _ k (by omega)]
        by_cases c : a2 > 1
        · rw [if_pos c, wrap64_id (by omega) (by omega), lenOk a0 a1 (a2 - 1) (by omega) (by omega) (by omega) (by omega) (by omega)]
          have := woundZ_thin a0 a1 a2 (by omega) (by omega) (by omega)
          simp only [Option.bind_some, if_true]
          rw [if_neg (by omega)]
        · rw [if_neg c]; rfl
      by_cases c : a1 < 2500
      · rw [if_pos c, wrap64_id (by omega) (by omega), length_eq _ _ _ 102 (by omega), lenOk a0 (a1 + 1) a2 (by omega) (by omega) (by omega) (by omega) (by omega)]
        have := wound_mono a0 a1 (a1 + 1) a2 (by omega) (by omega) (by omega)
        simp only [Option.bind_some, if_true]
        rw [if_neg (by omega)]
        exact tail 101 (by omega)
      · rw [if_neg c]
        exact tail 101 (by omega)

end Go.Proofs.Ytnjcedkgnjohfaa.Pure
