/- The statement DiameterMasses over numbers alone: Mass and its reference answer alike, for any three integers. -/
import Derived.Test.YtnjcedkgnjohfaaPx10
import Derived.Test.YtnjcedkgnjohfaaDiaSpec
import Derived.Test.YtnjcedkgnjohfaaRefMd
import Derived.Test.YtnjcedkgnjohfaaPx3
namespace Go.Proofs.Ytnjcedkgnjohfaa.Pure
open Go.RowKit Go.Proofs.Ytnjcedkgnjohfaa.P Go.Proofs.YtnjcedkgnjohfaaW.PrintWords Go.Proofs.YtnjcedkgnjohfaaW.PrintLast Go.Proofs.Ytnjcedkgnjohfaa.Math
set_option linter.unusedVariables false

theorem refMass_eq (wd ln bs : Int) (k : Nat) (hk : 100 ≤ k) : papermillref37_Mass.f k wd ln bs = some (massSpec wd ln bs) := by
  obtain ⟨k, rfl⟩ : ∃ m, k = m + 1 := ⟨k - 1, by omega⟩
  have bad : (wd < 0 ∨ 12000 < wd ∨ ln < 0 ∨ 17179869184 < ln ∨ bs < 0 ∨ 1000000 < bs) → massSpec wd ln bs = (0, 1) := fun h => by unfold massSpec; rw [if_pos h]
  unfold papermillref37_Mass.f
  by_cases a1 : wd < 0
  · rw [if_pos a1, bad (by omega)]
  · rw [if_neg a1]
    by_cases a2 : wd > 12000
    · rw [if_pos a2, bad (by omega)]
    · rw [if_neg a2]
      by_cases a3 : ln < 0
      · rw [if_pos a3, bad (by omega)]
      · rw [if_neg a3]
        by_cases a4 : ln > 17179869184
        · rw [if_pos a4, bad (by omega)]
        · rw [if_neg a4]
          by_cases a5 : bs < 0
          · rw [if_pos a5, bad (by omega)]
          · rw [if_neg a5]
            by_cases a6 : bs > 1000000
            · rw [if_pos a6, bad (by omega)]
            · have b := mul3_bounds wd ln bs (by omega) (by omega) (by omega) (by omega) (by omega) (by omega)
              rw [if_neg a6, wrap64_id (by omega) (by omega), ref_MulDiv_eq _ _ _ _ _ (by omega)]
              simp only [Option.bind_some]
              rw [md_mass wd ln bs (by omega) (by omega) (by omega) (by omega) (by omega) (by omega)]
              unfold massSpec
              rw [if_neg (by omega)]

theorem DiameterMasses : papermilllaw37_DiameterMasses.Pure := by
  intro a0 a1 a2 _ _ _
  refine ⟨3000, ?_⟩
  unfold papermilllaw37_DiameterMasses.f
  rw [mass_eq, refMass_eq a0 a1 a2 3000 (by omega), dia_awake 3000 (by omega)]
  simp

end Go.Proofs.Ytnjcedkgnjohfaa.Pure
