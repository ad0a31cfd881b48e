/- The statement DiameterDias over numbers alone: Dia and its reference answer alike, for any three integers. -/
import Derived.Test.YtnjcedkgnjohfaaPx8
import Derived.Test.YtnjcedkgnjohfaaDiaSpec
import Derived.Test.YtnjcedkgnjohfaaPx3
namespace Go.Proofs.Ytnjcedkgnjohfaa.Pure
open Go.RowKit Go.Proofs.Ytnjcedkgnjohfaa.P Go.Proofs.YtnjcedkgnjohfaaW.PrintWords Go.Proofs.YtnjcedkgnjohfaaW.PrintLast Go.Proofs.Ytnjcedkgnjohfaa.Math
set_option linter.unusedVariables false

theorem DiameterDias : papermilllaw37_DiameterDias.Pure := by
  intro a0 a1 a2 _ _ _
  refine ⟨3000, ?_⟩
  unfold papermilllaw37_DiameterDias.f diameter_Dia.f
  rw [refDia_eq a0 a1 a2 3000 (by omega), dia_awake 3000 (by omega)]
  simp

end Go.Proofs.Ytnjcedkgnjohfaa.Pure
