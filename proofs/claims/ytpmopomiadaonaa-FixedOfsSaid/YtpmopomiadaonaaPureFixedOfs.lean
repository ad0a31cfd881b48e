/- The statement FixedOfs over numbers alone: Of and Ratio and their references answer alike, for any two integers. -/
import Derived.Test.YtpmopomiadaonaaPx10
import Derived.Test.YtpmopomiadaonaaFixedSpec
import Derived.Test.YtpmopomiadaonaaFixedAwake
namespace Go.Proofs.Ytpmopomiadaonaa.Pure
open Go.RowKit Go.Proofs.Ytpmopomiadaonaa.P Go.Proofs.YtpmopomiadaonaaW.PrintWords Go.Proofs.YtpmopomiadaonaaW.PrintLast Go.Proofs.Ytpmopomiadaonaa.Math
set_option linter.unusedVariables false

theorem FixedOfs : papermilllaw23_FixedOfs.Pure := by
  intro a b _ _
  refine ⟨200, ?_⟩
  unfold papermilllaw23_FixedOfs.f
  rw [ref_of_eq, of_eq, ratio_eq _ _ _ (by omega), ref_ratio_eq _ _ _ (by omega), fixed_awake 200 (by omega)]
  simp

end Go.Proofs.Ytpmopomiadaonaa.Pure
