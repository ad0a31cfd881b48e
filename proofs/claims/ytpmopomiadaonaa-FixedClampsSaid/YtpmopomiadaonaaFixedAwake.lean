/- The small case of the chapter holds. -/
import Derived.Test.YtpmopomiadaonaaPx9
namespace Go.Proofs.Ytpmopomiadaonaa.P
open Go.RowKit Go.Proofs.YtpmopomiadaonaaW.PrintWords Go.Proofs.YtpmopomiadaonaaW.PrintLast Go.Proofs.YtpmopomiadaonaaW.PrintMore
theorem fixed_awake_at : papermilllaw23_awake.f 100 = some true := by decide +kernel
theorem fixed_awake (k : Nat) (hk : 100 ≤ k) : papermilllaw23_awake.f k = some true := at_rounds papermilllaw23_awake.mono hk fixed_awake_at
end Go.Proofs.Ytpmopomiadaonaa.P
