/- The small case of the chapter holds; few. -/
import Derived.Test.YthdjlejljipjmaaPx13
import Derived.Test.YthdjlejljipjmaaPx3
namespace Go.Proofs.Ythdjlejljipjmaa.P
open Go.RowKit Go.Proofs.YthdjlejljipjmaaW.PrintWords Go.Proofs.YthdjlejljipjmaaW.PrintLast Go.Proofs.YthdjlejljipjmaaW.PrintMore
theorem align_awake_at : papermilllaw14_awake.f 300 = some true := by decide +kernel
theorem align_awake (k : Nat) (hk : 300 ≤ k) : papermilllaw14_awake.f k = some true := at_rounds papermilllaw14_awake.mono hk align_awake_at
end Go.Proofs.Ythdjlejljipjmaa.P
