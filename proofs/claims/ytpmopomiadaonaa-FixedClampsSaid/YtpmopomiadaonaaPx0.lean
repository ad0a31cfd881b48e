-- Written by a program (wip/prog/pp.py) over the kit's print; some of its functions are proved by hand. Not trusted: Lean checks it.
import Derived.Test.YtpmopomiadaonaaProg
import Derived.Below
import Derived.Deep.Draws
import Derived.Deep.AppendLies
import Derived.Maps.AppendAt
import Derived.OwnWalk
import Derived.Laws.BytesArg
import Derived.Laws.MakeOwn
import Derived.Laws.OwnMore
import Derived.Deep.OwnRows
import Derived.Tactics
import Derived.Lib.ConvBytes
import Derived.Laws.Slices
import Derived.WalkKit
import Derived.KernelRfl
import Derived.RowKit3
import Derived.Deep.LoopGhost
import Derived.Deep.QuietTactic
import Derived.BigQuiet
import Derived.WideLaws
import Derived.Deep.DeepCutAuto
import Derived.Deep.CutBlock
import Derived.Deep.RegionHeld3
import Derived.Laws.Rows
import Derived.Lib.AppendStr
import Derived.ArgAppend
import Derived.Laws.IdiomCopy
import Derived.OrdersHeld
import Derived.Laws.BitsLemmas
import Derived.RowKit
import Derived.Test.YtpmopomiadaonaaWWords
import Derived.Test.YtpmopomiadaonaaWLast
import Derived.Test.YtpmopomiadaonaaWTab
import Derived.Test.YtpmopomiadaonaaWFour
import Derived.Test.YtpmopomiadaonaaWQPut
import Derived.Test.YtpmopomiadaonaaWApart
import Derived.Test.YtpmopomiadaonaaWArr
import Derived.Test.YtpmopomiadaonaaWZeros
import Derived.Test.YtpmopomiadaonaaWFoot
import Derived.Test.YtpmopomiadaonaaWKept
import Derived.Test.YtpmopomiadaonaaWShare
import Derived.Test.YtpmopomiadaonaaWN
import Derived.Test.YtpmopomiadaonaaWFootNe
import Derived.Test.YtpmopomiadaonaaWAt
import Derived.Test.YtpmopomiadaonaaWEqStruct
import Derived.Test.YtpmopomiadaonaaWRepsOne
import Derived.Test.YtpmopomiadaonaaWInv
import Derived.Test.YtpmopomiadaonaaWInvWords
import Derived.Test.YtpmopomiadaonaaWGuard
import Derived.Test.YtpmopomiadaonaaWNEv
import Derived.Test.YtpmopomiadaonaaWMore
namespace Go.Proofs.Ytpmopomiadaonaa.P
open Go.RowKit Go.Proofs.YtpmopomiadaonaaW.PrintWords Go.Proofs.YtpmopomiadaonaaW.PrintLast Go.Proofs.YtpmopomiadaonaaW.PrintMore
attribute [local go_sem] max2_int min2_int max_two min_two max_three min_three max_four min_four   -- for this text's walks alone
set_option linter.unusedVariables false
set_option linter.unusedSimpArgs false



def errW : Option Int → Value
  | none => .nilIface
  | some c => .iface 0 (.int .i64 c)
theorem errW_none : errW none = .nilIface := rfl
theorem errW_some (c : Int) : errW (some c) = .iface 0 (.int .i64 c) := rfl

theorem info3 : (Try.prog.info? 3).map (fun i => (i.zero, i.size, i.bytes)) = some (some (.int .i64 0), 1, 8) := by kernel_rfl
-- the values' own types

end Go.Proofs.Ytpmopomiadaonaa.P
