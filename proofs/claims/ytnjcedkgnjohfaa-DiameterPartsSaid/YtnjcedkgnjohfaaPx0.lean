-- Written by a program (wip/prog/pp.py) over the kit's print; some of its functions are proved by hand. Not trusted: Lean checks it.
import Derived.Test.YtnjcedkgnjohfaaProg
import Derived.Below
import Derived.Deep.Draws
import Derived.Deep.AppendLies
import Derived.Maps.AppendAt
import Derived.OwnWalk
import Derived.Laws.BytesArg
import Derived.Laws.MakeOwn
import Derived.Laws.OwnMore
import Derived.Deep.OwnRows
import Derived.Tactics
import Derived.Lib.ConvBytes
import Derived.Laws.Slices
import Derived.WalkKit
import Derived.KernelRfl
import Derived.RowKit3
import Derived.Deep.LoopGhost
import Derived.Deep.QuietTactic
import Derived.BigQuiet
import Derived.WideLaws
import Derived.Deep.DeepCutAuto
import Derived.Deep.CutBlock
import Derived.Deep.RegionHeld3
import Derived.Laws.Rows
import Derived.Lib.AppendStr
import Derived.ArgAppend
import Derived.Laws.IdiomCopy
import Derived.OrdersHeld
import Derived.Laws.BitsLemmas
import Derived.RowKit
import Derived.Test.YtnjcedkgnjohfaaWWords
import Derived.Test.YtnjcedkgnjohfaaWLast
import Derived.Test.YtnjcedkgnjohfaaWTab
import Derived.Test.YtnjcedkgnjohfaaWFour
import Derived.Test.YtnjcedkgnjohfaaWQPut
import Derived.Test.YtnjcedkgnjohfaaWApart
import Derived.Test.YtnjcedkgnjohfaaWArr
import Derived.Test.YtnjcedkgnjohfaaWZeros
import Derived.Test.YtnjcedkgnjohfaaWFoot
import Derived.Test.YtnjcedkgnjohfaaWKept
import Derived.Test.YtnjcedkgnjohfaaWShare
import Derived.Test.YtnjcedkgnjohfaaWN
import Derived.Test.YtnjcedkgnjohfaaWFootNe
import Derived.Test.YtnjcedkgnjohfaaWAt
import Derived.Test.YtnjcedkgnjohfaaWEqStruct
import Derived.Test.YtnjcedkgnjohfaaWRepsOne
import Derived.Test.YtnjcedkgnjohfaaWInv
import Derived.Test.YtnjcedkgnjohfaaWInvWords
import Derived.Test.YtnjcedkgnjohfaaWGuard
import Derived.Test.YtnjcedkgnjohfaaWNEv
import Derived.Test.YtnjcedkgnjohfaaWMore
namespace Go.Proofs.Ytnjcedkgnjohfaa.P
open Go.RowKit Go.Proofs.YtnjcedkgnjohfaaW.PrintWords Go.Proofs.YtnjcedkgnjohfaaW.PrintLast Go.Proofs.YtnjcedkgnjohfaaW.PrintMore
attribute [local go_sem] max2_int min2_int max_two min_two max_three min_three max_four min_four   -- for this text's walks alone
set_option linter.unusedVariables false
set_option linter.unusedSimpArgs false



def errW : Option Int → Value
  | none => .nilIface
  | some c => .iface 0 (.int .i64 c)
theorem errW_none : errW none = .nilIface := rfl
theorem errW_some (c : Int) : errW (some c) = .iface 0 (.int .i64 c) := rfl

-- the values' own types

end Go.Proofs.Ytnjcedkgnjohfaa.P
