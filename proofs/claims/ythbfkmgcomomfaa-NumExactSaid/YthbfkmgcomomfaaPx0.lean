-- Written by a program (wip/prog/pp.py) over the kit's print; some of its functions are proved by hand. Not trusted: Lean checks it.
import Derived.Test.YthbfkmgcomomfaaProg
import Derived.Below
import Derived.Deep.Draws
import Derived.Deep.AppendLies
import Derived.Maps.AppendAt
import Derived.OwnWalk
import Derived.Laws.BytesArg
import Derived.Laws.MakeOwn
import Derived.Laws.OwnMore
import Derived.Deep.OwnRows
import Derived.Tactics
import Derived.Lib.ConvBytes
import Derived.Laws.Slices
import Derived.WalkKit
import Derived.KernelRfl
import Derived.RowKit3
import Derived.Deep.LoopGhost
import Derived.Deep.QuietTactic
import Derived.BigQuiet
import Derived.WideLaws
import Derived.Deep.DeepCutAuto
import Derived.Deep.CutBlock
import Derived.Deep.RegionHeld3
import Derived.Laws.Rows
import Derived.Lib.AppendStr
import Derived.ArgAppend
import Derived.Laws.IdiomCopy
import Derived.OrdersHeld
import Derived.Laws.BitsLemmas
import Derived.RowKit
import Derived.Test.YthbfkmgcomomfaaWWords
import Derived.Test.YthbfkmgcomomfaaWLast
import Derived.Test.YthbfkmgcomomfaaWTab
import Derived.Test.YthbfkmgcomomfaaWFour
import Derived.Test.YthbfkmgcomomfaaWQPut
import Derived.Test.YthbfkmgcomomfaaWApart
import Derived.Test.YthbfkmgcomomfaaWArr
import Derived.Test.YthbfkmgcomomfaaWZeros
import Derived.Test.YthbfkmgcomomfaaWFoot
import Derived.Test.YthbfkmgcomomfaaWKept
import Derived.Test.YthbfkmgcomomfaaWShare
import Derived.Test.YthbfkmgcomomfaaWN
import Derived.Test.YthbfkmgcomomfaaWFootNe
import Derived.Test.YthbfkmgcomomfaaWAt
import Derived.Test.YthbfkmgcomomfaaWEqStruct
import Derived.Test.YthbfkmgcomomfaaWRepsOne
import Derived.Test.YthbfkmgcomomfaaWInv
import Derived.Test.YthbfkmgcomomfaaWInvWords
import Derived.Test.YthbfkmgcomomfaaWGuard
import Derived.Test.YthbfkmgcomomfaaWNEv
import Derived.Test.YthbfkmgcomomfaaWMore
namespace Go.Proofs.Ythbfkmgcomomfaa.P
open Go.RowKit Go.Proofs.YthbfkmgcomomfaaW.PrintWords Go.Proofs.YthbfkmgcomomfaaW.PrintLast Go.Proofs.YthbfkmgcomomfaaW.PrintMore
attribute [local go_sem] max2_int min2_int max_two min_two max_three min_three max_four min_four   -- for this text's walks alone
set_option linter.unusedVariables false
set_option linter.unusedSimpArgs false



def errW : Option Int → Value
  | none => .nilIface
  | some c => .iface 0 (.int .i64 c)
theorem errW_none : errW none = .nilIface := rfl
theorem errW_some (c : Int) : errW (some c) = .iface 0 (.int .i64 c) := rfl

theorem info3 : (Try.prog.info? 3).map (fun i => (i.zero, i.size, i.bytes)) = some (some (.int .i64 0), 1, 8) := by kernel_rfl
-- the values' own types

end Go.Proofs.Ythbfkmgcomomfaa.P
