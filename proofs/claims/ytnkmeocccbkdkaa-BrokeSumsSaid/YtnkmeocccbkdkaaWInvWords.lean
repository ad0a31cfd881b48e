-- Written by a program (wip/prog/prune.py) out of the words that the kit's print lays: the declarations that this claim does not name are left out. Not trusted: Lean checks it.
import Derived.Test.YtnkmeocccbkdkaaWInv
import Derived.Test.YtnkmeocccbkdkaaWFootNe
namespace Go.Proofs.YtnkmeocccbkdkaaW.PrintWords
open Go.RowKit
end Go.Proofs.YtnkmeocccbkdkaaW.PrintWords
namespace Go.Proofs.YtnkmeocccbkdkaaW.PrintLast
section
variable {ops : Array Oper} {a : Act} {o og : Oper} {g : Nat} {t : Tmp} {u : Bool}
end
end Go.Proofs.YtnkmeocccbkdkaaW.PrintLast
