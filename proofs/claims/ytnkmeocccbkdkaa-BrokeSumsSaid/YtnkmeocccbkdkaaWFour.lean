-- Written by a program (wip/prog/prune.py) out of the words that the kit's print lays: the declarations that this claim does not name are left out. Not trusted: Lean checks it.
import Derived.Test.YtnkmeocccbkdkaaWTab
/-! ### 56. Four, five, six operations that may come up next, in any order -/
namespace Go.Proofs.YtnkmeocccbkdkaaW.PrintLast
section
variable {P : Program} {ops : Array Oper} {Q : Exit → Act → World → Prop} {md : Region.Mode} {S : World → Prop} {ds : List Nat} {T : Bool × List (List Nat × List Nat)}
end
end Go.Proofs.YtnkmeocccbkdkaaW.PrintLast
