-- Written by a program (wip/prog/prune.py) out of the words that the kit's print lays: the declarations that this claim does not name are left out. Not trusted: Lean checks it.
import Derived.Test.YtnkmeocccbkdkaaWWords
import Derived.Laws.StructEq
/-! ### 53. '==' of structs as_ one Bool -/
namespace Go.Proofs.YtnkmeocccbkdkaaW.PrintWords
open Go.RowKit
section
variable {P : Program} {d : Nat} {xs ys : Array Value} {f : Field} {fs : List Field} {a b : Value} {r s : Bool} {w : World}
end
end Go.Proofs.YtnkmeocccbkdkaaW.PrintWords
