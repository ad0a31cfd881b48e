-- Written by a program (wip/prog/prune.py) out of the words that the kit's print lays: the declarations that this claim does not name are left out. Not trusted: Lean checks it.
import Derived.Test.YtnkmeocccbkdkaaWN
/-! ### 52. A row that stays read whatever happens to a block (a set of blocks) doesn't lie there -/
namespace Go.Proofs.YtnkmeocccbkdkaaW.PrintWords
open Go.RowKit
namespace Kd
section
variable {α : Type} {d : Kd α} {W : World} {g n : Nat} {S ok : Nat → Prop} {A : Option Addr} {ad : Addr} {xs : List α}
end
end Kd
end Go.Proofs.YtnkmeocccbkdkaaW.PrintWords
