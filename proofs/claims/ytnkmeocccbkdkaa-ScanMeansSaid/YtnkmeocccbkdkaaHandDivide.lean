/- nat.divide is not asked by this claim: no divisor here has two limbs. -/
import Derived.Test.YtnkmeocccbkdkaaPx0
import Derived.WalkKit
import Derived.Laws.Rows
namespace Go.Proofs.Ytnkmeocccbkdkaa.P
open Go.RowKit Go.Proofs.YtnkmeocccbkdkaaW.PrintWords Go.Proofs.YtnkmeocccbkdkaaW.PrintLast Go.Proofs.YtnkmeocccbkdkaaW.PrintMore
set_option linter.unusedVariables false
def nat_divide.f (l0 : List Int) (l1 : List Int) : Option (List Int × List Int) := none
theorem nat_divide.calls (A0 : Option Addr) (c0 : Nat) (l0 : List Int) (A1 : Option Addr) (c1 : Nat) (l1 : List Int) (r1 : List Int) (r2 : List Int) (w : World) (hr0 : Kd.C (Kd.int .i64) w A0 l0.length l0) (hc0 : l0.length ≤ c0) (hr1 : Kd.C (Kd.int .i64) w A1 l1.length l1) (hc1 : l1.length ≤ c1) (h : nat_divide.f l0 l1 = some (r1, r2)) :
    Calls Try.prog 70 #[.slice A0 l0.length c0, .slice A1 l1.length c1] w fun e w' => ∃ v0_ v1_ : Value, e = .returned (.tuple #[v0_, v1_]) ∧ Kd.R (Kd.int .i64) 3 w' w.heap.size (fun k_ => some k_ ≠ (v1_ : Value).ownBlock) v0_ r1 ∧ Kd.R (Kd.int .i64) 3 w' w.heap.size (fun k_ => some k_ ≠ (v0_ : Value).ownBlock) v1_ r2 ∧ Below w.heap.size w w' := by
  exact absurd h (by simp [nat_divide.f])
end Go.Proofs.Ytnkmeocccbkdkaa.P
