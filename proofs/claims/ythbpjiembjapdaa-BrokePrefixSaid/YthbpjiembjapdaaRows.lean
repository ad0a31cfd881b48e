/-
  No cell of these rows narrows 'for every input' (looked for: loops, veiled, ifaces, maps, wideKeys, modest, calm, conditions, laid).
  DERIVED. THE GIVEN ROWS OF THIS SEAT. 6 by the template 'for every input the law returns true; each argument reads behind the call as it read before'; 0 by the template 'total and deterministic' (their statements: YthbpjiembjapdaaTotals.lean).
  GIVEN WITH THE SEED: the statements are not yours to turn. If you find one false, say at which input.
  Laid BY PROGRAM, IN A SANDBOX (cutbox-rows.mjs): the forced cells as the released guide's own fill.sh prints them over the translation d559da3e2a1f5804… (all of the seat's roots in one cut). By AI agents, Wed Nov 11 2026. No macro, syntax, notation, axiom, sorry.
-/
import Derived.Test.YthbpjiembjapdaaChecked
import GoSem.Claim
import GoSem.ClaimJoined
import GoSem.ClaimMapViews
import Derived.JoinedTies
import Derived.KernelRfl
namespace Go.Proofs.Ythbpjiembjapdaa
/- THE CELL 'sum', in the pinned program and in every row, IS THE sha256 OF THE DUMP (.gsa) THAT YthbpjiembjapdaaProg.lean LOADS. Nothing in Lean hashes anything: it is a label: what it is worth is what the hold of that sum in a sandbox is worth. -/
noncomputable def Try.pinned : Pinned := { name := "ythbpjiembjapdaa", sum := "d559da3e2a1f58040b7cd1b8062f39c0695b28db96127b869a4666e57f2b3e2c", checked := Try.checked }
namespace Rows
def none {H : Type} : Left H := { results := [], args := [] }

/-- 'papermilllaw22.BrokeBalance': WHATEVER THE INPUT: true; the input reads as it did. -/
def brokeBalanceSpec : ChangeSpec := { name := "brokeBalance", fn := fun _ => fun
  | [d1, d2] => { results := [.lit (.bool true)], args := [d1, d2] }
  | _ => none }
def brokeBalanceRow : OpenClaim := { program := "ythbpjiembjapdaa", sum := "d559da3e2a1f58040b7cd1b8062f39c0695b28db96127b869a4666e57f2b3e2c", func := "papermill/papermilllaw22.BrokeBalance", spec := "brokeBalance", apart := false }
def BrokeBalanceSaid : Prop := brokeBalanceRow.holds Try.pinned (OpenSpec.ofChange brokeBalanceSpec)

/-- ITS FALSE NEIGHBOUR: 'it returns false'. Refute it at one input. -/
def brokeBalanceWrong : ChangeSpec := { name := "brokeBalance", fn := fun _ => fun
  | [d1, d2] => { results := [.lit (.bool false)], args := [d1, d2] }
  | _ => none }
def BrokeBalanceWrongFalsely : Prop := brokeBalanceRow.holds Try.pinned (OpenSpec.ofChange brokeBalanceWrong)

/-- 'papermilllaw22.BrokeChecks': WHATEVER THE INPUT: true; the input reads as it did. -/
def brokeChecksSpec : ChangeSpec := { name := "brokeChecks", fn := fun _ => fun
  | [d1, d2] => { results := [.lit (.bool true)], args := [d1, d2] }
  | _ => none }
def brokeChecksRow : OpenClaim := { program := "ythbpjiembjapdaa", sum := "d559da3e2a1f58040b7cd1b8062f39c0695b28db96127b869a4666e57f2b3e2c", func := "papermill/papermilllaw22.BrokeChecks", spec := "brokeChecks", apart := false }
def BrokeChecksSaid : Prop := brokeChecksRow.holds Try.pinned (OpenSpec.ofChange brokeChecksSpec)

/-- ITS FALSE NEIGHBOUR: 'it returns false'. Refute it at one input. -/
def brokeChecksWrong : ChangeSpec := { name := "brokeChecks", fn := fun _ => fun
  | [d1, d2] => { results := [.lit (.bool false)], args := [d1, d2] }
  | _ => none }
def BrokeChecksWrongFalsely : Prop := brokeChecksRow.holds Try.pinned (OpenSpec.ofChange brokeChecksWrong)

/-- 'papermilllaw22.BrokeLevels': WHATEVER THE INPUT: true; the input reads as it did. -/
def brokeLevelsSpec : ChangeSpec := { name := "brokeLevels", fn := fun _ => fun
  | [d1, d2, d3] => { results := [.lit (.bool true)], args := [d1, d2, d3] }
  | _ => none }
def brokeLevelsRow : OpenClaim := { program := "ythbpjiembjapdaa", sum := "d559da3e2a1f58040b7cd1b8062f39c0695b28db96127b869a4666e57f2b3e2c", func := "papermill/papermilllaw22.BrokeLevels", spec := "brokeLevels", apart := false }
def BrokeLevelsSaid : Prop := brokeLevelsRow.holds Try.pinned (OpenSpec.ofChange brokeLevelsSpec)

/-- ITS FALSE NEIGHBOUR: 'it returns false'. Refute it at one input. -/
def brokeLevelsWrong : ChangeSpec := { name := "brokeLevels", fn := fun _ => fun
  | [d1, d2, d3] => { results := [.lit (.bool false)], args := [d1, d2, d3] }
  | _ => none }
def BrokeLevelsWrongFalsely : Prop := brokeLevelsRow.holds Try.pinned (OpenSpec.ofChange brokeLevelsWrong)

/-- 'papermilllaw22.BrokeMasses': WHATEVER THE INPUT: true; the input reads as it did. -/
def brokeMassesSpec : ChangeSpec := { name := "brokeMasses", fn := fun _ => fun
  | [d1, d2] => { results := [.lit (.bool true)], args := [d1, d2] }
  | _ => none }
def brokeMassesRow : OpenClaim := { program := "ythbpjiembjapdaa", sum := "d559da3e2a1f58040b7cd1b8062f39c0695b28db96127b869a4666e57f2b3e2c", func := "papermill/papermilllaw22.BrokeMasses", spec := "brokeMasses", apart := false }
def BrokeMassesSaid : Prop := brokeMassesRow.holds Try.pinned (OpenSpec.ofChange brokeMassesSpec)

/-- ITS FALSE NEIGHBOUR: 'it returns false'. Refute it at one input. -/
def brokeMassesWrong : ChangeSpec := { name := "brokeMasses", fn := fun _ => fun
  | [d1, d2] => { results := [.lit (.bool false)], args := [d1, d2] }
  | _ => none }
def BrokeMassesWrongFalsely : Prop := brokeMassesRow.holds Try.pinned (OpenSpec.ofChange brokeMassesWrong)

/-- 'papermilllaw22.BrokeAdds': WHATEVER THE INPUT: true; the input reads as it did. -/
def brokeAddsSpec : ChangeSpec := { name := "brokeAdds", fn := fun _ => fun
  | [d1, d2, d3] => { results := [.lit (.bool true)], args := [d1, d2, d3] }
  | _ => none }
def brokeAddsRow : OpenClaim := { program := "ythbpjiembjapdaa", sum := "d559da3e2a1f58040b7cd1b8062f39c0695b28db96127b869a4666e57f2b3e2c", func := "papermill/papermilllaw22.BrokeAdds", spec := "brokeAdds", apart := false }
def BrokeAddsSaid : Prop := brokeAddsRow.holds Try.pinned (OpenSpec.ofChange brokeAddsSpec)

/-- ITS FALSE NEIGHBOUR: 'it returns false'. Refute it at one input. -/
def brokeAddsWrong : ChangeSpec := { name := "brokeAdds", fn := fun _ => fun
  | [d1, d2, d3] => { results := [.lit (.bool false)], args := [d1, d2, d3] }
  | _ => none }
def BrokeAddsWrongFalsely : Prop := brokeAddsRow.holds Try.pinned (OpenSpec.ofChange brokeAddsWrong)

/-- 'papermilllaw22.BrokePrefix': WHATEVER THE INPUT: true; the input reads as it did. -/
def brokePrefixSpec : ChangeSpec := { name := "brokePrefix", fn := fun _ => fun
  | [d1, d2, d3] => { results := [.lit (.bool true)], args := [d1, d2, d3] }
  | _ => none }
def brokePrefixRow : OpenClaim := { program := "ythbpjiembjapdaa", sum := "d559da3e2a1f58040b7cd1b8062f39c0695b28db96127b869a4666e57f2b3e2c", func := "papermill/papermilllaw22.BrokePrefix", spec := "brokePrefix", apart := false }
def BrokePrefixSaid : Prop := brokePrefixRow.holds Try.pinned (OpenSpec.ofChange brokePrefixSpec)

/-- ITS FALSE NEIGHBOUR: 'it returns false'. Refute it at one input. -/
def brokePrefixWrong : ChangeSpec := { name := "brokePrefix", fn := fun _ => fun
  | [d1, d2, d3] => { results := [.lit (.bool false)], args := [d1, d2, d3] }
  | _ => none }
def BrokePrefixWrongFalsely : Prop := brokePrefixRow.holds Try.pinned (OpenSpec.ofChange brokePrefixWrong)

/- THE SECOND FORM. 'bulk': how many values and letters a reading holds, each counted each time it is reached (what is shared counts as often as it is met; a slice's spare places count too). A statement '..UptoSaid' is the law's where the arguments, and the package variables that the reading takes, are together of bulk at most 1048576: NARROWER than '..Said'. Prove '..Said' where nothing that the law and all that it calls make is longer than what came in: it says more and counts as full. Else prove '..UptoSaid'. A law counts once. -/
mutual
def uptoBulk {H : Type} : DataW H → Nat
  | .lit (.string bytes) => bytes.length + 1
  | .lit _ => 1
  | .nil => 1
  | .ptr d => uptoBulk d + 1
  | .slice elems spare => uptoBulkAll elems + uptoBulkAll spare + 1
  | .agg parts => uptoBulkAll parts + 1
  | .iface _ d => uptoBulk d + 1
  | .map entries => uptoBulkEntries entries + 1
  | .held _ => 1
def uptoBulkAll {H : Type} : List (DataW H) → Nat
  | [] => 0
  | d :: r => uptoBulk d + uptoBulkAll r
def uptoBulkEntries {H : Type} : List (Lit × DataW H) → Nat
  | [] => 0
  | x :: r => uptoBulkEntry x + uptoBulkEntries r
def uptoBulkEntry {H : Type} : Lit × DataW H → Nat
  | (.string bytes, d) => bytes.length + uptoBulk d + 1
  | (_, d) => uptoBulk d + 1
 end
def uptoSmall : (H : Type) → List (DataW H) → Bool := fun _ ds => decide (uptoBulkAll ds ≤ 1048576)
def OpenSpec.upto (s : _root_.Go.ChangeSpec) : _root_.Go.OpenSpec := { _root_.Go.OpenSpec.ofChange s with cond := some uptoSmall }

/-- 'papermilllaw22.BrokeBalance', WHERE WHAT IT READS IS OF BULK AT MOST 1048576: true; the input reads as it did. -/
def brokeBalanceUptoRow : OpenClaim := { program := "ythbpjiembjapdaa", sum := "d559da3e2a1f58040b7cd1b8062f39c0695b28db96127b869a4666e57f2b3e2c", func := "papermill/papermilllaw22.BrokeBalance", spec := "brokeBalance", apart := false, narrowed := true }
def BrokeBalanceUptoSaid : Prop := brokeBalanceUptoRow.holds Try.pinned (OpenSpec.upto brokeBalanceSpec)

/-- 'papermilllaw22.BrokeChecks', WHERE WHAT IT READS IS OF BULK AT MOST 1048576: true; the input reads as it did. -/
def brokeChecksUptoRow : OpenClaim := { program := "ythbpjiembjapdaa", sum := "d559da3e2a1f58040b7cd1b8062f39c0695b28db96127b869a4666e57f2b3e2c", func := "papermill/papermilllaw22.BrokeChecks", spec := "brokeChecks", apart := false, narrowed := true }
def BrokeChecksUptoSaid : Prop := brokeChecksUptoRow.holds Try.pinned (OpenSpec.upto brokeChecksSpec)

/-- 'papermilllaw22.BrokeLevels', WHERE WHAT IT READS IS OF BULK AT MOST 1048576: true; the input reads as it did. -/
def brokeLevelsUptoRow : OpenClaim := { program := "ythbpjiembjapdaa", sum := "d559da3e2a1f58040b7cd1b8062f39c0695b28db96127b869a4666e57f2b3e2c", func := "papermill/papermilllaw22.BrokeLevels", spec := "brokeLevels", apart := false, narrowed := true }
def BrokeLevelsUptoSaid : Prop := brokeLevelsUptoRow.holds Try.pinned (OpenSpec.upto brokeLevelsSpec)

/-- 'papermilllaw22.BrokeMasses', WHERE WHAT IT READS IS OF BULK AT MOST 1048576: true; the input reads as it did. -/
def brokeMassesUptoRow : OpenClaim := { program := "ythbpjiembjapdaa", sum := "d559da3e2a1f58040b7cd1b8062f39c0695b28db96127b869a4666e57f2b3e2c", func := "papermill/papermilllaw22.BrokeMasses", spec := "brokeMasses", apart := false, narrowed := true }
def BrokeMassesUptoSaid : Prop := brokeMassesUptoRow.holds Try.pinned (OpenSpec.upto brokeMassesSpec)

/-- 'papermilllaw22.BrokeAdds', WHERE WHAT IT READS IS OF BULK AT MOST 1048576: true; the input reads as it did. -/
def brokeAddsUptoRow : OpenClaim := { program := "ythbpjiembjapdaa", sum := "d559da3e2a1f58040b7cd1b8062f39c0695b28db96127b869a4666e57f2b3e2c", func := "papermill/papermilllaw22.BrokeAdds", spec := "brokeAdds", apart := false, narrowed := true }
def BrokeAddsUptoSaid : Prop := brokeAddsUptoRow.holds Try.pinned (OpenSpec.upto brokeAddsSpec)

/-- 'papermilllaw22.BrokePrefix', WHERE WHAT IT READS IS OF BULK AT MOST 1048576: true; the input reads as it did. -/
def brokePrefixUptoRow : OpenClaim := { program := "ythbpjiembjapdaa", sum := "d559da3e2a1f58040b7cd1b8062f39c0695b28db96127b869a4666e57f2b3e2c", func := "papermill/papermilllaw22.BrokePrefix", spec := "brokePrefix", apart := false, narrowed := true }
def BrokePrefixUptoSaid : Prop := brokePrefixUptoRow.holds Try.pinned (OpenSpec.upto brokePrefixSpec)

end Rows
end Go.Proofs.Ythbpjiembjapdaa
