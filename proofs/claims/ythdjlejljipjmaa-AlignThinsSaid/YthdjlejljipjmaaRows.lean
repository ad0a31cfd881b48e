/-
  No cell of these rows narrows 'for every input' (looked for: loops, veiled, ifaces, maps, wideKeys, modest, calm, conditions, laid).
  DERIVED. THE GIVEN ROWS OF THIS SEAT. 8 by the template 'for every input the law returns true; each argument reads behind the call as it read before'; 0 by the template 'total and deterministic' (their statements: YthdjlejljipjmaaTotals.lean).
  GIVEN WITH THE SEED: the statements are not yours to turn. If you find one false, say at which input.
  Laid BY PROGRAM, IN A SANDBOX (cutbox-rows.mjs): the forced cells as the released guide's own fill.sh prints them over the translation eaed99d78a3e2f42… (all of the seat's roots in one cut). By AI agents, Wed Nov 11 2026. No macro, syntax, notation, axiom, sorry.
-/
import Derived.Test.YthdjlejljipjmaaChecked
import GoSem.Claim
import GoSem.ClaimJoined
import GoSem.ClaimMapViews
import Derived.JoinedTies
import Derived.KernelRfl
namespace Go.Proofs.Ythdjlejljipjmaa
/- THE CELL 'sum', in the pinned program and in every row, IS THE sha256 OF THE DUMP (.gsa) THAT YthdjlejljipjmaaProg.lean LOADS. Nothing in Lean hashes anything: it is a label: what it is worth is what the hold of that sum in a sandbox is worth. -/
noncomputable def Try.pinned : Pinned := { name := "ythdjlejljipjmaa", sum := "eaed99d78a3e2f42250e1924b18558d3a6ab1a40b482450028e0a2b0035e857b", checked := Try.checked }
namespace Rows
def none {H : Type} : Left H := { results := [], args := [] }

/-- 'papermilllaw14.AlignChecks': WHATEVER THE INPUT: true; the input reads as it did. -/
def alignChecksSpec : ChangeSpec := { name := "alignChecks", fn := fun _ => fun
  | [d] => { results := [.lit (.bool true)], args := [d] }
  | _ => none }
def alignChecksRow : OpenClaim := { program := "ythdjlejljipjmaa", sum := "eaed99d78a3e2f42250e1924b18558d3a6ab1a40b482450028e0a2b0035e857b", func := "papermill/papermilllaw14.AlignChecks", spec := "alignChecks", unfollowed := true, recurses := true, apart := false }
def AlignChecksSaid : Prop := alignChecksRow.holds Try.pinned (OpenSpec.ofChange alignChecksSpec)

/-- ITS FALSE NEIGHBOUR: 'it returns false'. Refute it at one input. -/
def alignChecksWrong : ChangeSpec := { name := "alignChecks", fn := fun _ => fun
  | [d] => { results := [.lit (.bool false)], args := [d] }
  | _ => none }
def AlignChecksWrongFalsely : Prop := alignChecksRow.holds Try.pinned (OpenSpec.ofChange alignChecksWrong)

/-- 'papermilllaw14.AlignForwards': WHATEVER THE INPUT: true; the input reads as it did. -/
def alignForwardsSpec : ChangeSpec := { name := "alignForwards", fn := fun _ => fun
  | [d1, d2] => { results := [.lit (.bool true)], args := [d1, d2] }
  | _ => none }
def alignForwardsRow : OpenClaim := { program := "ythdjlejljipjmaa", sum := "eaed99d78a3e2f42250e1924b18558d3a6ab1a40b482450028e0a2b0035e857b", func := "papermill/papermilllaw14.AlignForwards", spec := "alignForwards", unfollowed := true, recurses := true, apart := false }
def AlignForwardsSaid : Prop := alignForwardsRow.holds Try.pinned (OpenSpec.ofChange alignForwardsSpec)

/-- ITS FALSE NEIGHBOUR: 'it returns false'. Refute it at one input. -/
def alignForwardsWrong : ChangeSpec := { name := "alignForwards", fn := fun _ => fun
  | [d1, d2] => { results := [.lit (.bool false)], args := [d1, d2] }
  | _ => none }
def AlignForwardsWrongFalsely : Prop := alignForwardsRow.holds Try.pinned (OpenSpec.ofChange alignForwardsWrong)

/-- 'papermilllaw14.AlignBacks': WHATEVER THE INPUT: true; the input reads as it did. -/
def alignBacksSpec : ChangeSpec := { name := "alignBacks", fn := fun _ => fun
  | [d1, d2] => { results := [.lit (.bool true)], args := [d1, d2] }
  | _ => none }
def alignBacksRow : OpenClaim := { program := "ythdjlejljipjmaa", sum := "eaed99d78a3e2f42250e1924b18558d3a6ab1a40b482450028e0a2b0035e857b", func := "papermill/papermilllaw14.AlignBacks", spec := "alignBacks", unfollowed := true, recurses := true, apart := false }
def AlignBacksSaid : Prop := alignBacksRow.holds Try.pinned (OpenSpec.ofChange alignBacksSpec)

/-- ITS FALSE NEIGHBOUR: 'it returns false'. Refute it at one input. -/
def alignBacksWrong : ChangeSpec := { name := "alignBacks", fn := fun _ => fun
  | [d1, d2] => { results := [.lit (.bool false)], args := [d1, d2] }
  | _ => none }
def AlignBacksWrongFalsely : Prop := alignBacksRow.holds Try.pinned (OpenSpec.ofChange alignBacksWrong)

/-- 'papermilllaw14.AlignCovers': WHATEVER THE INPUT: true; the input reads as it did. -/
def alignCoversSpec : ChangeSpec := { name := "alignCovers", fn := fun _ => fun
  | [d1, d2] => { results := [.lit (.bool true)], args := [d1, d2] }
  | _ => none }
def alignCoversRow : OpenClaim := { program := "ythdjlejljipjmaa", sum := "eaed99d78a3e2f42250e1924b18558d3a6ab1a40b482450028e0a2b0035e857b", func := "papermill/papermilllaw14.AlignCovers", spec := "alignCovers", unfollowed := true, recurses := true, apart := false }
def AlignCoversSaid : Prop := alignCoversRow.holds Try.pinned (OpenSpec.ofChange alignCoversSpec)

/-- ITS FALSE NEIGHBOUR: 'it returns false'. Refute it at one input. -/
def alignCoversWrong : ChangeSpec := { name := "alignCovers", fn := fun _ => fun
  | [d1, d2] => { results := [.lit (.bool false)], args := [d1, d2] }
  | _ => none }
def AlignCoversWrongFalsely : Prop := alignCoversRow.holds Try.pinned (OpenSpec.ofChange alignCoversWrong)

/-- 'papermilllaw14.AlignThins': WHATEVER THE INPUT: true; the input reads as it did. -/
def alignThinsSpec : ChangeSpec := { name := "alignThins", fn := fun _ => fun
  | [d] => { results := [.lit (.bool true)], args := [d] }
  | _ => none }
def alignThinsRow : OpenClaim := { program := "ythdjlejljipjmaa", sum := "eaed99d78a3e2f42250e1924b18558d3a6ab1a40b482450028e0a2b0035e857b", func := "papermill/papermilllaw14.AlignThins", spec := "alignThins", unfollowed := true, recurses := true, apart := false }
def AlignThinsSaid : Prop := alignThinsRow.holds Try.pinned (OpenSpec.ofChange alignThinsSpec)

/-- ITS FALSE NEIGHBOUR: 'it returns false'. Refute it at one input. -/
def alignThinsWrong : ChangeSpec := { name := "alignThins", fn := fun _ => fun
  | [d] => { results := [.lit (.bool false)], args := [d] }
  | _ => none }
def AlignThinsWrongFalsely : Prop := alignThinsRow.holds Try.pinned (OpenSpec.ofChange alignThinsWrong)

/-- 'papermilllaw14.AlignInverse': WHATEVER THE INPUT: true; the input reads as it did. -/
def alignInverseSpec : ChangeSpec := { name := "alignInverse", fn := fun _ => fun
  | [d1, d2, d3] => { results := [.lit (.bool true)], args := [d1, d2, d3] }
  | _ => none }
def alignInverseRow : OpenClaim := { program := "ythdjlejljipjmaa", sum := "eaed99d78a3e2f42250e1924b18558d3a6ab1a40b482450028e0a2b0035e857b", func := "papermill/papermilllaw14.AlignInverse", spec := "alignInverse", unfollowed := true, recurses := true, apart := false }
def AlignInverseSaid : Prop := alignInverseRow.holds Try.pinned (OpenSpec.ofChange alignInverseSpec)

/-- ITS FALSE NEIGHBOUR: 'it returns false'. Refute it at one input. -/
def alignInverseWrong : ChangeSpec := { name := "alignInverse", fn := fun _ => fun
  | [d1, d2, d3] => { results := [.lit (.bool false)], args := [d1, d2, d3] }
  | _ => none }
def AlignInverseWrongFalsely : Prop := alignInverseRow.holds Try.pinned (OpenSpec.ofChange alignInverseWrong)

/-- 'papermilllaw14.AlignLine': WHATEVER THE INPUT: true; the input reads as it did. -/
def alignLineSpec : ChangeSpec := { name := "alignLine", fn := fun _ => fun
  | [d1, d2, d3] => { results := [.lit (.bool true)], args := [d1, d2, d3] }
  | _ => none }
def alignLineRow : OpenClaim := { program := "ythdjlejljipjmaa", sum := "eaed99d78a3e2f42250e1924b18558d3a6ab1a40b482450028e0a2b0035e857b", func := "papermill/papermilllaw14.AlignLine", spec := "alignLine", unfollowed := true, recurses := true, apart := false }
def AlignLineSaid : Prop := alignLineRow.holds Try.pinned (OpenSpec.ofChange alignLineSpec)

/-- ITS FALSE NEIGHBOUR: 'it returns false'. Refute it at one input. -/
def alignLineWrong : ChangeSpec := { name := "alignLine", fn := fun _ => fun
  | [d1, d2, d3] => { results := [.lit (.bool false)], args := [d1, d2, d3] }
  | _ => none }
def AlignLineWrongFalsely : Prop := alignLineRow.holds Try.pinned (OpenSpec.ofChange alignLineWrong)

/-- 'papermilllaw14.AlignCovered': WHATEVER THE INPUT: true; the input reads as it did. -/
def alignCoveredSpec : ChangeSpec := { name := "alignCovered", fn := fun _ => fun
  | [d1, d2, d3, d4] => { results := [.lit (.bool true)], args := [d1, d2, d3, d4] }
  | _ => none }
def alignCoveredRow : OpenClaim := { program := "ythdjlejljipjmaa", sum := "eaed99d78a3e2f42250e1924b18558d3a6ab1a40b482450028e0a2b0035e857b", func := "papermill/papermilllaw14.AlignCovered", spec := "alignCovered", unfollowed := true, recurses := true, apart := false }
def AlignCoveredSaid : Prop := alignCoveredRow.holds Try.pinned (OpenSpec.ofChange alignCoveredSpec)

/-- ITS FALSE NEIGHBOUR: 'it returns false'. Refute it at one input. -/
def alignCoveredWrong : ChangeSpec := { name := "alignCovered", fn := fun _ => fun
  | [d1, d2, d3, d4] => { results := [.lit (.bool false)], args := [d1, d2, d3, d4] }
  | _ => none }
def AlignCoveredWrongFalsely : Prop := alignCoveredRow.holds Try.pinned (OpenSpec.ofChange alignCoveredWrong)

/- THE SECOND FORM. 'bulk': how many values and letters a reading holds, each counted each time it is reached (what is shared counts as often as it is met; a slice's spare places count too). A statement '..UptoSaid' is the law's where the arguments, and the package variables that the reading takes, are together of bulk at most 1048576: NARROWER than '..Said'. Prove '..Said' where nothing that the law and all that it calls make is longer than what came in: it says more and counts as full. Else prove '..UptoSaid'. A law counts once. -/
mutual
def uptoBulk {H : Type} : DataW H → Nat
  | .lit (.string bytes) => bytes.length + 1
  | .lit _ => 1
  | .nil => 1
  | .ptr d => uptoBulk d + 1
  | .slice elems spare => uptoBulkAll elems + uptoBulkAll spare + 1
  | .agg parts => uptoBulkAll parts + 1
  | .iface _ d => uptoBulk d + 1
  | .map entries => uptoBulkEntries entries + 1
  | .held _ => 1
def uptoBulkAll {H : Type} : List (DataW H) → Nat
  | [] => 0
  | d :: r => uptoBulk d + uptoBulkAll r
def uptoBulkEntries {H : Type} : List (Lit × DataW H) → Nat
  | [] => 0
  | x :: r => uptoBulkEntry x + uptoBulkEntries r
def uptoBulkEntry {H : Type} : Lit × DataW H → Nat
  | (.string bytes, d) => bytes.length + uptoBulk d + 1
  | (_, d) => uptoBulk d + 1
 end
def uptoSmall : (H : Type) → List (DataW H) → Bool := fun _ ds => decide (uptoBulkAll ds ≤ 1048576)
def OpenSpec.upto (s : _root_.Go.ChangeSpec) : _root_.Go.OpenSpec := { _root_.Go.OpenSpec.ofChange s with cond := some uptoSmall }

/-- 'papermilllaw14.AlignChecks', WHERE WHAT IT READS IS OF BULK AT MOST 1048576: true; the input reads as it did. -/
def alignChecksUptoRow : OpenClaim := { program := "ythdjlejljipjmaa", sum := "eaed99d78a3e2f42250e1924b18558d3a6ab1a40b482450028e0a2b0035e857b", func := "papermill/papermilllaw14.AlignChecks", spec := "alignChecks", unfollowed := true, recurses := true, apart := false, narrowed := true }
def AlignChecksUptoSaid : Prop := alignChecksUptoRow.holds Try.pinned (OpenSpec.upto alignChecksSpec)

/-- 'papermilllaw14.AlignForwards', WHERE WHAT IT READS IS OF BULK AT MOST 1048576: true; the input reads as it did. -/
def alignForwardsUptoRow : OpenClaim := { program := "ythdjlejljipjmaa", sum := "eaed99d78a3e2f42250e1924b18558d3a6ab1a40b482450028e0a2b0035e857b", func := "papermill/papermilllaw14.AlignForwards", spec := "alignForwards", unfollowed := true, recurses := true, apart := false, narrowed := true }
def AlignForwardsUptoSaid : Prop := alignForwardsUptoRow.holds Try.pinned (OpenSpec.upto alignForwardsSpec)

/-- 'papermilllaw14.AlignBacks', WHERE WHAT IT READS IS OF BULK AT MOST 1048576: true; the input reads as it did. -/
def alignBacksUptoRow : OpenClaim := { program := "ythdjlejljipjmaa", sum := "eaed99d78a3e2f42250e1924b18558d3a6ab1a40b482450028e0a2b0035e857b", func := "papermill/papermilllaw14.AlignBacks", spec := "alignBacks", unfollowed := true, recurses := true, apart := false, narrowed := true }
def AlignBacksUptoSaid : Prop := alignBacksUptoRow.holds Try.pinned (OpenSpec.upto alignBacksSpec)

/-- 'papermilllaw14.AlignCovers', WHERE WHAT IT READS IS OF BULK AT MOST 1048576: true; the input reads as it did. -/
def alignCoversUptoRow : OpenClaim := { program := "ythdjlejljipjmaa", sum := "eaed99d78a3e2f42250e1924b18558d3a6ab1a40b482450028e0a2b0035e857b", func := "papermill/papermilllaw14.AlignCovers", spec := "alignCovers", unfollowed := true, recurses := true, apart := false, narrowed := true }
def AlignCoversUptoSaid : Prop := alignCoversUptoRow.holds Try.pinned (OpenSpec.upto alignCoversSpec)

/-- 'papermilllaw14.AlignThins', WHERE WHAT IT READS IS OF BULK AT MOST 1048576: true; the input reads as it did. -/
def alignThinsUptoRow : OpenClaim := { program := "ythdjlejljipjmaa", sum := "eaed99d78a3e2f42250e1924b18558d3a6ab1a40b482450028e0a2b0035e857b", func := "papermill/papermilllaw14.AlignThins", spec := "alignThins", unfollowed := true, recurses := true, apart := false, narrowed := true }
def AlignThinsUptoSaid : Prop := alignThinsUptoRow.holds Try.pinned (OpenSpec.upto alignThinsSpec)

/-- 'papermilllaw14.AlignInverse', WHERE WHAT IT READS IS OF BULK AT MOST 1048576: true; the input reads as it did. -/
def alignInverseUptoRow : OpenClaim := { program := "ythdjlejljipjmaa", sum := "eaed99d78a3e2f42250e1924b18558d3a6ab1a40b482450028e0a2b0035e857b", func := "papermill/papermilllaw14.AlignInverse", spec := "alignInverse", unfollowed := true, recurses := true, apart := false, narrowed := true }
def AlignInverseUptoSaid : Prop := alignInverseUptoRow.holds Try.pinned (OpenSpec.upto alignInverseSpec)

/-- 'papermilllaw14.AlignLine', WHERE WHAT IT READS IS OF BULK AT MOST 1048576: true; the input reads as it did. -/
def alignLineUptoRow : OpenClaim := { program := "ythdjlejljipjmaa", sum := "eaed99d78a3e2f42250e1924b18558d3a6ab1a40b482450028e0a2b0035e857b", func := "papermill/papermilllaw14.AlignLine", spec := "alignLine", unfollowed := true, recurses := true, apart := false, narrowed := true }
def AlignLineUptoSaid : Prop := alignLineUptoRow.holds Try.pinned (OpenSpec.upto alignLineSpec)

/-- 'papermilllaw14.AlignCovered', WHERE WHAT IT READS IS OF BULK AT MOST 1048576: true; the input reads as it did. -/
def alignCoveredUptoRow : OpenClaim := { program := "ythdjlejljipjmaa", sum := "eaed99d78a3e2f42250e1924b18558d3a6ab1a40b482450028e0a2b0035e857b", func := "papermill/papermilllaw14.AlignCovered", spec := "alignCovered", unfollowed := true, recurses := true, apart := false, narrowed := true }
def AlignCoveredUptoSaid : Prop := alignCoveredUptoRow.holds Try.pinned (OpenSpec.upto alignCoveredSpec)

end Rows
end Go.Proofs.Ythdjlejljipjmaa
