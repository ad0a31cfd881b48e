/-
  No cell of these rows narrows 'for every input' (looked for: loops, veiled, ifaces, maps, wideKeys, modest, calm, conditions, laid).
  DERIVED. THE GIVEN ROWS OF THIS SEAT. 7 by the template 'for every input the law returns true; each argument reads behind the call as it read before'; 0 by the template 'total and deterministic' (their statements: YtcpmnimjlhfdmaaTotals.lean).
  GIVEN WITH THE SEED: the statements are not yours to turn. If you find one false, say at which input.
  Laid BY PROGRAM, IN A SANDBOX (cutbox-rows.mjs): the forced cells as the released guide's own fill.sh prints them over the translation 5a078d15026d3411… (all of the seat's roots in one cut). By AI agents, Wed Nov 11 2026. No macro, syntax, notation, axiom, sorry.
-/
import Derived.Test.YtcpmnimjlhfdmaaChecked
import GoSem.Claim
import GoSem.ClaimJoined
import GoSem.ClaimMapViews
import Derived.JoinedTies
import Derived.KernelRfl
namespace Go.Proofs.Ytcpmnimjlhfdmaa
/- THE CELL 'sum', in the pinned program and in every row, IS THE sha256 OF THE DUMP (.gsa) THAT YtcpmnimjlhfdmaaProg.lean LOADS. Nothing in Lean hashes anything: it is a label: what it is worth is what the hold of that sum in a sandbox is worth. -/
noncomputable def Try.pinned : Pinned := { name := "ytcpmnimjlhfdmaa", sum := "5a078d15026d341185599d175202b70502ee1d6c4006151c4085cef93b46aebe", checked := Try.checked }
namespace Rows
def none {H : Type} : Left H := { results := [], args := [] }

/-- 'papermilllaw35.ScanPlaces': WHATEVER THE INPUT: true; the input reads as it did. -/
def scanPlacesSpec : ChangeSpec := { name := "scanPlaces", fn := fun _ => fun
  | [d1, d2] => { results := [.lit (.bool true)], args := [d1, d2] }
  | _ => none }
def scanPlacesRow : OpenClaim := { program := "ytcpmnimjlhfdmaa", sum := "5a078d15026d341185599d175202b70502ee1d6c4006151c4085cef93b46aebe", func := "papermill/papermilllaw35.ScanPlaces", spec := "scanPlaces", unfollowed := true, recurses := true, apart := false }
def ScanPlacesSaid : Prop := scanPlacesRow.holds Try.pinned (OpenSpec.ofChange scanPlacesSpec)

/-- ITS FALSE NEIGHBOUR: 'it returns false'. Refute it at one input. -/
def scanPlacesWrong : ChangeSpec := { name := "scanPlaces", fn := fun _ => fun
  | [d1, d2] => { results := [.lit (.bool false)], args := [d1, d2] }
  | _ => none }
def ScanPlacesWrongFalsely : Prop := scanPlacesRow.holds Try.pinned (OpenSpec.ofChange scanPlacesWrong)

/-- 'papermilllaw35.ScanEdges': WHATEVER THE INPUT: true; the input reads as it did. -/
def scanEdgesSpec : ChangeSpec := { name := "scanEdges", fn := fun _ => fun
  | [d] => { results := [.lit (.bool true)], args := [d] }
  | _ => none }
def scanEdgesRow : OpenClaim := { program := "ytcpmnimjlhfdmaa", sum := "5a078d15026d341185599d175202b70502ee1d6c4006151c4085cef93b46aebe", func := "papermill/papermilllaw35.ScanEdges", spec := "scanEdges", unfollowed := true, recurses := true, apart := false }
def ScanEdgesSaid : Prop := scanEdgesRow.holds Try.pinned (OpenSpec.ofChange scanEdgesSpec)

/-- ITS FALSE NEIGHBOUR: 'it returns false'. Refute it at one input. -/
def scanEdgesWrong : ChangeSpec := { name := "scanEdges", fn := fun _ => fun
  | [d] => { results := [.lit (.bool false)], args := [d] }
  | _ => none }
def ScanEdgesWrongFalsely : Prop := scanEdgesRow.holds Try.pinned (OpenSpec.ofChange scanEdgesWrong)

/-- 'papermilllaw35.ScanProfiles': WHATEVER THE INPUT: true; the input reads as it did. -/
def scanProfilesSpec : ChangeSpec := { name := "scanProfiles", fn := fun _ => fun
  | [d1, d2] => { results := [.lit (.bool true)], args := [d1, d2] }
  | _ => none }
def scanProfilesRow : OpenClaim := { program := "ytcpmnimjlhfdmaa", sum := "5a078d15026d341185599d175202b70502ee1d6c4006151c4085cef93b46aebe", func := "papermill/papermilllaw35.ScanProfiles", spec := "scanProfiles", unfollowed := true, recurses := true, apart := false }
def ScanProfilesSaid : Prop := scanProfilesRow.holds Try.pinned (OpenSpec.ofChange scanProfilesSpec)

/-- ITS FALSE NEIGHBOUR: 'it returns false'. Refute it at one input. -/
def scanProfilesWrong : ChangeSpec := { name := "scanProfiles", fn := fun _ => fun
  | [d1, d2] => { results := [.lit (.bool false)], args := [d1, d2] }
  | _ => none }
def ScanProfilesWrongFalsely : Prop := scanProfilesRow.holds Try.pinned (OpenSpec.ofChange scanProfilesWrong)

/-- 'papermilllaw35.ScanCovers': WHATEVER THE INPUT: true; the input reads as it did. -/
def scanCoversSpec : ChangeSpec := { name := "scanCovers", fn := fun _ => fun
  | [d1, d2] => { results := [.lit (.bool true)], args := [d1, d2] }
  | _ => none }
def scanCoversRow : OpenClaim := { program := "ytcpmnimjlhfdmaa", sum := "5a078d15026d341185599d175202b70502ee1d6c4006151c4085cef93b46aebe", func := "papermill/papermilllaw35.ScanCovers", spec := "scanCovers", unfollowed := true, recurses := true, apart := false }
def ScanCoversSaid : Prop := scanCoversRow.holds Try.pinned (OpenSpec.ofChange scanCoversSpec)

/-- ITS FALSE NEIGHBOUR: 'it returns false'. Refute it at one input. -/
def scanCoversWrong : ChangeSpec := { name := "scanCovers", fn := fun _ => fun
  | [d1, d2] => { results := [.lit (.bool false)], args := [d1, d2] }
  | _ => none }
def ScanCoversWrongFalsely : Prop := scanCoversRow.holds Try.pinned (OpenSpec.ofChange scanCoversWrong)

/-- 'papermilllaw35.ScanProfile': WHATEVER THE INPUT: true; the input reads as it did. -/
def scanProfileSpec : ChangeSpec := { name := "scanProfile", fn := fun _ => fun
  | [d1, d2, d3] => { results := [.lit (.bool true)], args := [d1, d2, d3] }
  | _ => none }
def scanProfileRow : OpenClaim := { program := "ytcpmnimjlhfdmaa", sum := "5a078d15026d341185599d175202b70502ee1d6c4006151c4085cef93b46aebe", func := "papermill/papermilllaw35.ScanProfile", spec := "scanProfile", unfollowed := true, recurses := true, apart := false }
def ScanProfileSaid : Prop := scanProfileRow.holds Try.pinned (OpenSpec.ofChange scanProfileSpec)

/-- ITS FALSE NEIGHBOUR: 'it returns false'. Refute it at one input. -/
def scanProfileWrong : ChangeSpec := { name := "scanProfile", fn := fun _ => fun
  | [d1, d2, d3] => { results := [.lit (.bool false)], args := [d1, d2, d3] }
  | _ => none }
def ScanProfileWrongFalsely : Prop := scanProfileRow.holds Try.pinned (OpenSpec.ofChange scanProfileWrong)

/-- 'papermilllaw35.ScanJoins': WHATEVER THE INPUT: true; the input reads as it did. -/
def scanJoinsSpec : ChangeSpec := { name := "scanJoins", fn := fun _ => fun
  | [d1, d2, d3] => { results := [.lit (.bool true)], args := [d1, d2, d3] }
  | _ => none }
def scanJoinsRow : OpenClaim := { program := "ytcpmnimjlhfdmaa", sum := "5a078d15026d341185599d175202b70502ee1d6c4006151c4085cef93b46aebe", func := "papermill/papermilllaw35.ScanJoins", spec := "scanJoins", unfollowed := true, recurses := true, apart := false }
def ScanJoinsSaid : Prop := scanJoinsRow.holds Try.pinned (OpenSpec.ofChange scanJoinsSpec)

/-- ITS FALSE NEIGHBOUR: 'it returns false'. Refute it at one input. -/
def scanJoinsWrong : ChangeSpec := { name := "scanJoins", fn := fun _ => fun
  | [d1, d2, d3] => { results := [.lit (.bool false)], args := [d1, d2, d3] }
  | _ => none }
def ScanJoinsWrongFalsely : Prop := scanJoinsRow.holds Try.pinned (OpenSpec.ofChange scanJoinsWrong)

/-- 'papermilllaw35.ScanMoves': WHATEVER THE INPUT: true; the input reads as it did. -/
def scanMovesSpec : ChangeSpec := { name := "scanMoves", fn := fun _ => fun
  | [d1, d2] => { results := [.lit (.bool true)], args := [d1, d2] }
  | _ => none }
def scanMovesRow : OpenClaim := { program := "ytcpmnimjlhfdmaa", sum := "5a078d15026d341185599d175202b70502ee1d6c4006151c4085cef93b46aebe", func := "papermill/papermilllaw35.ScanMoves", spec := "scanMoves", unfollowed := true, recurses := true, apart := false }
def ScanMovesSaid : Prop := scanMovesRow.holds Try.pinned (OpenSpec.ofChange scanMovesSpec)

/-- ITS FALSE NEIGHBOUR: 'it returns false'. Refute it at one input. -/
def scanMovesWrong : ChangeSpec := { name := "scanMoves", fn := fun _ => fun
  | [d1, d2] => { results := [.lit (.bool false)], args := [d1, d2] }
  | _ => none }
def ScanMovesWrongFalsely : Prop := scanMovesRow.holds Try.pinned (OpenSpec.ofChange scanMovesWrong)

/- THE SECOND FORM. 'bulk': how many values and letters a reading holds, each counted each time it is reached (what is shared counts as often as it is met; a slice's spare places count too). A statement '..UptoSaid' is the law's where the arguments, and the package variables that the reading takes, are together of bulk at most 1048576: NARROWER than '..Said'. Prove '..Said' where nothing that the law and all that it calls make is longer than what came in: it says more and counts as full. Else prove '..UptoSaid'. A law counts once. -/
mutual
def uptoBulk {H : Type} : DataW H → Nat
  | .lit (.string bytes) => bytes.length + 1
  | .lit _ => 1
  | .nil => 1
  | .ptr d => uptoBulk d + 1
  | .slice elems spare => uptoBulkAll elems + uptoBulkAll spare + 1
  | .agg parts => uptoBulkAll parts + 1
  | .iface _ d => uptoBulk d + 1
  | .map entries => uptoBulkEntries entries + 1
  | .held _ => 1
def uptoBulkAll {H : Type} : List (DataW H) → Nat
  | [] => 0
  | d :: r => uptoBulk d + uptoBulkAll r
def uptoBulkEntries {H : Type} : List (Lit × DataW H) → Nat
  | [] => 0
  | x :: r => uptoBulkEntry x + uptoBulkEntries r
def uptoBulkEntry {H : Type} : Lit × DataW H → Nat
  | (.string bytes, d) => bytes.length + uptoBulk d + 1
  | (_, d) => uptoBulk d + 1
 end
def uptoSmall : (H : Type) → List (DataW H) → Bool := fun _ ds => decide (uptoBulkAll ds ≤ 1048576)
def OpenSpec.upto (s : _root_.Go.ChangeSpec) : _root_.Go.OpenSpec := { _root_.Go.OpenSpec.ofChange s with cond := some uptoSmall }

/-- 'papermilllaw35.ScanPlaces', WHERE WHAT IT READS IS OF BULK AT MOST 1048576: true; the input reads as it did. -/
def scanPlacesUptoRow : OpenClaim := { program := "ytcpmnimjlhfdmaa", sum := "5a078d15026d341185599d175202b70502ee1d6c4006151c4085cef93b46aebe", func := "papermill/papermilllaw35.ScanPlaces", spec := "scanPlaces", unfollowed := true, recurses := true, apart := false, narrowed := true }
def ScanPlacesUptoSaid : Prop := scanPlacesUptoRow.holds Try.pinned (OpenSpec.upto scanPlacesSpec)

/-- 'papermilllaw35.ScanEdges', WHERE WHAT IT READS IS OF BULK AT MOST 1048576: true; the input reads as it did. -/
def scanEdgesUptoRow : OpenClaim := { program := "ytcpmnimjlhfdmaa", sum := "5a078d15026d341185599d175202b70502ee1d6c4006151c4085cef93b46aebe", func := "papermill/papermilllaw35.ScanEdges", spec := "scanEdges", unfollowed := true, recurses := true, apart := false, narrowed := true }
def ScanEdgesUptoSaid : Prop := scanEdgesUptoRow.holds Try.pinned (OpenSpec.upto scanEdgesSpec)

/-- 'papermilllaw35.ScanProfiles', WHERE WHAT IT READS IS OF BULK AT MOST 1048576: true; the input reads as it did. -/
def scanProfilesUptoRow : OpenClaim := { program := "ytcpmnimjlhfdmaa", sum := "5a078d15026d341185599d175202b70502ee1d6c4006151c4085cef93b46aebe", func := "papermill/papermilllaw35.ScanProfiles", spec := "scanProfiles", unfollowed := true, recurses := true, apart := false, narrowed := true }
def ScanProfilesUptoSaid : Prop := scanProfilesUptoRow.holds Try.pinned (OpenSpec.upto scanProfilesSpec)

/-- 'papermilllaw35.ScanCovers', WHERE WHAT IT READS IS OF BULK AT MOST 1048576: true; the input reads as it did. -/
def scanCoversUptoRow : OpenClaim := { program := "ytcpmnimjlhfdmaa", sum := "5a078d15026d341185599d175202b70502ee1d6c4006151c4085cef93b46aebe", func := "papermill/papermilllaw35.ScanCovers", spec := "scanCovers", unfollowed := true, recurses := true, apart := false, narrowed := true }
def ScanCoversUptoSaid : Prop := scanCoversUptoRow.holds Try.pinned (OpenSpec.upto scanCoversSpec)

/-- 'papermilllaw35.ScanProfile', WHERE WHAT IT READS IS OF BULK AT MOST 1048576: true; the input reads as it did. -/
def scanProfileUptoRow : OpenClaim := { program := "ytcpmnimjlhfdmaa", sum := "5a078d15026d341185599d175202b70502ee1d6c4006151c4085cef93b46aebe", func := "papermill/papermilllaw35.ScanProfile", spec := "scanProfile", unfollowed := true, recurses := true, apart := false, narrowed := true }
def ScanProfileUptoSaid : Prop := scanProfileUptoRow.holds Try.pinned (OpenSpec.upto scanProfileSpec)

/-- 'papermilllaw35.ScanJoins', WHERE WHAT IT READS IS OF BULK AT MOST 1048576: true; the input reads as it did. -/
def scanJoinsUptoRow : OpenClaim := { program := "ytcpmnimjlhfdmaa", sum := "5a078d15026d341185599d175202b70502ee1d6c4006151c4085cef93b46aebe", func := "papermill/papermilllaw35.ScanJoins", spec := "scanJoins", unfollowed := true, recurses := true, apart := false, narrowed := true }
def ScanJoinsUptoSaid : Prop := scanJoinsUptoRow.holds Try.pinned (OpenSpec.upto scanJoinsSpec)

/-- 'papermilllaw35.ScanMoves', WHERE WHAT IT READS IS OF BULK AT MOST 1048576: true; the input reads as it did. -/
def scanMovesUptoRow : OpenClaim := { program := "ytcpmnimjlhfdmaa", sum := "5a078d15026d341185599d175202b70502ee1d6c4006151c4085cef93b46aebe", func := "papermill/papermilllaw35.ScanMoves", spec := "scanMoves", unfollowed := true, recurses := true, apart := false, narrowed := true }
def ScanMovesUptoSaid : Prop := scanMovesUptoRow.holds Try.pinned (OpenSpec.upto scanMovesSpec)

end Rows
end Go.Proofs.Ytcpmnimjlhfdmaa
