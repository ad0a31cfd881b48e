/-
  No cell of these rows narrows 'for every input' (looked for: loops, veiled, ifaces, maps, wideKeys, modest, calm, conditions, laid).
  DERIVED. THE GIVEN ROWS OF THIS SEAT. 7 by the template 'for every input the law returns true; each argument reads behind the call as it read before'; 0 by the template 'total and deterministic' (their statements: YtnjcedkgnjohfaaTotals.lean).
  GIVEN WITH THE SEED: the statements are not yours to turn. If you find one false, say at which input.
  Laid BY PROGRAM, IN A SANDBOX (cutbox-rows.mjs): the forced cells as the released guide's own fill.sh prints them over the translation 3aa742b6c43c01c6… (all of the seat's roots in one cut). By AI agents, Wed Nov 11 2026. No macro, syntax, notation, axiom, sorry.
-/
import Derived.Test.YtnjcedkgnjohfaaChecked
import GoSem.Claim
import GoSem.ClaimJoined
import GoSem.ClaimMapViews
import Derived.JoinedTies
import Derived.KernelRfl
namespace Go.Proofs.Ytnjcedkgnjohfaa
/- THE CELL 'sum', in the pinned program and in every row, IS THE sha256 OF THE DUMP (.gsa) THAT YtnjcedkgnjohfaaProg.lean LOADS. Nothing in Lean hashes anything: it is a label: what it is worth is what the hold of that sum in a sandbox is worth. -/
noncomputable def Try.pinned : Pinned := { name := "ytnjcedkgnjohfaa", sum := "3aa742b6c43c01c6cfe565d6f0b8a99614d4ba97ffcb46cef895d1e74eef566d", checked := Try.checked }
namespace Rows
def none {H : Type} : Left H := { results := [], args := [] }

/-- 'papermilllaw37.DiameterDias': WHATEVER THE INPUT: true; the input reads as it did. -/
def diameterDiasSpec : ChangeSpec := { name := "diameterDias", fn := fun _ => fun
  | [d1, d2, d3] => { results := [.lit (.bool true)], args := [d1, d2, d3] }
  | _ => none }
def diameterDiasRow : OpenClaim := { program := "ytnjcedkgnjohfaa", sum := "3aa742b6c43c01c6cfe565d6f0b8a99614d4ba97ffcb46cef895d1e74eef566d", func := "papermill/papermilllaw37.DiameterDias", spec := "diameterDias", unfollowed := true, recurses := true, apart := false }
def DiameterDiasSaid : Prop := diameterDiasRow.holds Try.pinned (OpenSpec.ofChange diameterDiasSpec)

/-- ITS FALSE NEIGHBOUR: 'it returns false'. Refute it at one input. -/
def diameterDiasWrong : ChangeSpec := { name := "diameterDias", fn := fun _ => fun
  | [d1, d2, d3] => { results := [.lit (.bool false)], args := [d1, d2, d3] }
  | _ => none }
def DiameterDiasWrongFalsely : Prop := diameterDiasRow.holds Try.pinned (OpenSpec.ofChange diameterDiasWrong)

/-- 'papermilllaw37.DiameterMasses': WHATEVER THE INPUT: true; the input reads as it did. -/
def diameterMassesSpec : ChangeSpec := { name := "diameterMasses", fn := fun _ => fun
  | [d1, d2, d3] => { results := [.lit (.bool true)], args := [d1, d2, d3] }
  | _ => none }
def diameterMassesRow : OpenClaim := { program := "ytnjcedkgnjohfaa", sum := "3aa742b6c43c01c6cfe565d6f0b8a99614d4ba97ffcb46cef895d1e74eef566d", func := "papermill/papermilllaw37.DiameterMasses", spec := "diameterMasses", unfollowed := true, recurses := true, apart := false }
def DiameterMassesSaid : Prop := diameterMassesRow.holds Try.pinned (OpenSpec.ofChange diameterMassesSpec)

/-- ITS FALSE NEIGHBOUR: 'it returns false'. Refute it at one input. -/
def diameterMassesWrong : ChangeSpec := { name := "diameterMasses", fn := fun _ => fun
  | [d1, d2, d3] => { results := [.lit (.bool false)], args := [d1, d2, d3] }
  | _ => none }
def DiameterMassesWrongFalsely : Prop := diameterMassesRow.holds Try.pinned (OpenSpec.ofChange diameterMassesWrong)

/-- 'papermilllaw37.DiameterInverse': WHATEVER THE INPUT: true; the input reads as it did. -/
def diameterInverseSpec : ChangeSpec := { name := "diameterInverse", fn := fun _ => fun
  | [d1, d2, d3] => { results := [.lit (.bool true)], args := [d1, d2, d3] }
  | _ => none }
def diameterInverseRow : OpenClaim := { program := "ytnjcedkgnjohfaa", sum := "3aa742b6c43c01c6cfe565d6f0b8a99614d4ba97ffcb46cef895d1e74eef566d", func := "papermill/papermilllaw37.DiameterInverse", spec := "diameterInverse", unfollowed := true, recurses := true, apart := false }
def DiameterInverseSaid : Prop := diameterInverseRow.holds Try.pinned (OpenSpec.ofChange diameterInverseSpec)

/-- ITS FALSE NEIGHBOUR: 'it returns false'. Refute it at one input. -/
def diameterInverseWrong : ChangeSpec := { name := "diameterInverse", fn := fun _ => fun
  | [d1, d2, d3] => { results := [.lit (.bool false)], args := [d1, d2, d3] }
  | _ => none }
def DiameterInverseWrongFalsely : Prop := diameterInverseRow.holds Try.pinned (OpenSpec.ofChange diameterInverseWrong)

/-- 'papermilllaw37.DiameterGrows': WHATEVER THE INPUT: true; the input reads as it did. -/
def diameterGrowsSpec : ChangeSpec := { name := "diameterGrows", fn := fun _ => fun
  | [d1, d2, d3] => { results := [.lit (.bool true)], args := [d1, d2, d3] }
  | _ => none }
def diameterGrowsRow : OpenClaim := { program := "ytnjcedkgnjohfaa", sum := "3aa742b6c43c01c6cfe565d6f0b8a99614d4ba97ffcb46cef895d1e74eef566d", func := "papermill/papermilllaw37.DiameterGrows", spec := "diameterGrows", unfollowed := true, recurses := true, apart := false }
def DiameterGrowsSaid : Prop := diameterGrowsRow.holds Try.pinned (OpenSpec.ofChange diameterGrowsSpec)

/-- ITS FALSE NEIGHBOUR: 'it returns false'. Refute it at one input. -/
def diameterGrowsWrong : ChangeSpec := { name := "diameterGrows", fn := fun _ => fun
  | [d1, d2, d3] => { results := [.lit (.bool false)], args := [d1, d2, d3] }
  | _ => none }
def DiameterGrowsWrongFalsely : Prop := diameterGrowsRow.holds Try.pinned (OpenSpec.ofChange diameterGrowsWrong)

/-- 'papermilllaw37.DiameterAdds': WHATEVER THE INPUT: true; the input reads as it did. -/
def diameterAddsSpec : ChangeSpec := { name := "diameterAdds", fn := fun _ => fun
  | [d1, d2] => { results := [.lit (.bool true)], args := [d1, d2] }
  | _ => none }
def diameterAddsRow : OpenClaim := { program := "ytnjcedkgnjohfaa", sum := "3aa742b6c43c01c6cfe565d6f0b8a99614d4ba97ffcb46cef895d1e74eef566d", func := "papermill/papermilllaw37.DiameterAdds", spec := "diameterAdds", unfollowed := true, recurses := true, apart := false }
def DiameterAddsSaid : Prop := diameterAddsRow.holds Try.pinned (OpenSpec.ofChange diameterAddsSpec)

/-- ITS FALSE NEIGHBOUR: 'it returns false'. Refute it at one input. -/
def diameterAddsWrong : ChangeSpec := { name := "diameterAdds", fn := fun _ => fun
  | [d1, d2] => { results := [.lit (.bool false)], args := [d1, d2] }
  | _ => none }
def DiameterAddsWrongFalsely : Prop := diameterAddsRow.holds Try.pinned (OpenSpec.ofChange diameterAddsWrong)

/-- 'papermilllaw37.DiameterParts': WHATEVER THE INPUT: true; the input reads as it did. -/
def diameterPartsSpec : ChangeSpec := { name := "diameterParts", fn := fun _ => fun
  | [d1, d2] => { results := [.lit (.bool true)], args := [d1, d2] }
  | _ => none }
def diameterPartsRow : OpenClaim := { program := "ytnjcedkgnjohfaa", sum := "3aa742b6c43c01c6cfe565d6f0b8a99614d4ba97ffcb46cef895d1e74eef566d", func := "papermill/papermilllaw37.DiameterParts", spec := "diameterParts", unfollowed := true, recurses := true, apart := false }
def DiameterPartsSaid : Prop := diameterPartsRow.holds Try.pinned (OpenSpec.ofChange diameterPartsSpec)

/-- ITS FALSE NEIGHBOUR: 'it returns false'. Refute it at one input. -/
def diameterPartsWrong : ChangeSpec := { name := "diameterParts", fn := fun _ => fun
  | [d1, d2] => { results := [.lit (.bool false)], args := [d1, d2] }
  | _ => none }
def DiameterPartsWrongFalsely : Prop := diameterPartsRow.holds Try.pinned (OpenSpec.ofChange diameterPartsWrong)

/-- 'papermilllaw37.DiameterLengths': WHATEVER THE INPUT: true; the input reads as it did. -/
def diameterLengthsSpec : ChangeSpec := { name := "diameterLengths", fn := fun _ => fun
  | [d1, d2, d3] => { results := [.lit (.bool true)], args := [d1, d2, d3] }
  | _ => none }
def diameterLengthsRow : OpenClaim := { program := "ytnjcedkgnjohfaa", sum := "3aa742b6c43c01c6cfe565d6f0b8a99614d4ba97ffcb46cef895d1e74eef566d", func := "papermill/papermilllaw37.DiameterLengths", spec := "diameterLengths", unfollowed := true, recurses := true, apart := false }
def DiameterLengthsSaid : Prop := diameterLengthsRow.holds Try.pinned (OpenSpec.ofChange diameterLengthsSpec)

/-- ITS FALSE NEIGHBOUR: 'it returns false'. Refute it at one input. -/
def diameterLengthsWrong : ChangeSpec := { name := "diameterLengths", fn := fun _ => fun
  | [d1, d2, d3] => { results := [.lit (.bool false)], args := [d1, d2, d3] }
  | _ => none }
def DiameterLengthsWrongFalsely : Prop := diameterLengthsRow.holds Try.pinned (OpenSpec.ofChange diameterLengthsWrong)

/- THE SECOND FORM. 'bulk': how many values and letters a reading holds, each counted each time it is reached (what is shared counts as often as it is met; a slice's spare places count too). A statement '..UptoSaid' is the law's where the arguments, and the package variables that the reading takes, are together of bulk at most 1048576: NARROWER than '..Said'. Prove '..Said' where nothing that the law and all that it calls make is longer than what came in: it says more and counts as full. Else prove '..UptoSaid'. A law counts once. -/
mutual
def uptoBulk {H : Type} : DataW H → Nat
  | .lit (.string bytes) => bytes.length + 1
  | .lit _ => 1
  | .nil => 1
  | .ptr d => uptoBulk d + 1
  | .slice elems spare => uptoBulkAll elems + uptoBulkAll spare + 1
  | .agg parts => uptoBulkAll parts + 1
  | .iface _ d => uptoBulk d + 1
  | .map entries => uptoBulkEntries entries + 1
  | .held _ => 1
def uptoBulkAll {H : Type} : List (DataW H) → Nat
  | [] => 0
  | d :: r => uptoBulk d + uptoBulkAll r
def uptoBulkEntries {H : Type} : List (Lit × DataW H) → Nat
  | [] => 0
  | x :: r => uptoBulkEntry x + uptoBulkEntries r
def uptoBulkEntry {H : Type} : Lit × DataW H → Nat
  | (.string bytes, d) => bytes.length + uptoBulk d + 1
  | (_, d) => uptoBulk d + 1
 end
def uptoSmall : (H : Type) → List (DataW H) → Bool := fun _ ds => decide (uptoBulkAll ds ≤ 1048576)
def OpenSpec.upto (s : _root_.Go.ChangeSpec) : _root_.Go.OpenSpec := { _root_.Go.OpenSpec.ofChange s with cond := some uptoSmall }

/-- 'papermilllaw37.DiameterDias', WHERE WHAT IT READS IS OF BULK AT MOST 1048576: true; the input reads as it did. -/
def diameterDiasUptoRow : OpenClaim := { program := "ytnjcedkgnjohfaa", sum := "3aa742b6c43c01c6cfe565d6f0b8a99614d4ba97ffcb46cef895d1e74eef566d", func := "papermill/papermilllaw37.DiameterDias", spec := "diameterDias", unfollowed := true, recurses := true, apart := false, narrowed := true }
def DiameterDiasUptoSaid : Prop := diameterDiasUptoRow.holds Try.pinned (OpenSpec.upto diameterDiasSpec)

/-- 'papermilllaw37.DiameterMasses', WHERE WHAT IT READS IS OF BULK AT MOST 1048576: true; the input reads as it did. -/
def diameterMassesUptoRow : OpenClaim := { program := "ytnjcedkgnjohfaa", sum := "3aa742b6c43c01c6cfe565d6f0b8a99614d4ba97ffcb46cef895d1e74eef566d", func := "papermill/papermilllaw37.DiameterMasses", spec := "diameterMasses", unfollowed := true, recurses := true, apart := false, narrowed := true }
def DiameterMassesUptoSaid : Prop := diameterMassesUptoRow.holds Try.pinned (OpenSpec.upto diameterMassesSpec)

/-- 'papermilllaw37.DiameterInverse', WHERE WHAT IT READS IS OF BULK AT MOST 1048576: true; the input reads as it did. -/
def diameterInverseUptoRow : OpenClaim := { program := "ytnjcedkgnjohfaa", sum := "3aa742b6c43c01c6cfe565d6f0b8a99614d4ba97ffcb46cef895d1e74eef566d", func := "papermill/papermilllaw37.DiameterInverse", spec := "diameterInverse", unfollowed := true, recurses := true, apart := false, narrowed := true }
def DiameterInverseUptoSaid : Prop := diameterInverseUptoRow.holds Try.pinned (OpenSpec.upto diameterInverseSpec)

/-- 'papermilllaw37.DiameterGrows', WHERE WHAT IT READS IS OF BULK AT MOST 1048576: true; the input reads as it did. -/
def diameterGrowsUptoRow : OpenClaim := { program := "ytnjcedkgnjohfaa", sum := "3aa742b6c43c01c6cfe565d6f0b8a99614d4ba97ffcb46cef895d1e74eef566d", func := "papermill/papermilllaw37.DiameterGrows", spec := "diameterGrows", unfollowed := true, recurses := true, apart := false, narrowed := true }
def DiameterGrowsUptoSaid : Prop := diameterGrowsUptoRow.holds Try.pinned (OpenSpec.upto diameterGrowsSpec)

/-- 'papermilllaw37.DiameterAdds', WHERE WHAT IT READS IS OF BULK AT MOST 1048576: true; the input reads as it did. -/
def diameterAddsUptoRow : OpenClaim := { program := "ytnjcedkgnjohfaa", sum := "3aa742b6c43c01c6cfe565d6f0b8a99614d4ba97ffcb46cef895d1e74eef566d", func := "papermill/papermilllaw37.DiameterAdds", spec := "diameterAdds", unfollowed := true, recurses := true, apart := false, narrowed := true }
def DiameterAddsUptoSaid : Prop := diameterAddsUptoRow.holds Try.pinned (OpenSpec.upto diameterAddsSpec)

/-- 'papermilllaw37.DiameterParts', WHERE WHAT IT READS IS OF BULK AT MOST 1048576: true; the input reads as it did. -/
def diameterPartsUptoRow : OpenClaim := { program := "ytnjcedkgnjohfaa", sum := "3aa742b6c43c01c6cfe565d6f0b8a99614d4ba97ffcb46cef895d1e74eef566d", func := "papermill/papermilllaw37.DiameterParts", spec := "diameterParts", unfollowed := true, recurses := true, apart := false, narrowed := true }
def DiameterPartsUptoSaid : Prop := diameterPartsUptoRow.holds Try.pinned (OpenSpec.upto diameterPartsSpec)

/-- 'papermilllaw37.DiameterLengths', WHERE WHAT IT READS IS OF BULK AT MOST 1048576: true; the input reads as it did. -/
def diameterLengthsUptoRow : OpenClaim := { program := "ytnjcedkgnjohfaa", sum := "3aa742b6c43c01c6cfe565d6f0b8a99614d4ba97ffcb46cef895d1e74eef566d", func := "papermill/papermilllaw37.DiameterLengths", spec := "diameterLengths", unfollowed := true, recurses := true, apart := false, narrowed := true }
def DiameterLengthsUptoSaid : Prop := diameterLengthsUptoRow.holds Try.pinned (OpenSpec.upto diameterLengthsSpec)

end Rows
end Go.Proofs.Ytnjcedkgnjohfaa
