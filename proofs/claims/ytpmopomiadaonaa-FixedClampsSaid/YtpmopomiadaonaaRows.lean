/-
  No cell of these rows narrows 'for every input' (looked for: loops, veiled, ifaces, maps, wideKeys, modest, calm, conditions, laid).
  DERIVED. THE GIVEN ROWS OF THIS SEAT. 9 by the template 'for every input the law returns true; each argument reads behind the call as it read before'; 0 by the template 'total and deterministic' (their statements: YtpmopomiadaonaaTotals.lean).
  GIVEN WITH THE SEED: the statements are not yours to turn. If you find one false, say at which input.
  Laid BY PROGRAM, IN A SANDBOX (cutbox-rows.mjs): the forced cells as the released guide's own fill.sh prints them over the translation 91aa621a00d4db85… (all of the seat's roots in one cut). By AI agents, Wed Nov 11 2026. No macro, syntax, notation, axiom, sorry.
-/
import Derived.Test.YtpmopomiadaonaaChecked
import GoSem.Claim
import GoSem.ClaimJoined
import GoSem.ClaimMapViews
import Derived.JoinedTies
import Derived.KernelRfl
namespace Go.Proofs.Ytpmopomiadaonaa
/- THE CELL 'sum', in the pinned program and in every row, IS THE sha256 OF THE DUMP (.gsa) THAT YtpmopomiadaonaaProg.lean LOADS. Nothing in Lean hashes anything: it is a label: what it is worth is what the hold of that sum in a sandbox is worth. -/
noncomputable def Try.pinned : Pinned := { name := "ytpmopomiadaonaa", sum := "91aa621a00d4db85fdc9418a0fbe47d0db9bc0bd4e8549639c648c4434e7fd9f", checked := Try.checked }
namespace Rows
def none {H : Type} : Left H := { results := [], args := [] }

/-- 'papermilllaw23.FixedOfs': WHATEVER THE INPUT: true; the input reads as it did. -/
def fixedOfsSpec : ChangeSpec := { name := "fixedOfs", fn := fun _ => fun
  | [d1, d2] => { results := [.lit (.bool true)], args := [d1, d2] }
  | _ => none }
def fixedOfsRow : OpenClaim := { program := "ytpmopomiadaonaa", sum := "91aa621a00d4db85fdc9418a0fbe47d0db9bc0bd4e8549639c648c4434e7fd9f", func := "papermill/papermilllaw23.FixedOfs", spec := "fixedOfs", recurses := true, apart := false }
def FixedOfsSaid : Prop := fixedOfsRow.holds Try.pinned (OpenSpec.ofChange fixedOfsSpec)

/-- ITS FALSE NEIGHBOUR: 'it returns false'. Refute it at one input. -/
def fixedOfsWrong : ChangeSpec := { name := "fixedOfs", fn := fun _ => fun
  | [d1, d2] => { results := [.lit (.bool false)], args := [d1, d2] }
  | _ => none }
def FixedOfsWrongFalsely : Prop := fixedOfsRow.holds Try.pinned (OpenSpec.ofChange fixedOfsWrong)

/-- 'papermilllaw23.FixedTexts': WHATEVER THE INPUT: true; the input reads as it did. -/
def fixedTextsSpec : ChangeSpec := { name := "fixedTexts", fn := fun _ => fun
  | [d] => { results := [.lit (.bool true)], args := [d] }
  | _ => none }
def fixedTextsRow : OpenClaim := { program := "ytpmopomiadaonaa", sum := "91aa621a00d4db85fdc9418a0fbe47d0db9bc0bd4e8549639c648c4434e7fd9f", func := "papermill/papermilllaw23.FixedTexts", spec := "fixedTexts", recurses := true, apart := false }
def FixedTextsSaid : Prop := fixedTextsRow.holds Try.pinned (OpenSpec.ofChange fixedTextsSpec)

/-- ITS FALSE NEIGHBOUR: 'it returns false'. Refute it at one input. -/
def fixedTextsWrong : ChangeSpec := { name := "fixedTexts", fn := fun _ => fun
  | [d] => { results := [.lit (.bool false)], args := [d] }
  | _ => none }
def FixedTextsWrongFalsely : Prop := fixedTextsRow.holds Try.pinned (OpenSpec.ofChange fixedTextsWrong)

/-- 'papermilllaw23.FixedMuls': WHATEVER THE INPUT: true; the input reads as it did. -/
def fixedMulsSpec : ChangeSpec := { name := "fixedMuls", fn := fun _ => fun
  | [d1, d2] => { results := [.lit (.bool true)], args := [d1, d2] }
  | _ => none }
def fixedMulsRow : OpenClaim := { program := "ytpmopomiadaonaa", sum := "91aa621a00d4db85fdc9418a0fbe47d0db9bc0bd4e8549639c648c4434e7fd9f", func := "papermill/papermilllaw23.FixedMuls", spec := "fixedMuls", recurses := true, apart := false }
def FixedMulsSaid : Prop := fixedMulsRow.holds Try.pinned (OpenSpec.ofChange fixedMulsSpec)

/-- ITS FALSE NEIGHBOUR: 'it returns false'. Refute it at one input. -/
def fixedMulsWrong : ChangeSpec := { name := "fixedMuls", fn := fun _ => fun
  | [d1, d2] => { results := [.lit (.bool false)], args := [d1, d2] }
  | _ => none }
def FixedMulsWrongFalsely : Prop := fixedMulsRow.holds Try.pinned (OpenSpec.ofChange fixedMulsWrong)

/-- 'papermilllaw23.FixedNear': WHATEVER THE INPUT: true; the input reads as it did. -/
def fixedNearSpec : ChangeSpec := { name := "fixedNear", fn := fun _ => fun
  | [d1, d2] => { results := [.lit (.bool true)], args := [d1, d2] }
  | _ => none }
def fixedNearRow : OpenClaim := { program := "ytpmopomiadaonaa", sum := "91aa621a00d4db85fdc9418a0fbe47d0db9bc0bd4e8549639c648c4434e7fd9f", func := "papermill/papermilllaw23.FixedNear", spec := "fixedNear", recurses := true, apart := false }
def FixedNearSaid : Prop := fixedNearRow.holds Try.pinned (OpenSpec.ofChange fixedNearSpec)

/-- ITS FALSE NEIGHBOUR: 'it returns false'. Refute it at one input. -/
def fixedNearWrong : ChangeSpec := { name := "fixedNear", fn := fun _ => fun
  | [d1, d2] => { results := [.lit (.bool false)], args := [d1, d2] }
  | _ => none }
def FixedNearWrongFalsely : Prop := fixedNearRow.holds Try.pinned (OpenSpec.ofChange fixedNearWrong)

/-- 'papermilllaw23.FixedInverse': WHATEVER THE INPUT: true; the input reads as it did. -/
def fixedInverseSpec : ChangeSpec := { name := "fixedInverse", fn := fun _ => fun
  | [d1, d2] => { results := [.lit (.bool true)], args := [d1, d2] }
  | _ => none }
def fixedInverseRow : OpenClaim := { program := "ytpmopomiadaonaa", sum := "91aa621a00d4db85fdc9418a0fbe47d0db9bc0bd4e8549639c648c4434e7fd9f", func := "papermill/papermilllaw23.FixedInverse", spec := "fixedInverse", recurses := true, apart := false }
def FixedInverseSaid : Prop := fixedInverseRow.holds Try.pinned (OpenSpec.ofChange fixedInverseSpec)

/-- ITS FALSE NEIGHBOUR: 'it returns false'. Refute it at one input. -/
def fixedInverseWrong : ChangeSpec := { name := "fixedInverse", fn := fun _ => fun
  | [d1, d2] => { results := [.lit (.bool false)], args := [d1, d2] }
  | _ => none }
def FixedInverseWrongFalsely : Prop := fixedInverseRow.holds Try.pinned (OpenSpec.ofChange fixedInverseWrong)

/-- 'papermilllaw23.FixedSigns': WHATEVER THE INPUT: true; the input reads as it did. -/
def fixedSignsSpec : ChangeSpec := { name := "fixedSigns", fn := fun _ => fun
  | [d1, d2] => { results := [.lit (.bool true)], args := [d1, d2] }
  | _ => none }
def fixedSignsRow : OpenClaim := { program := "ytpmopomiadaonaa", sum := "91aa621a00d4db85fdc9418a0fbe47d0db9bc0bd4e8549639c648c4434e7fd9f", func := "papermill/papermilllaw23.FixedSigns", spec := "fixedSigns", recurses := true, apart := false }
def FixedSignsSaid : Prop := fixedSignsRow.holds Try.pinned (OpenSpec.ofChange fixedSignsSpec)

/-- ITS FALSE NEIGHBOUR: 'it returns false'. Refute it at one input. -/
def fixedSignsWrong : ChangeSpec := { name := "fixedSigns", fn := fun _ => fun
  | [d1, d2] => { results := [.lit (.bool false)], args := [d1, d2] }
  | _ => none }
def FixedSignsWrongFalsely : Prop := fixedSignsRow.holds Try.pinned (OpenSpec.ofChange fixedSignsWrong)

/-- 'papermilllaw23.FixedBack': WHATEVER THE INPUT: true; the input reads as it did. -/
def fixedBackSpec : ChangeSpec := { name := "fixedBack", fn := fun _ => fun
  | [d1, d2] => { results := [.lit (.bool true)], args := [d1, d2] }
  | _ => none }
def fixedBackRow : OpenClaim := { program := "ytpmopomiadaonaa", sum := "91aa621a00d4db85fdc9418a0fbe47d0db9bc0bd4e8549639c648c4434e7fd9f", func := "papermill/papermilllaw23.FixedBack", spec := "fixedBack", recurses := true, apart := false }
def FixedBackSaid : Prop := fixedBackRow.holds Try.pinned (OpenSpec.ofChange fixedBackSpec)

/-- ITS FALSE NEIGHBOUR: 'it returns false'. Refute it at one input. -/
def fixedBackWrong : ChangeSpec := { name := "fixedBack", fn := fun _ => fun
  | [d1, d2] => { results := [.lit (.bool false)], args := [d1, d2] }
  | _ => none }
def FixedBackWrongFalsely : Prop := fixedBackRow.holds Try.pinned (OpenSpec.ofChange fixedBackWrong)

/-- 'papermilllaw23.FixedRounds': WHATEVER THE INPUT: true; the input reads as it did. -/
def fixedRoundsSpec : ChangeSpec := { name := "fixedRounds", fn := fun _ => fun
  | [d1, d2, d3] => { results := [.lit (.bool true)], args := [d1, d2, d3] }
  | _ => none }
def fixedRoundsRow : OpenClaim := { program := "ytpmopomiadaonaa", sum := "91aa621a00d4db85fdc9418a0fbe47d0db9bc0bd4e8549639c648c4434e7fd9f", func := "papermill/papermilllaw23.FixedRounds", spec := "fixedRounds", recurses := true, apart := false }
def FixedRoundsSaid : Prop := fixedRoundsRow.holds Try.pinned (OpenSpec.ofChange fixedRoundsSpec)

/-- ITS FALSE NEIGHBOUR: 'it returns false'. Refute it at one input. -/
def fixedRoundsWrong : ChangeSpec := { name := "fixedRounds", fn := fun _ => fun
  | [d1, d2, d3] => { results := [.lit (.bool false)], args := [d1, d2, d3] }
  | _ => none }
def FixedRoundsWrongFalsely : Prop := fixedRoundsRow.holds Try.pinned (OpenSpec.ofChange fixedRoundsWrong)

/-- 'papermilllaw23.FixedClamps': WHATEVER THE INPUT: true; the input reads as it did. -/
def fixedClampsSpec : ChangeSpec := { name := "fixedClamps", fn := fun _ => fun
  | [d1, d2, d3] => { results := [.lit (.bool true)], args := [d1, d2, d3] }
  | _ => none }
def fixedClampsRow : OpenClaim := { program := "ytpmopomiadaonaa", sum := "91aa621a00d4db85fdc9418a0fbe47d0db9bc0bd4e8549639c648c4434e7fd9f", func := "papermill/papermilllaw23.FixedClamps", spec := "fixedClamps", recurses := true, apart := false }
def FixedClampsSaid : Prop := fixedClampsRow.holds Try.pinned (OpenSpec.ofChange fixedClampsSpec)

/-- ITS FALSE NEIGHBOUR: 'it returns false'. Refute it at one input. -/
def fixedClampsWrong : ChangeSpec := { name := "fixedClamps", fn := fun _ => fun
  | [d1, d2, d3] => { results := [.lit (.bool false)], args := [d1, d2, d3] }
  | _ => none }
def FixedClampsWrongFalsely : Prop := fixedClampsRow.holds Try.pinned (OpenSpec.ofChange fixedClampsWrong)

/- THE SECOND FORM. 'bulk': how many values and letters a reading holds, each counted each time it is reached (what is shared counts as often as it is met; a slice's spare places count too). A statement '..UptoSaid' is the law's where the arguments, and the package variables that the reading takes, are together of bulk at most 1048576: NARROWER than '..Said'. Prove '..Said' where nothing that the law and all that it calls make is longer than what came in: it says more and counts as full. Else prove '..UptoSaid'. A law counts once. -/
mutual
def uptoBulk {H : Type} : DataW H → Nat
  | .lit (.string bytes) => bytes.length + 1
  | .lit _ => 1
  | .nil => 1
  | .ptr d => uptoBulk d + 1
  | .slice elems spare => uptoBulkAll elems + uptoBulkAll spare + 1
  | .agg parts => uptoBulkAll parts + 1
  | .iface _ d => uptoBulk d + 1
  | .map entries => uptoBulkEntries entries + 1
  | .held _ => 1
def uptoBulkAll {H : Type} : List (DataW H) → Nat
  | [] => 0
  | d :: r => uptoBulk d + uptoBulkAll r
def uptoBulkEntries {H : Type} : List (Lit × DataW H) → Nat
  | [] => 0
  | x :: r => uptoBulkEntry x + uptoBulkEntries r
def uptoBulkEntry {H : Type} : Lit × DataW H → Nat
  | (.string bytes, d) => bytes.length + uptoBulk d + 1
  | (_, d) => uptoBulk d + 1
 end
def uptoSmall : (H : Type) → List (DataW H) → Bool := fun _ ds => decide (uptoBulkAll ds ≤ 1048576)
def OpenSpec.upto (s : _root_.Go.ChangeSpec) : _root_.Go.OpenSpec := { _root_.Go.OpenSpec.ofChange s with cond := some uptoSmall }

/-- 'papermilllaw23.FixedOfs', WHERE WHAT IT READS IS OF BULK AT MOST 1048576: true; the input reads as it did. -/
def fixedOfsUptoRow : OpenClaim := { program := "ytpmopomiadaonaa", sum := "91aa621a00d4db85fdc9418a0fbe47d0db9bc0bd4e8549639c648c4434e7fd9f", func := "papermill/papermilllaw23.FixedOfs", spec := "fixedOfs", recurses := true, apart := false, narrowed := true }
def FixedOfsUptoSaid : Prop := fixedOfsUptoRow.holds Try.pinned (OpenSpec.upto fixedOfsSpec)

/-- 'papermilllaw23.FixedTexts', WHERE WHAT IT READS IS OF BULK AT MOST 1048576: true; the input reads as it did. -/
def fixedTextsUptoRow : OpenClaim := { program := "ytpmopomiadaonaa", sum := "91aa621a00d4db85fdc9418a0fbe47d0db9bc0bd4e8549639c648c4434e7fd9f", func := "papermill/papermilllaw23.FixedTexts", spec := "fixedTexts", recurses := true, apart := false, narrowed := true }
def FixedTextsUptoSaid : Prop := fixedTextsUptoRow.holds Try.pinned (OpenSpec.upto fixedTextsSpec)

/-- 'papermilllaw23.FixedMuls', WHERE WHAT IT READS IS OF BULK AT MOST 1048576: true; the input reads as it did. -/
def fixedMulsUptoRow : OpenClaim := { program := "ytpmopomiadaonaa", sum := "91aa621a00d4db85fdc9418a0fbe47d0db9bc0bd4e8549639c648c4434e7fd9f", func := "papermill/papermilllaw23.FixedMuls", spec := "fixedMuls", recurses := true, apart := false, narrowed := true }
def FixedMulsUptoSaid : Prop := fixedMulsUptoRow.holds Try.pinned (OpenSpec.upto fixedMulsSpec)

/-- 'papermilllaw23.FixedNear', WHERE WHAT IT READS IS OF BULK AT MOST 1048576: true; the input reads as it did. -/
def fixedNearUptoRow : OpenClaim := { program := "ytpmopomiadaonaa", sum := "91aa621a00d4db85fdc9418a0fbe47d0db9bc0bd4e8549639c648c4434e7fd9f", func := "papermill/papermilllaw23.FixedNear", spec := "fixedNear", recurses := true, apart := false, narrowed := true }
def FixedNearUptoSaid : Prop := fixedNearUptoRow.holds Try.pinned (OpenSpec.upto fixedNearSpec)

/-- 'papermilllaw23.FixedInverse', WHERE WHAT IT READS IS OF BULK AT MOST 1048576: true; the input reads as it did. -/
def fixedInverseUptoRow : OpenClaim := { program := "ytpmopomiadaonaa", sum := "91aa621a00d4db85fdc9418a0fbe47d0db9bc0bd4e8549639c648c4434e7fd9f", func := "papermill/papermilllaw23.FixedInverse", spec := "fixedInverse", recurses := true, apart := false, narrowed := true }
def FixedInverseUptoSaid : Prop := fixedInverseUptoRow.holds Try.pinned (OpenSpec.upto fixedInverseSpec)

/-- 'papermilllaw23.FixedSigns', WHERE WHAT IT READS IS OF BULK AT MOST 1048576: true; the input reads as it did. -/
def fixedSignsUptoRow : OpenClaim := { program := "ytpmopomiadaonaa", sum := "91aa621a00d4db85fdc9418a0fbe47d0db9bc0bd4e8549639c648c4434e7fd9f", func := "papermill/papermilllaw23.FixedSigns", spec := "fixedSigns", recurses := true, apart := false, narrowed := true }
def FixedSignsUptoSaid : Prop := fixedSignsUptoRow.holds Try.pinned (OpenSpec.upto fixedSignsSpec)

/-- 'papermilllaw23.FixedBack', WHERE WHAT IT READS IS OF BULK AT MOST 1048576: true; the input reads as it did. -/
def fixedBackUptoRow : OpenClaim := { program := "ytpmopomiadaonaa", sum := "91aa621a00d4db85fdc9418a0fbe47d0db9bc0bd4e8549639c648c4434e7fd9f", func := "papermill/papermilllaw23.FixedBack", spec := "fixedBack", recurses := true, apart := false, narrowed := true }
def FixedBackUptoSaid : Prop := fixedBackUptoRow.holds Try.pinned (OpenSpec.upto fixedBackSpec)

/-- 'papermilllaw23.FixedRounds', WHERE WHAT IT READS IS OF BULK AT MOST 1048576: true; the input reads as it did. -/
def fixedRoundsUptoRow : OpenClaim := { program := "ytpmopomiadaonaa", sum := "91aa621a00d4db85fdc9418a0fbe47d0db9bc0bd4e8549639c648c4434e7fd9f", func := "papermill/papermilllaw23.FixedRounds", spec := "fixedRounds", recurses := true, apart := false, narrowed := true }
def FixedRoundsUptoSaid : Prop := fixedRoundsUptoRow.holds Try.pinned (OpenSpec.upto fixedRoundsSpec)

/-- 'papermilllaw23.FixedClamps', WHERE WHAT IT READS IS OF BULK AT MOST 1048576: true; the input reads as it did. -/
def fixedClampsUptoRow : OpenClaim := { program := "ytpmopomiadaonaa", sum := "91aa621a00d4db85fdc9418a0fbe47d0db9bc0bd4e8549639c648c4434e7fd9f", func := "papermill/papermilllaw23.FixedClamps", spec := "fixedClamps", recurses := true, apart := false, narrowed := true }
def FixedClampsUptoSaid : Prop := fixedClampsUptoRow.holds Try.pinned (OpenSpec.upto fixedClampsSpec)

end Rows
end Go.Proofs.Ytpmopomiadaonaa
