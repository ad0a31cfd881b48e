/-
  No cell of these rows narrows 'for every input' (looked for: loops, veiled, ifaces, maps, wideKeys, modest, calm, conditions, laid).
  DERIVED. THE GIVEN ROWS OF THIS SEAT. 9 by the template 'for every input the law returns true; each argument reads behind the call as it read before'; 0 by the template 'total and deterministic' (their statements: YtfjeekjlhgjckaaTotals.lean).
  GIVEN WITH THE SEED: the statements are not yours to turn. If you find one false, say at which input.
  Laid BY PROGRAM, IN A SANDBOX (cutbox-rows.mjs): the forced cells as the released guide's own fill.sh prints them over the translation 7e214804149c5b55… (all of the seat's roots in one cut). By AI agents, Wed Nov 11 2026. No macro, syntax, notation, axiom, sorry.
-/
import Derived.Test.YtfjeekjlhgjckaaChecked
import GoSem.Claim
import GoSem.ClaimJoined
import GoSem.ClaimMapViews
import Derived.JoinedTies
import Derived.KernelRfl
namespace Go.Proofs.Ytfjeekjlhgjckaa
/- THE CELL 'sum', in the pinned program and in every row, IS THE sha256 OF THE DUMP (.gsa) THAT YtfjeekjlhgjckaaProg.lean LOADS. Nothing in Lean hashes anything: it is a label: what it is worth is what the hold of that sum in a sandbox is worth. -/
noncomputable def Try.pinned : Pinned := { name := "ytfjeekjlhgjckaa", sum := "7e214804149c5b557e3385c064bc8cd4ac9b1c08be06eb2d5324bee7299c7ae9", checked := Try.checked }
namespace Rows
def none {H : Type} : Left H := { results := [], args := [] }

/-- 'papermilllaw29.DriveLengths': WHATEVER THE INPUT: true; the input reads as it did. -/
def driveLengthsSpec : ChangeSpec := { name := "driveLengths", fn := fun _ => fun
  | [d1, d2] => { results := [.lit (.bool true)], args := [d1, d2] }
  | _ => none }
def driveLengthsRow : OpenClaim := { program := "ytfjeekjlhgjckaa", sum := "7e214804149c5b557e3385c064bc8cd4ac9b1c08be06eb2d5324bee7299c7ae9", func := "papermill/papermilllaw29.DriveLengths", spec := "driveLengths", unfollowed := true, recurses := true, apart := false }
def DriveLengthsSaid : Prop := driveLengthsRow.holds Try.pinned (OpenSpec.ofChange driveLengthsSpec)

/-- ITS FALSE NEIGHBOUR: 'it returns false'. Refute it at one input. -/
def driveLengthsWrong : ChangeSpec := { name := "driveLengths", fn := fun _ => fun
  | [d1, d2] => { results := [.lit (.bool false)], args := [d1, d2] }
  | _ => none }
def DriveLengthsWrongFalsely : Prop := driveLengthsRow.holds Try.pinned (OpenSpec.ofChange driveLengthsWrong)

/-- 'papermilllaw29.DriveWhens': WHATEVER THE INPUT: true; the input reads as it did. -/
def driveWhensSpec : ChangeSpec := { name := "driveWhens", fn := fun _ => fun
  | [d1, d2, d3] => { results := [.lit (.bool true)], args := [d1, d2, d3] }
  | _ => none }
def driveWhensRow : OpenClaim := { program := "ytfjeekjlhgjckaa", sum := "7e214804149c5b557e3385c064bc8cd4ac9b1c08be06eb2d5324bee7299c7ae9", func := "papermill/papermilllaw29.DriveWhens", spec := "driveWhens", unfollowed := true, recurses := true, apart := false }
def DriveWhensSaid : Prop := driveWhensRow.holds Try.pinned (OpenSpec.ofChange driveWhensSpec)

/-- ITS FALSE NEIGHBOUR: 'it returns false'. Refute it at one input. -/
def driveWhensWrong : ChangeSpec := { name := "driveWhens", fn := fun _ => fun
  | [d1, d2, d3] => { results := [.lit (.bool false)], args := [d1, d2, d3] }
  | _ => none }
def DriveWhensWrongFalsely : Prop := driveWhensRow.holds Try.pinned (OpenSpec.ofChange driveWhensWrong)

/-- 'papermilllaw29.DriveRamps': WHATEVER THE INPUT: true; the input reads as it did. -/
def driveRampsSpec : ChangeSpec := { name := "driveRamps", fn := fun _ => fun
  | [d] => { results := [.lit (.bool true)], args := [d] }
  | _ => none }
def driveRampsRow : OpenClaim := { program := "ytfjeekjlhgjckaa", sum := "7e214804149c5b557e3385c064bc8cd4ac9b1c08be06eb2d5324bee7299c7ae9", func := "papermill/papermilllaw29.DriveRamps", spec := "driveRamps", unfollowed := true, recurses := true, apart := false }
def DriveRampsSaid : Prop := driveRampsRow.holds Try.pinned (OpenSpec.ofChange driveRampsSpec)

/-- ITS FALSE NEIGHBOUR: 'it returns false'. Refute it at one input. -/
def driveRampsWrong : ChangeSpec := { name := "driveRamps", fn := fun _ => fun
  | [d] => { results := [.lit (.bool false)], args := [d] }
  | _ => none }
def DriveRampsWrongFalsely : Prop := driveRampsRow.holds Try.pinned (OpenSpec.ofChange driveRampsWrong)

/-- 'papermilllaw29.DriveInverse': WHATEVER THE INPUT: true; the input reads as it did. -/
def driveInverseSpec : ChangeSpec := { name := "driveInverse", fn := fun _ => fun
  | [d1, d2] => { results := [.lit (.bool true)], args := [d1, d2] }
  | _ => none }
def driveInverseRow : OpenClaim := { program := "ytfjeekjlhgjckaa", sum := "7e214804149c5b557e3385c064bc8cd4ac9b1c08be06eb2d5324bee7299c7ae9", func := "papermill/papermilllaw29.DriveInverse", spec := "driveInverse", unfollowed := true, recurses := true, apart := false }
def DriveInverseSaid : Prop := driveInverseRow.holds Try.pinned (OpenSpec.ofChange driveInverseSpec)

/-- ITS FALSE NEIGHBOUR: 'it returns false'. Refute it at one input. -/
def driveInverseWrong : ChangeSpec := { name := "driveInverse", fn := fun _ => fun
  | [d1, d2] => { results := [.lit (.bool false)], args := [d1, d2] }
  | _ => none }
def DriveInverseWrongFalsely : Prop := driveInverseRow.holds Try.pinned (OpenSpec.ofChange driveInverseWrong)

/-- 'papermilllaw29.DriveWindows': WHATEVER THE INPUT: true; the input reads as it did. -/
def driveWindowsSpec : ChangeSpec := { name := "driveWindows", fn := fun _ => fun
  | [d1, d2] => { results := [.lit (.bool true)], args := [d1, d2] }
  | _ => none }
def driveWindowsRow : OpenClaim := { program := "ytfjeekjlhgjckaa", sum := "7e214804149c5b557e3385c064bc8cd4ac9b1c08be06eb2d5324bee7299c7ae9", func := "papermill/papermilllaw29.DriveWindows", spec := "driveWindows", unfollowed := true, recurses := true, apart := false }
def DriveWindowsSaid : Prop := driveWindowsRow.holds Try.pinned (OpenSpec.ofChange driveWindowsSpec)

/-- ITS FALSE NEIGHBOUR: 'it returns false'. Refute it at one input. -/
def driveWindowsWrong : ChangeSpec := { name := "driveWindows", fn := fun _ => fun
  | [d1, d2] => { results := [.lit (.bool false)], args := [d1, d2] }
  | _ => none }
def DriveWindowsWrongFalsely : Prop := driveWindowsRow.holds Try.pinned (OpenSpec.ofChange driveWindowsWrong)

/-- 'papermilllaw29.DriveRamp': WHATEVER THE INPUT: true; the input reads as it did. -/
def driveRampSpec : ChangeSpec := { name := "driveRamp", fn := fun _ => fun
  | [d] => { results := [.lit (.bool true)], args := [d] }
  | _ => none }
def driveRampRow : OpenClaim := { program := "ytfjeekjlhgjckaa", sum := "7e214804149c5b557e3385c064bc8cd4ac9b1c08be06eb2d5324bee7299c7ae9", func := "papermill/papermilllaw29.DriveRamp", spec := "driveRamp", unfollowed := true, recurses := true, apart := false }
def DriveRampSaid : Prop := driveRampRow.holds Try.pinned (OpenSpec.ofChange driveRampSpec)

/-- ITS FALSE NEIGHBOUR: 'it returns false'. Refute it at one input. -/
def driveRampWrong : ChangeSpec := { name := "driveRamp", fn := fun _ => fun
  | [d] => { results := [.lit (.bool false)], args := [d] }
  | _ => none }
def DriveRampWrongFalsely : Prop := driveRampRow.holds Try.pinned (OpenSpec.ofChange driveRampWrong)

/-- 'papermilllaw29.DriveChecks': WHATEVER THE INPUT: true; the input reads as it did. -/
def driveChecksSpec : ChangeSpec := { name := "driveChecks", fn := fun _ => fun
  | [d1, d2] => { results := [.lit (.bool true)], args := [d1, d2] }
  | _ => none }
def driveChecksRow : OpenClaim := { program := "ytfjeekjlhgjckaa", sum := "7e214804149c5b557e3385c064bc8cd4ac9b1c08be06eb2d5324bee7299c7ae9", func := "papermill/papermilllaw29.DriveChecks", spec := "driveChecks", unfollowed := true, recurses := true, apart := false }
def DriveChecksSaid : Prop := driveChecksRow.holds Try.pinned (OpenSpec.ofChange driveChecksSpec)

/-- ITS FALSE NEIGHBOUR: 'it returns false'. Refute it at one input. -/
def driveChecksWrong : ChangeSpec := { name := "driveChecks", fn := fun _ => fun
  | [d1, d2] => { results := [.lit (.bool false)], args := [d1, d2] }
  | _ => none }
def DriveChecksWrongFalsely : Prop := driveChecksRow.holds Try.pinned (OpenSpec.ofChange driveChecksWrong)

/-- 'papermilllaw29.DriveGrows': WHATEVER THE INPUT: true; the input reads as it did. -/
def driveGrowsSpec : ChangeSpec := { name := "driveGrows", fn := fun _ => fun
  | [d1, d2] => { results := [.lit (.bool true)], args := [d1, d2] }
  | _ => none }
def driveGrowsRow : OpenClaim := { program := "ytfjeekjlhgjckaa", sum := "7e214804149c5b557e3385c064bc8cd4ac9b1c08be06eb2d5324bee7299c7ae9", func := "papermill/papermilllaw29.DriveGrows", spec := "driveGrows", unfollowed := true, recurses := true, apart := false }
def DriveGrowsSaid : Prop := driveGrowsRow.holds Try.pinned (OpenSpec.ofChange driveGrowsSpec)

/-- ITS FALSE NEIGHBOUR: 'it returns false'. Refute it at one input. -/
def driveGrowsWrong : ChangeSpec := { name := "driveGrows", fn := fun _ => fun
  | [d1, d2] => { results := [.lit (.bool false)], args := [d1, d2] }
  | _ => none }
def DriveGrowsWrongFalsely : Prop := driveGrowsRow.holds Try.pinned (OpenSpec.ofChange driveGrowsWrong)

/-- 'papermilllaw29.DriveRepeats': WHATEVER THE INPUT: true; the input reads as it did. -/
def driveRepeatsSpec : ChangeSpec := { name := "driveRepeats", fn := fun _ => fun
  | [d1, d2, d3] => { results := [.lit (.bool true)], args := [d1, d2, d3] }
  | _ => none }
def driveRepeatsRow : OpenClaim := { program := "ytfjeekjlhgjckaa", sum := "7e214804149c5b557e3385c064bc8cd4ac9b1c08be06eb2d5324bee7299c7ae9", func := "papermill/papermilllaw29.DriveRepeats", spec := "driveRepeats", unfollowed := true, recurses := true, apart := false }
def DriveRepeatsSaid : Prop := driveRepeatsRow.holds Try.pinned (OpenSpec.ofChange driveRepeatsSpec)

/-- ITS FALSE NEIGHBOUR: 'it returns false'. Refute it at one input. -/
def driveRepeatsWrong : ChangeSpec := { name := "driveRepeats", fn := fun _ => fun
  | [d1, d2, d3] => { results := [.lit (.bool false)], args := [d1, d2, d3] }
  | _ => none }
def DriveRepeatsWrongFalsely : Prop := driveRepeatsRow.holds Try.pinned (OpenSpec.ofChange driveRepeatsWrong)

/- THE SECOND FORM. 'bulk': how many values and letters a reading holds, each counted each time it is reached (what is shared counts as often as it is met; a slice's spare places count too). A statement '..UptoSaid' is the law's where the arguments, and the package variables that the reading takes, are together of bulk at most 1048576: NARROWER than '..Said'. Prove '..Said' where nothing that the law and all that it calls make is longer than what came in: it says more and counts as full. Else prove '..UptoSaid'. A law counts once. -/
mutual
def uptoBulk {H : Type} : DataW H → Nat
  | .lit (.string bytes) => bytes.length + 1
  | .lit _ => 1
  | .nil => 1
  | .ptr d => uptoBulk d + 1
  | .slice elems spare => uptoBulkAll elems + uptoBulkAll spare + 1
  | .agg parts => uptoBulkAll parts + 1
  | .iface _ d => uptoBulk d + 1
  | .map entries => uptoBulkEntries entries + 1
  | .held _ => 1
def uptoBulkAll {H : Type} : List (DataW H) → Nat
  | [] => 0
  | d :: r => uptoBulk d + uptoBulkAll r
def uptoBulkEntries {H : Type} : List (Lit × DataW H) → Nat
  | [] => 0
  | x :: r => uptoBulkEntry x + uptoBulkEntries r
def uptoBulkEntry {H : Type} : Lit × DataW H → Nat
  | (.string bytes, d) => bytes.length + uptoBulk d + 1
  | (_, d) => uptoBulk d + 1
 end
def uptoSmall : (H : Type) → List (DataW H) → Bool := fun _ ds => decide (uptoBulkAll ds ≤ 1048576)
def OpenSpec.upto (s : _root_.Go.ChangeSpec) : _root_.Go.OpenSpec := { _root_.Go.OpenSpec.ofChange s with cond := some uptoSmall }

/-- 'papermilllaw29.DriveLengths', WHERE WHAT IT READS IS OF BULK AT MOST 1048576: true; the input reads as it did. -/
def driveLengthsUptoRow : OpenClaim := { program := "ytfjeekjlhgjckaa", sum := "7e214804149c5b557e3385c064bc8cd4ac9b1c08be06eb2d5324bee7299c7ae9", func := "papermill/papermilllaw29.DriveLengths", spec := "driveLengths", unfollowed := true, recurses := true, apart := false, narrowed := true }
def DriveLengthsUptoSaid : Prop := driveLengthsUptoRow.holds Try.pinned (OpenSpec.upto driveLengthsSpec)

/-- 'papermilllaw29.DriveWhens', WHERE WHAT IT READS IS OF BULK AT MOST 1048576: true; the input reads as it did. -/
def driveWhensUptoRow : OpenClaim := { program := "ytfjeekjlhgjckaa", sum := "7e214804149c5b557e3385c064bc8cd4ac9b1c08be06eb2d5324bee7299c7ae9", func := "papermill/papermilllaw29.DriveWhens", spec := "driveWhens", unfollowed := true, recurses := true, apart := false, narrowed := true }
def DriveWhensUptoSaid : Prop := driveWhensUptoRow.holds Try.pinned (OpenSpec.upto driveWhensSpec)

/-- 'papermilllaw29.DriveRamps', WHERE WHAT IT READS IS OF BULK AT MOST 1048576: true; the input reads as it did. -/
def driveRampsUptoRow : OpenClaim := { program := "ytfjeekjlhgjckaa", sum := "7e214804149c5b557e3385c064bc8cd4ac9b1c08be06eb2d5324bee7299c7ae9", func := "papermill/papermilllaw29.DriveRamps", spec := "driveRamps", unfollowed := true, recurses := true, apart := false, narrowed := true }
def DriveRampsUptoSaid : Prop := driveRampsUptoRow.holds Try.pinned (OpenSpec.upto driveRampsSpec)

/-- 'papermilllaw29.DriveInverse', WHERE WHAT IT READS IS OF BULK AT MOST 1048576: true; the input reads as it did. -/
def driveInverseUptoRow : OpenClaim := { program := "ytfjeekjlhgjckaa", sum := "7e214804149c5b557e3385c064bc8cd4ac9b1c08be06eb2d5324bee7299c7ae9", func := "papermill/papermilllaw29.DriveInverse", spec := "driveInverse", unfollowed := true, recurses := true, apart := false, narrowed := true }
def DriveInverseUptoSaid : Prop := driveInverseUptoRow.holds Try.pinned (OpenSpec.upto driveInverseSpec)

/-- 'papermilllaw29.DriveWindows', WHERE WHAT IT READS IS OF BULK AT MOST 1048576: true; the input reads as it did. -/
def driveWindowsUptoRow : OpenClaim := { program := "ytfjeekjlhgjckaa", sum := "7e214804149c5b557e3385c064bc8cd4ac9b1c08be06eb2d5324bee7299c7ae9", func := "papermill/papermilllaw29.DriveWindows", spec := "driveWindows", unfollowed := true, recurses := true, apart := false, narrowed := true }
def DriveWindowsUptoSaid : Prop := driveWindowsUptoRow.holds Try.pinned (OpenSpec.upto driveWindowsSpec)

/-- 'papermilllaw29.DriveRamp', WHERE WHAT IT READS IS OF BULK AT MOST 1048576: true; the input reads as it did. -/
def driveRampUptoRow : OpenClaim := { program := "ytfjeekjlhgjckaa", sum := "7e214804149c5b557e3385c064bc8cd4ac9b1c08be06eb2d5324bee7299c7ae9", func := "papermill/papermilllaw29.DriveRamp", spec := "driveRamp", unfollowed := true, recurses := true, apart := false, narrowed := true }
def DriveRampUptoSaid : Prop := driveRampUptoRow.holds Try.pinned (OpenSpec.upto driveRampSpec)

/-- 'papermilllaw29.DriveChecks', WHERE WHAT IT READS IS OF BULK AT MOST 1048576: true; the input reads as it did. -/
def driveChecksUptoRow : OpenClaim := { program := "ytfjeekjlhgjckaa", sum := "7e214804149c5b557e3385c064bc8cd4ac9b1c08be06eb2d5324bee7299c7ae9", func := "papermill/papermilllaw29.DriveChecks", spec := "driveChecks", unfollowed := true, recurses := true, apart := false, narrowed := true }
def DriveChecksUptoSaid : Prop := driveChecksUptoRow.holds Try.pinned (OpenSpec.upto driveChecksSpec)

/-- 'papermilllaw29.DriveGrows', WHERE WHAT IT READS IS OF BULK AT MOST 1048576: true; the input reads as it did. -/
def driveGrowsUptoRow : OpenClaim := { program := "ytfjeekjlhgjckaa", sum := "7e214804149c5b557e3385c064bc8cd4ac9b1c08be06eb2d5324bee7299c7ae9", func := "papermill/papermilllaw29.DriveGrows", spec := "driveGrows", unfollowed := true, recurses := true, apart := false, narrowed := true }
def DriveGrowsUptoSaid : Prop := driveGrowsUptoRow.holds Try.pinned (OpenSpec.upto driveGrowsSpec)

/-- 'papermilllaw29.DriveRepeats', WHERE WHAT IT READS IS OF BULK AT MOST 1048576: true; the input reads as it did. -/
def driveRepeatsUptoRow : OpenClaim := { program := "ytfjeekjlhgjckaa", sum := "7e214804149c5b557e3385c064bc8cd4ac9b1c08be06eb2d5324bee7299c7ae9", func := "papermill/papermilllaw29.DriveRepeats", spec := "driveRepeats", unfollowed := true, recurses := true, apart := false, narrowed := true }
def DriveRepeatsUptoSaid : Prop := driveRepeatsUptoRow.holds Try.pinned (OpenSpec.upto driveRepeatsSpec)

end Rows
end Go.Proofs.Ytfjeekjlhgjckaa
