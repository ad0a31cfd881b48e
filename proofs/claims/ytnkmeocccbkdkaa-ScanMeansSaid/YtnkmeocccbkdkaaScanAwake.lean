/- The law's own check of the package is through. -/
import Derived.Test.YtnkmeocccbkdkaaPx33
namespace Go.Proofs.Ytnkmeocccbkdkaa.P
open Go.RowKit Go.Proofs.YtnkmeocccbkdkaaW.PrintWords Go.Proofs.YtnkmeocccbkdkaaW.PrintLast Go.Proofs.YtnkmeocccbkdkaaW.PrintMore
set_option linter.unusedVariables false

set_option maxRecDepth 100000 in
theorem awake_40 : papermilllaw35_awake.f 40 = some true := by decide +kernel

theorem awake_at (d : Nat) : papermilllaw35_awake.f (d + 40) = some true := by
  induction d with
  | zero => exact awake_40
  | succ d ih => rw [show d + 1 + 40 = d + 40 + 1 by omega]; exact papermilllaw35_awake.mono _ _ ih

theorem awake_ge {k : Nat} (h : 40 ≤ k) : papermilllaw35_awake.f k = some true := by
  obtain ⟨d, rfl⟩ : ∃ d, k = d + 40 := ⟨k - 40, by omega⟩
  exact awake_at d
end Go.Proofs.Ytnkmeocccbkdkaa.P
