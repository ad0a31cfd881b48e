/- The statement DriveChecks over numbers alone. -/
import Derived.Test.YtfjeekjlhgjckaaPx22
import Derived.Test.YtfjeekjlhgjckaaDriveLen
import Derived.Test.YtfjeekjlhgjckaaDriveAwake
namespace Go.Proofs.Ytfjeekjlhgjckaa.Pure
open Go.RowKit Go.Proofs.Ytfjeekjlhgjckaa.P Go.Proofs.YtfjeekjlhgjckaaW.PrintWords Go.Proofs.YtfjeekjlhgjckaaW.PrintLast
set_option linter.unusedVariables false

theorem DriveChecks (l0 : List S42) (a1 : Int) (m0 : l0.length ≤ maxLen) (wl0 : ∀ x ∈ l0, (Lit.int .i64 x.f0).wf = true ∧ (Lit.int .i64 x.f1).wf = true) (w1 : (Lit.int .i64 a1).wf = true) :
    ∃ k, papermilllaw29_DriveChecks.f k l0 a1 = some true := by
  refine ⟨1500, ?_⟩
  generalize hk : (1500 : Nat) = k
  have hk2 : 1500 ≤ k := by omega
  clear hk
  unfold papermilllaw29_DriveChecks.f papermilllaw29_great.f
  rw [Option.bind_some, dSpeed_eq _ _ _ (by omega), rSpeed_eq _ _ _ (by omega), dCheck_eq _ _ (by omega), rCheck_eq _ _ (by omega), awake_ge hk2]
  rw [Option.bind_some, Option.bind_some, Option.bind_some, Option.bind_some, Option.bind_some, if_pos rfl, if_pos rfl, if_pos rfl]
  split <;> rfl
end Go.Proofs.Ytfjeekjlhgjckaa.Pure
