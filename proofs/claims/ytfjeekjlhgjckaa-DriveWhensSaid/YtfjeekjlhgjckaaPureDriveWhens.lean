/- The statement DriveWhens over numbers alone. -/
import Derived.Test.YtfjeekjlhgjckaaPx15
import Derived.Test.YtfjeekjlhgjckaaDriveLen
import Derived.Test.YtfjeekjlhgjckaaDriveAwake
namespace Go.Proofs.Ytfjeekjlhgjckaa.Pure
open Go.RowKit Go.Proofs.Ytfjeekjlhgjckaa.P Go.Proofs.YtfjeekjlhgjckaaW.PrintWords Go.Proofs.YtfjeekjlhgjckaaW.PrintLast
set_option linter.unusedVariables false

theorem DriveWhens (l0 : List S42) (a1 a2_0 a2_1 : Int) (m0 : l0.length ≤ maxLen) (wl0 : ∀ x ∈ l0, (Lit.int .i64 x.f0).wf = true ∧ (Lit.int .i64 x.f1).wf = true) (w1 : (Lit.int .i64 a1).wf = true) (w2 : (Lit.int .i64 a2_0).wf = true) (w3 : (Lit.int .i64 a2_1).wf = true) :
    ∃ k, papermilllaw29_DriveWhens.f k l0 a1 a2_0 a2_1 = some true := by
  refine ⟨1500, ?_⟩
  generalize hk : (1500 : Nat) = k
  have hk2 : 1500 ≤ k := by omega
  clear hk
  unfold papermilllaw29_DriveWhens.f papermilllaw29_great.f
  rw [Option.bind_some, rWhen_eq _ _ _ (by omega), dWindow_eq _ _ _ _ (by omega), rWindow_eq _ _ _ _ (by omega), awake_ge hk2]
  unfold drive_When.f
  rw [Option.bind_some, Option.bind_some, Option.bind_some, Option.bind_some, Option.bind_some, if_pos rfl, if_pos rfl]
  simp only [beq_self_eq_true, Bool.and_self, if_true, Option.bind_some]
  split <;> rfl
end Go.Proofs.Ytfjeekjlhgjckaa.Pure
