/- The statement ScanEdges over numbers alone. -/
import Derived.Test.YtcpmnimjlhfdmaaPx10
import Derived.Test.YtcpmnimjlhfdmaaScanRef
import Derived.Test.YtcpmnimjlhfdmaaScanAwake
namespace Go.Proofs.Ytcpmnimjlhfdmaa.Pure
open Go.RowKit Go.Proofs.Ytcpmnimjlhfdmaa.P Go.Proofs.YtcpmnimjlhfdmaaW.PrintWords Go.Proofs.YtcpmnimjlhfdmaaW.PrintLast
set_option linter.unusedVariables false

theorem ScanEdges (a0_0 a0_1 a0_2 : Int) (w0 : (Lit.int .i64 a0_0).wf = true) (w1 : (Lit.int .i64 a0_1).wf = true) (w2 : (Lit.int .i64 a0_2).wf = true) :
    ∃ k, papermilllaw35_ScanEdges.f k a0_0 a0_1 a0_2 = some true := by
  refine ⟨200, ?_⟩
  unfold papermilllaw35_ScanEdges.f
  unfold scan_Edges.f
  rw [refEdges_eq _ _ _ _ (by omega)]
  simp only [Option.bind_some]
  have hl : (if okS a0_0 a0_1 a0_2 then (edgesSpec a0_0 a0_1, (0 : Int)) else ([], 1)).1.length ≤ 70 := by
    by_cases h : okS a0_0 a0_1 a0_2
    · rw [if_pos h]; dsimp only; rw [edgesSpec_len]; unfold okS at h; omega
    · rw [if_neg h]; decide
  rw [Ints_eq _ (by omega) _ (by omega)]
  simp only [Option.bind_some]
  simp only [if_true]
  rw [awake_ge (by omega)]
  rfl
end Go.Proofs.Ytcpmnimjlhfdmaa.Pure
