/- The statement ScanPlaces over numbers alone. -/
import Derived.Test.YtcpmnimjlhfdmaaPx9
import Derived.Test.YtcpmnimjlhfdmaaScanRef
import Derived.Test.YtcpmnimjlhfdmaaScanAwake
namespace Go.Proofs.Ytcpmnimjlhfdmaa.Pure
open Go.RowKit Go.Proofs.Ytcpmnimjlhfdmaa.P Go.Proofs.YtcpmnimjlhfdmaaW.PrintWords Go.Proofs.YtcpmnimjlhfdmaaW.PrintLast
set_option linter.unusedVariables false

theorem ScanPlaces (a0_0 a0_1 a0_2 a1 : Int) (w0 : (Lit.int .i64 a0_0).wf = true) (w1 : (Lit.int .i64 a0_1).wf = true) (w2 : (Lit.int .i64 a0_2).wf = true) (w3 : (Lit.int .i64 a1).wf = true) :
    ∃ k, papermilllaw35_ScanPlaces.f k a0_0 a0_1 a0_2 a1 = some true := by
  refine ⟨40, ?_⟩
  unfold papermilllaw35_ScanPlaces.f
  rw [sPlace_eq, rPlace_eq, sBox_eq, rBox_eq, scheck_eq, rcheck_eq]
  simp only [Option.bind_some]
  simp only [if_true]
  rw [awake_ge (by omega)]
  rfl
end Go.Proofs.Ytcpmnimjlhfdmaa.Pure
