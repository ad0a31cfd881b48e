/- The statement ScanProfiles over numbers alone. -/
import Derived.Test.YtcpmnimjlhfdmaaPx12
import Derived.Test.YtcpmnimjlhfdmaaScanProf
import Derived.Test.YtcpmnimjlhfdmaaScanAwake
namespace Go.Proofs.Ytcpmnimjlhfdmaa.Pure
open Go.RowKit Go.Proofs.Ytcpmnimjlhfdmaa.P Go.Proofs.YtcpmnimjlhfdmaaW.PrintWords Go.Proofs.YtcpmnimjlhfdmaaW.PrintLast
set_option linter.unusedVariables false

theorem ScanProfiles (a0_0 a0_1 a0_2 : Int) (l1 : List S49) (w0 : (Lit.int .i64 a0_0).wf = true) (w1 : (Lit.int .i64 a0_1).wf = true) (w2 : (Lit.int .i64 a0_2).wf = true) (m1 : l1.length ≤ maxLen) (wl1 : ∀ x ∈ l1, (Lit.int .i64 x.f0).wf = true ∧ (Lit.int .i64 x.f1).wf = true) :
    ∃ k, papermilllaw35_ScanProfiles.f k a0_0 a0_1 a0_2 l1 = some true := by
  refine ⟨700, ?_⟩
  unfold papermilllaw35_ScanProfiles.f
  by_cases c : (l1.length : Int) > 600
  · rw [if_pos c, awake_ge (by omega)]; rfl
  · rw [if_neg c, refProfile_eq _ _ _ _ _ (by omega) (by omega)]
    unfold scan_Profile.f
    simp only [Option.bind_some]
    have hl : (profSpec a0_0 a0_1 a0_2 l1).1.length ≤ 64 := by
      rcases prof_cases a0_0 a0_1 a0_2 l1 with h | h
      · rw [h.2.1]; decide
      · rw [h.2.2.2.2.1]; have := h.1; unfold okS at this; omega
    rw [Same_eq _ (by omega) _ (by omega)]
    simp only [Option.bind_some, if_true]
    rw [awake_ge (by omega)]; rfl
end Go.Proofs.Ytcpmnimjlhfdmaa.Pure
