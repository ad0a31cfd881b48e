/- The statement BrokeChecks over numbers alone: Check and its reference answer alike, for any movements. -/
import Derived.Test.YthbpjiembjapdaaPx11
import Derived.Test.YthbpjiembjapdaaBrokeRef
import Derived.Test.YthbpjiembjapdaaBrokeLevel
namespace Go.Proofs.Ythbpjiembjapdaa.Pure
open Go.RowKit Go.Proofs.Ythbpjiembjapdaa.P Go.Proofs.YthbpjiembjapdaaW.PrintWords Go.Proofs.YthbpjiembjapdaaW.PrintLast
set_option linter.unusedVariables false

theorem BrokeChecks (l0 : List S32) (a1 : Int) (m0 : l0.length ≤ maxLen) (wl0 : ∀ x ∈ l0, (Lit.int .i64 x.f0).wf = true ∧ (Lit.int .i64 x.f1).wf = true ∧ (Lit.int .i64 x.f2).wf = true ∧ (Lit.int .i64 x.f3).wf = true) (w1 : (Lit.int .i64 a1).wf = true) :
    ∃ k, papermilllaw22_BrokeChecks.f k l0 a1 = some true := by
  refine ⟨4000, ?_⟩
  unfold papermilllaw22_BrokeChecks.f
  rw [check_eq _ _ _ (by omega), ref_check_eq _ _ _ (by omega), broke_awake _ (by omega)]
  simp
end Go.Proofs.Ythbpjiembjapdaa.Pure
