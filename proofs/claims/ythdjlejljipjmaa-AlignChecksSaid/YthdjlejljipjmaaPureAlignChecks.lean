/- The statement AlignChecks over numbers alone: Check and its reference answer alike, for any marks. -/
import Derived.Test.YthdjlejljipjmaaPx15
import Derived.Test.YthdjlejljipjmaaAlignRef
import Derived.Test.YthdjlejljipjmaaAlignAwake
namespace Go.Proofs.Ythdjlejljipjmaa.Pure
open Go.RowKit Go.Proofs.Ythdjlejljipjmaa.P Go.Proofs.YthdjlejljipjmaaW.PrintWords Go.Proofs.YthdjlejljipjmaaW.PrintLast
set_option linter.unusedVariables false

theorem AlignChecks (l0 : List S41) (m0 : l0.length ≤ maxLen) (wl0 : ∀ x ∈ l0, (Lit.int .i64 x.f0).wf = true ∧ (Lit.int .i64 x.f1).wf = true) :
    ∃ k, papermilllaw14_AlignChecks.f k l0 = some true := by
  refine ⟨2000, ?_⟩
  unfold papermilllaw14_AlignChecks.f papermilllaw14_few.f
  rw [align_awake _ (by omega), checkM_eq _ _ (by omega), refcheckM_eq _ _ (by omega)]
  simp only [Option.bind_some, if_true]
  by_cases c : (l0.length : Int) ≤ 100
  · rw [decide_eq_true c]; rfl
  · rw [decide_eq_false c]; rfl
end Go.Proofs.Ythdjlejljipjmaa.Pure
