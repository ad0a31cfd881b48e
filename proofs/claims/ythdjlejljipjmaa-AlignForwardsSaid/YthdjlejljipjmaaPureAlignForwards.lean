/- The statement AlignForwards over numbers alone: Forward and its reference answer alike, for any marks. -/
import Derived.Test.YthdjlejljipjmaaPx18
import Derived.Test.YthdjlejljipjmaaAlignRef
import Derived.Test.YthdjlejljipjmaaAlignAwake
namespace Go.Proofs.Ythdjlejljipjmaa.Pure
open Go.RowKit Go.Proofs.Ythdjlejljipjmaa.P Go.Proofs.YthdjlejljipjmaaW.PrintWords Go.Proofs.YthdjlejljipjmaaW.PrintLast
set_option linter.unusedVariables false

theorem AlignForwards (l0 : List S41) (a1 : Int) (m0 : l0.length ≤ maxLen) (wl0 : ∀ x ∈ l0, (Lit.int .i64 x.f0).wf = true ∧ (Lit.int .i64 x.f1).wf = true) (w1 : (Lit.int .i64 a1).wf = true) :
    ∃ k, papermilllaw14_AlignForwards.f k l0 a1 = some true := by
  refine ⟨2000, ?_⟩
  unfold papermilllaw14_AlignForwards.f papermilllaw14_few.f
  rw [align_awake _ (by omega), forward_eq _ _ _ (by omega), reffwd_eq _ _ _ (by omega)]
  simp
end Go.Proofs.Ythdjlejljipjmaa.Pure
