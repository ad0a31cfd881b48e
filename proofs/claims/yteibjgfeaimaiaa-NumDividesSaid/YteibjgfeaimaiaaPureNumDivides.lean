/- The statement NumDivides over numbers alone: MulDiv and its reference answer alike. -/
import Derived.Test.YteibjgfeaimaiaaPx10
import Derived.Test.YteibjgfeaimaiaaNumSpec
import Derived.Test.YteibjgfeaimaiaaRefMd
namespace Go.Proofs.Yteibjgfeaimaiaa.Pure
open Go.RowKit Go.Proofs.Yteibjgfeaimaiaa.P Go.Proofs.YteibjgfeaimaiaaW.PrintWords Go.Proofs.YteibjgfeaimaiaaW.PrintLast Go.Proofs.Yteibjgfeaimaiaa.Math
set_option linter.unusedVariables false

theorem NumDivides (a0_0 a0_1 a0_2 a0_3 : Int) (w0 : (Lit.int .i64 a0_0).wf = true) (w1 : (Lit.int .i64 a0_1).wf = true) (w2 : (Lit.int .i64 a0_2).wf = true) (w3 : (Lit.int .i64 a0_3).wf = true) :
    ∃ k, papermilllaw01_NumDivides.f k a0_0 a0_1 a0_2 a0_3 = some true := by
  refine ⟨300, ?_⟩
  unfold papermilllaw01_NumDivides.f num_MulDiv.f
  rw [ref_MulDiv_eq _ _ _ _ 300 (by omega), awake_true 300 (by omega)]
  simp

end Go.Proofs.Yteibjgfeaimaiaa.Pure
