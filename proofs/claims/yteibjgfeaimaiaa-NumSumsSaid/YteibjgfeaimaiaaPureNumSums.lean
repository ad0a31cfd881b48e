/- The statement NumSums over lists alone: Sum and its reference answer alike. -/
import Derived.Test.YteibjgfeaimaiaaPx7
import Derived.Test.YteibjgfeaimaiaaNumSpec
import Derived.Test.YteibjgfeaimaiaaRefMd
namespace Go.Proofs.Yteibjgfeaimaiaa.Pure
open Go.RowKit Go.Proofs.Yteibjgfeaimaiaa.P Go.Proofs.YteibjgfeaimaiaaW.PrintWords Go.Proofs.YteibjgfeaimaiaaW.PrintLast Go.Proofs.Yteibjgfeaimaiaa.Math
set_option linter.unusedVariables false

theorem NumSums : papermilllaw01_NumSums.Pure := by
  intro l _ _ _
  refine ⟨300, ?_⟩
  unfold papermilllaw01_NumSums.f
  rw [awake_true 300 (by omega)]
  by_cases c : (l.length : Int) > 200
  · rw [if_pos c]; rfl
  · rw [if_neg c, num_Sum_eq l (by omega) 300 (by omega), ref_Sum_eq l (by omega) 300 (by omega)]
    simp

end Go.Proofs.Yteibjgfeaimaiaa.Pure
