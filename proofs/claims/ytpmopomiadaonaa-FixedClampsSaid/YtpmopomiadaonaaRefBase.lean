/- The reference's In, result and abs. -/
import Derived.Test.YtpmopomiadaonaaNumIn
import Derived.Test.YtpmopomiadaonaaPx4
import Derived.Test.YtpmopomiadaonaaPx5
import Derived.Test.YtpmopomiadaonaaPx5
namespace Go.Proofs.Ytpmopomiadaonaa.P
open Go.RowKit Go.Proofs.YtpmopomiadaonaaW.PrintWords Go.Proofs.YtpmopomiadaonaaW.PrintLast Go.Proofs.YtpmopomiadaonaaW.PrintMore Go.Proofs.Ytpmopomiadaonaa.Math
set_option linter.unusedVariables false

theorem rInR_iff (x : Int) : inR x = true ↔ -1125899906842624 ≤ x ∧ x ≤ 1125899906842624 := by unfold inR; simp

theorem rIn_eq (x : Int) : papermillref01_In.f x = some (inR x) := by
  unfold papermillref01_In.f inR
  by_cases h : x ≥ -1125899906842624
  · rw [if_pos h]; congr 1; rw [decide_eq_decide]; omega
  · rw [if_neg h, decide_eq_false (by omega)]

theorem rresult_eq (x : Int) : papermillref01_result.f x = some (if x < -1125899906842624 ∨ 1125899906842624 < x then (0, 2) else (x, 0)) := by
  unfold papermillref01_result.f
  rw [rIn_eq]
  simp only [Option.bind_some]
  by_cases h : -1125899906842624 ≤ x ∧ x ≤ 1125899906842624
  · rw [if_pos ((rInR_iff x).2 h), if_neg (by omega)]
  · rw [if_neg (by rw [rInR_iff]; exact h), if_pos (by omega)]

theorem rabs_eq (x : Int) (h0 : -9223372036854775807 ≤ x) (h1 : x ≤ 9223372036854775807) : papermillref01_abs.f x = some (if x < 0 then -x else x) := by
  unfold papermillref01_abs.f
  split
  · rw [wrap64_id (by omega) (by omega)]
  · rfl

end Go.Proofs.Ytpmopomiadaonaa.P
