/- The statement FixedMuls over numbers alone: Mul and Div and their references answer alike, for any two integers. -/
import Derived.Test.YtpmopomiadaonaaPx13
import Derived.Test.YtpmopomiadaonaaFixedSpec
import Derived.Test.YtpmopomiadaonaaFixedAwake
namespace Go.Proofs.Ytpmopomiadaonaa.Pure
open Go.RowKit Go.Proofs.Ytpmopomiadaonaa.P Go.Proofs.YtpmopomiadaonaaW.PrintWords Go.Proofs.YtpmopomiadaonaaW.PrintLast Go.Proofs.Ytpmopomiadaonaa.Math
set_option linter.unusedVariables false

theorem ref_mul_eq (a b : Int) (k : Nat) (hk : 60 ≤ k) : papermillref23_Mul.f k a b = some (mulF a b) := by
  unfold papermillref23_Mul.f mulF
  rw [fIn_eq, fIn_eq, rounded_eq a b 65536 k hk]
  simp only [Option.bind_some]
  cases inF a <;> cases inF b <;> simp

theorem div_eq (a b : Int) (k : Nat) (hk : 5 ≤ k) : fixed_Div.f k a b = some (divF a b) := by
  unfold fixed_Div.f divF
  rw [two_in a b k hk, scaled_eq a 65536 b k hk]
  simp only [Option.bind_some]
  cases inF a <;> cases inF b <;> simp

theorem FixedMuls : papermilllaw23_FixedMuls.Pure := by
  intro a b _ _
  refine ⟨200, ?_⟩
  unfold papermilllaw23_FixedMuls.f papermillref23_Div.f
  rw [mul_eq _ _ _ (by omega), ref_mul_eq _ _ _ (by omega), div_eq _ _ _ (by omega), ref_ratio_eq _ _ _ (by omega), fixed_awake 200 (by omega)]
  simp

end Go.Proofs.Ytpmopomiadaonaa.Pure
