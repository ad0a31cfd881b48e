/- The statement FixedInverse over numbers alone: Of and Round are inverse, and Mul and Div by One change nothing. -/
import Derived.Test.YtpmopomiadaonaaPx15
import Derived.Test.YtpmopomiadaonaaRnd2
import Derived.Test.YtpmopomiadaonaaFixedAwake
import Derived.Test.YtpmopomiadaonaaPureFixedMuls
namespace Go.Proofs.Ytpmopomiadaonaa.Pure
open Go.RowKit Go.Proofs.Ytpmopomiadaonaa.P Go.Proofs.YtpmopomiadaonaaW.PrintWords Go.Proofs.YtpmopomiadaonaaW.PrintLast Go.Proofs.Ytpmopomiadaonaa.Math
set_option linter.unusedVariables false

theorem tmodb (a d : Int) (hd : 0 < d) : -d < a.tmod d ∧ a.tmod d < d := by
  have h := Int.natAbs_tmod a d
  have h2 := Nat.mod_lt a.natAbs (show 0 < d.natAbs by omega)
  omega

theorem mul_one' (z : Int) (hz : inF z = true) : mulF z 65536 = (z, 0) := by
  have e : q2 z 65536 65536 = z := by
    unfold q2
    rw [if_neg (by omega), if_neg (by omega), rnd2_exact z 65536 (by omega)]
  rw [mulF_eq z 65536 hz rfl, e, if_pos hz]

theorem div_one' (z : Int) (hz : inF z = true) : divF z 65536 = (z, 0) := by
  have e : q2 z 65536 65536 = z := by
    unfold q2
    rw [if_neg (by omega), if_neg (by omega), rnd2_exact z 65536 (by omega)]
  rw [divF_eq z 65536 hz rfl (by omega), e, if_pos hz]

theorem round_whole (x : Int) (hx : -16777216 ≤ x ∧ x ≤ 16777216) : roundF (x * 65536) = (x, 0) := by
  have e : md (x * 65536) 1 65536 2 = (x, 0) := by
    unfold md
    rw [if_neg (by omega), if_neg (show ¬ (65536 : Int) = 0 by omega), if_neg (show ¬ ((2 : Int) < 0 ∨ (3 : Int) ≤ 2) by omega), if_neg (c := (65536 : Int) < 0) (by omega), if_neg (c := (65536 : Int) < 0) (by omega), Int.mul_one, rnd2_exact x 65536 (by omega), if_neg (by omega)]
  unfold roundF
  rw [if_pos ((inF_iff _).2 (by omega)), e]

theorem FixedInverse : papermilllaw23_FixedInverse.Pure := by
  intro n a wn wa
  have hn : -2147483648 ≤ n ∧ n ≤ 2147483647 := by simp [Lit.wf, IntKind.min, IntKind.max, IntKind.signed, IntKind.bits] at wn; omega
  refine ⟨200, ?_⟩
  unfold papermilllaw23_FixedInverse.f
  rw [wrap64_id (x := n) (by omega) (by omega)]
  have h1 := tmodb n 16777217 (by omega)
  have h2 := tmodb a 1099511627777 (by omega)
  generalize n.tmod 16777217 = x at *
  generalize a.tmod 1099511627777 = z at *
  have hz : inF z = true := (inF_iff z).2 (by omega)
  rw [of_eq, if_neg (by omega), fixed_awake 200 (by omega)]
  simp only [Option.bind_some]
  rw [round_eq _ _ (by omega), mul_eq _ _ _ (by omega), div_eq _ _ _ (by omega), round_whole x (by omega), mul_one' z hz, div_one' z hz, wrap64_id (x := x * 65536) (by omega) (by omega)]
  simp

end Go.Proofs.Ytpmopomiadaonaa.Pure
