/- What broke.Mass answers. -/
import Derived.Test.YthbpjiembjapdaaNear
import Derived.Test.YthbpjiembjapdaaHandMulDiv
import Derived.Test.YthbpjiembjapdaaPx7
namespace Go.Proofs.Ythbpjiembjapdaa.P
open Go.RowKit Go.Proofs.YthbpjiembjapdaaW.PrintWords Go.Proofs.YthbpjiembjapdaaW.PrintLast Go.Proofs.YthbpjiembjapdaaW.PrintMore Go.Proofs.Ythbpjiembjapdaa.Math
set_option linter.unusedVariables false

def massF (a b : Int) : Int × Int := if a < 0 ∨ 206158430208000 < a ∨ b < 0 ∨ 1000000 < b then (0, 1) else (rnd (a * b) 1000000000 2, 0)

theorem mass_prod (a b : Int) (ha : 0 ≤ a) (ha' : a ≤ 206158430208000) (hb : 0 ≤ b) (hb' : b ≤ 1000000) : 0 ≤ a * b ∧ a * b ≤ 206158430208000000000 :=
  ⟨Int.mul_nonneg ha hb, by have := Int.mul_le_mul ha' hb' hb (by omega); omega⟩

theorem bmass_eq (a b : Int) : broke_Mass.f a b = some (massF a b) := by
  unfold broke_Mass.f massF
  by_cases a1 : a < 0
  · rw [if_pos a1, if_pos (by omega)]
  · rw [if_neg a1]
    by_cases a2 : a > 206158430208000
    · rw [if_pos a2, if_pos (by omega)]
    · rw [if_neg a2]
      by_cases a3 : b < 0
      · rw [if_pos a3, if_pos (by omega)]
      · rw [if_neg a3]
        by_cases a4 : b > 1000000
        · rw [if_pos a4, if_pos (by omega)]
        · rw [if_neg a4, if_neg (by omega)]
          unfold num_MulDiv.f
          simp only [Option.bind_some]
          have hp := mass_prod a b (by omega) (by omega) (by omega) (by omega)
          have hn := rnd2_near (a * b) 1000000000 (by omega)
          have e : md a b 1000000000 2 = (rnd (a * b) 1000000000 2, 0) := by
            unfold md
            rw [if_neg (by omega), if_neg (show ¬ (1000000000 : Int) = 0 by omega), if_neg (show ¬ ((2 : Int) < 0 ∨ (3 : Int) ≤ 2) by omega), if_neg (c := (1000000000 : Int) < 0) (by omega), if_neg (c := (1000000000 : Int) < 0) (by omega)]
            unfold Near at hn
            rw [if_neg (by omega)]
          rw [e]
end Go.Proofs.Ythbpjiembjapdaa.P
