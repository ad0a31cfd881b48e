/- The statement BrokeAdds over numbers alone: masses of two areas add up to that of both, within 1 gram. -/
import Derived.Test.YthbpjiembjapdaaPx13
import Derived.Test.YthbpjiembjapdaaBrokeMass
import Derived.Test.YthbpjiembjapdaaBrokeLevel
namespace Go.Proofs.Ythbpjiembjapdaa.Pure
open Go.RowKit Go.Proofs.Ythbpjiembjapdaa.P Go.Proofs.YthbpjiembjapdaaW.PrintWords Go.Proofs.YthbpjiembjapdaaW.PrintLast Go.Proofs.Ythbpjiembjapdaa.Math
set_option linter.unusedVariables false

theorem BrokeAdds : papermilllaw22_BrokeAdds.Pure := by
  intro a b c _ _ _
  refine ⟨4000, ?_⟩
  unfold papermilllaw22_BrokeAdds.f
  rw [bmass_eq, bmass_eq]
  simp only [Option.bind_some, papermilllaw22_BrokeAdds.j0]
  by_cases h1 : a < 0 ∨ 206158430208000 < a ∨ c < 0 ∨ 1000000 < c
  · have e : massF a c = (0, 1) := if_pos h1
    rw [e, if_neg (by decide), if_pos trivial, broke_awake _ (by omega)]; rfl
  · have e : massF a c = (rnd (a * c) 1000000000 2, 0) := if_neg h1
    rw [e, if_pos rfl]
    by_cases h2 : b < 0 ∨ 206158430208000 < b ∨ c < 0 ∨ 1000000 < c
    · have e2 : massF b c = (0, 1) := if_pos h2
      rw [e2, if_pos (by decide), broke_awake _ (by omega)]; rfl
    · have e2 : massF b c = (rnd (b * c) 1000000000 2, 0) := if_neg h2
      rw [e2, if_neg (by simp), w64 (x := a + b) (by omega) (by omega), bmass_eq]
      simp only [Option.bind_some]
      by_cases h3 : a + b > 206158430208000
      · have e3 : massF (a + b) c = (0, 1) := if_pos (by omega)
        rw [if_pos h3, e3, if_pos rfl, if_pos rfl, broke_awake _ (by omega)]; rfl
      · have e3 : massF (a + b) c = (rnd ((a + b) * c) 1000000000 2, 0) := if_neg (by omega)
        rw [if_neg h3, e3, if_pos rfl]
        have p1 := mass_prod a c (by omega) (by omega) (by omega) (by omega)
        have p2 := mass_prod b c (by omega) (by omega) (by omega) (by omega)
        have n1 := rnd2_near (a * c) 1000000000 (by omega)
        have n2 := rnd2_near (b * c) 1000000000 (by omega)
        have n3 := rnd2_near ((a + b) * c) 1000000000 (by omega)
        rw [Int.add_mul] at n3 ⊢
        have m1 := rnd2_mono (a * c) (a * c + b * c) 1000000000 (by omega) (by omega)
        have m2 := rnd2_mono (b * c) (a * c + b * c) 1000000000 (by omega) (by omega)
        generalize rnd (a * c) 1000000000 2 = x at *
        generalize rnd (b * c) 1000000000 2 = y at *
        generalize rnd (a * c + b * c) 1000000000 2 = z at *
        unfold Near at n1 n2 n3
        dsimp only
        rw [w64 (x := z - x) (by omega) (by omega), w64 (x := z - x - y) (by omega) (by omega), if_pos (by omega), if_pos (by omega), if_pos (by omega), if_pos (by omega), broke_awake _ (by omega)]
        rfl
end Go.Proofs.Ythbpjiembjapdaa.Pure
