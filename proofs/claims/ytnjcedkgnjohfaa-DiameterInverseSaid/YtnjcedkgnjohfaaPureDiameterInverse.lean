/- The statement DiameterInverse over numbers alone: Dia is the least inverse of Length. -/
import Derived.Test.YtnjcedkgnjohfaaPx11
import Derived.Test.YtnjcedkgnjohfaaDiaSpec
import Derived.Test.YtnjcedkgnjohfaaPx3
namespace Go.Proofs.Ytnjcedkgnjohfaa.Pure
open Go.RowKit Go.Proofs.Ytnjcedkgnjohfaa.P Go.Proofs.YtnjcedkgnjohfaaW.PrintWords Go.Proofs.YtnjcedkgnjohfaaW.PrintLast Go.Proofs.Ytnjcedkgnjohfaa.Math
set_option linter.unusedVariables false

theorem lenOk (core dia cal : Int) (h1 : 1 ≤ core) (h2 : core ≤ dia) (h3 : dia ≤ 2500) (h4 : 1 ≤ cal) (h5 : cal ≤ 5000) : lenSpec core dia cal = (woundZ core dia cal, 0) := by
  unfold lenSpec; rw [if_neg (by omega), if_neg (by omega)]

theorem woundZ_nonneg (core dia cal : Int) (h1 : 0 ≤ core) (h2 : core ≤ dia) (h4 : 1 ≤ cal) : 0 ≤ woundZ core dia cal := by
  unfold woundZ
  have := sq_mono h1 h2
  exact Int.ediv_nonneg (by omega) (by omega)

theorem DiameterInverse : papermilllaw37_DiameterInverse.Pure := by
  intro a0 a1 a2 _ _ _
  refine ⟨103, ?_⟩
  unfold papermilllaw37_DiameterInverse.f diameter_Dia.f
  simp only [Option.bind_some]
  rw [length_eq _ _ _ 103 (by omega), dia_awake 103 (by omega)]
  rcases dia_says a0 a1 a2 with ⟨e, _⟩ | ⟨⟨g1, g2, g3, g4, g5, g6⟩, ⟨e, hw⟩ | ⟨d, e, d1, d2, d3, d4⟩⟩
  · rw [e]; simp
  · rw [e, lenOk a0 2500 a2 g1 g2 (by omega) g3 g4]; simp [hw]
  · rw [e]
    simp only [if_true]
    have tail : ∀ k, 10 ≤ k → ((diameter_Dia.f a0 (woundZ a0 d a2) a2).bind fun bt => (if bt.2 = 0 then (if bt.1 ≤ d then (if bt.1 ≥ a0 then ((papermilllaw37_awake.f k).bind fun t168 => (some t168)) else (if woundZ a0 d a2 > 17179869184 then ((papermilllaw37_awake.f k).bind fun t169 => (some t169)) else (some false))) else (if woundZ a0 d a2 > 17179869184 then ((papermilllaw37_awake.f k).bind fun t170 => (some t170)) else (some false))) else (if woundZ a0 d a2 > 17179869184 then ((papermilllaw37_awake.f k).bind fun t171 => (some t171)) else (some false)))) = some true := fun k hk => by
      unfold diameter_Dia.f
      simp only [Option.bind_some, dia_awake k hk]
      have hn := woundZ_nonneg a0 d a2 (by omega) d1 g3
      rcases dia_says a0 (woundZ a0 d a2) a2 with ⟨e2, hb⟩ | ⟨hr, ⟨e2, hw2⟩ | ⟨d', e2, f1, f2, f3, f4⟩⟩
      · have : woundZ a0 d a2 > 17179869184 := by omega
        rw [e2]; simp [this]
      · have := wound_mono a0 d 2500 a2 (by omega) d2 g3
        omega
      · rw [e2]
        simp only [if_true]
        by_cases c : d' ≤ d
        · rw [if_pos c, if_pos (by omega)]
        · have := wound_mono a0 d (d' - 1) a2 (by omega) (by omega) g3
          have := f4 (by omega)
          omega
    rw [if_neg (by omega), if_neg (by omega), decide_eq_false (by omega)]
    simp only [papermilllaw37_DiameterInverse.j0]
    rw [if_neg (by simp), length_eq _ _ _ 102 (by omega)]
    simp only [Option.bind_some]
    rw [lenOk a0 d a2 g1 d1 d2 g3 g4]
    simp only [if_true]
    rw [decide_eq_false (by omega)]
    simp only [papermilllaw37_DiameterInverse.j1]
    rw [if_neg (by simp)]
    by_cases c : d > a0
    · rw [if_pos c, wrap64_id (by omega) (by omega), length_eq _ _ _ 101 (by omega)]
      simp only [Option.bind_some]
      rw [lenOk a0 (d - 1) a2 g1 (by omega) (by omega) g3 g4]
      simp only [if_true]
      have := d4 (by omega)
      rw [decide_eq_false (by omega)]
      simp only [papermilllaw37_DiameterInverse.j2]
      rw [if_neg (by simp)]
      exact tail 100 (by omega)
    · rw [if_neg c]
      exact tail 101 (by omega)

end Go.Proofs.Ytnjcedkgnjohfaa.Pure
