/- The statement DiameterAdds over numbers alone. -/
import Derived.Test.YtnjcedkgnjohfaaPx13
import Derived.Test.YtnjcedkgnjohfaaDiaSpec
import Derived.Test.YtnjcedkgnjohfaaPx3
namespace Go.Proofs.Ytnjcedkgnjohfaa.Pure
open Go.RowKit Go.Proofs.Ytnjcedkgnjohfaa.P Go.Proofs.YtnjcedkgnjohfaaW.PrintWords Go.Proofs.YtnjcedkgnjohfaaW.PrintLast Go.Proofs.Ytnjcedkgnjohfaa.Math
set_option linter.unusedVariables false

theorem lenOk (core dia cal : Int) (h1 : 1 ≤ core) (h2 : core ≤ dia) (h3 : dia ≤ 2500) (h4 : 1 ≤ cal) (h5 : cal ≤ 5000) : lenSpec core dia cal = (woundZ core dia cal, 0) := by
  unfold lenSpec; rw [if_neg (by omega), if_neg (by omega)]

theorem len_cases (core dia cal : Int) : ((lenSpec core dia cal).2 ≠ 0 ∧ ¬ (1 ≤ core ∧ core ≤ dia ∧ dia ≤ 2500 ∧ 1 ≤ cal ∧ cal ≤ 5000)) ∨ ((1 ≤ core ∧ core ≤ dia ∧ dia ≤ 2500 ∧ 1 ≤ cal ∧ cal ≤ 5000) ∧ lenSpec core dia cal = (woundZ core dia cal, 0)) := by
  by_cases h : 1 ≤ core ∧ core ≤ dia ∧ dia ≤ 2500 ∧ 1 ≤ cal ∧ cal ≤ 5000
  · exact .inr ⟨h, lenOk _ _ _ h.1 h.2.1 h.2.2.1 h.2.2.2.1 h.2.2.2.2⟩
  · left
    refine ⟨?_, h⟩
    unfold lenSpec
    by_cases hb : core < 1 ∨ 2500 < core ∨ cal < 1 ∨ 5000 < cal ∨ dia < 1 ∨ 2500 < dia
    · rw [if_pos hb]; simp
    · rw [if_neg hb, if_pos (by omega)]; simp

theorem woundZ_bounds (core dia cal : Int) (h1 : 1 ≤ core) (h2 : core ≤ dia) (h3 : dia ≤ 2500) (h4 : 1 ≤ cal) : 0 ≤ woundZ core dia cal ∧ woundZ core dia cal ≤ 4908738520312500000 := by
  unfold woundZ
  have b1 := sq_bound core (by omega) (by omega)
  have b2 := sq_bound dia (by omega) (by omega)
  have b3 := sq_mono (show 0 ≤ core by omega) h2
  generalize dia * dia = D at *
  generalize core * core = C at *
  refine ⟨Int.ediv_nonneg (by omega) (by omega), Int.le_trans (Int.ediv_le_self _ (by omega)) (by omega)⟩

theorem woundZ_adds (x y z cal : Int) (h4 : 1 ≤ cal) : woundZ x y cal + woundZ y z cal = woundZ x z cal ∨ woundZ x y cal + woundZ y z cal + 1 = woundZ x z cal := by
  unfold woundZ
  have e : 3141592653 * ((z * z - x * x) * 250) = 3141592653 * ((y * y - x * x) * 250) + 3141592653 * ((z * z - y * y) * 250) := by grind
  rw [e]
  generalize 3141592653 * ((y * y - x * x) * 250) = A
  generalize 3141592653 * ((z * z - y * y) * 250) = B
  have hd : 0 < 1000000000 * cal := by omega
  generalize 1000000000 * cal = d at *
  have a1 := Int.mul_ediv_add_emod A d
  have a2 := Int.emod_nonneg A (show d ≠ 0 by omega)
  have a3 := Int.emod_lt_of_pos A hd
  have b1 := Int.mul_ediv_add_emod B d
  have b2 := Int.emod_nonneg B (show d ≠ 0 by omega)
  have b3 := Int.emod_lt_of_pos B hd
  generalize A / d = p at *
  generalize A % d = r at *
  generalize B / d = q at *
  generalize B % d = s at *
  have e1 : d * (p + q) = d * p + d * q := by grind
  have e2 : d * (p + q + 1) = d * p + d * q + d := by grind
  by_cases c : r + s < d
  · left; exact (div_unique hd (by omega) (by omega)).symm
  · right; exact (div_unique hd (by omega) (by omega)).symm

theorem DiameterAdds (a0_0 a0_1 a1_0 a1_1 : Int) (w0 : (Lit.int .i64 a0_0).wf = true) (w1 : (Lit.int .i64 a0_1).wf = true) (w2 : (Lit.int .i64 a1_0).wf = true) (w3 : (Lit.int .i64 a1_1).wf = true) : ∃ k, papermilllaw37_DiameterAdds.f k a0_0 a0_1 a1_0 a1_1 = some true := by
  refine ⟨103, ?_⟩
  unfold papermilllaw37_DiameterAdds.f
  rw [length_eq _ _ _ 103 (by omega), length_eq _ _ _ 103 (by omega), length_eq _ _ _ 103 (by omega)]
  simp only [Option.bind_some]
  rcases len_cases a0_0 a0_1 a1_1 with ⟨h, _⟩ | ⟨⟨g1, g2, g3, g4, g5⟩, e1⟩
  · rw [if_neg h]
    simp only [papermilllaw37_DiameterAdds.j0, dia_awake 102 (by omega)]
    simp
  · rcases len_cases a0_1 a1_0 a1_1 with ⟨h, _⟩ | ⟨⟨f1, f2, f3, f4, f5⟩, e2⟩
    · rw [e1]
      simp only [if_true]
      rw [bne_iff_ne.2 h]
      simp only [papermilllaw37_DiameterAdds.j0, dia_awake 102 (by omega)]
      simp
    · rw [e1, e2, lenOk a0_0 a1_0 a1_1 g1 (by omega) f3 g4 g5]
      simp only [if_true, papermilllaw37_DiameterAdds.j0, dia_awake 102 (by omega)]
      have b1 := woundZ_bounds a0_0 a0_1 a1_1 g1 g2 g3 g4
      have b2 := woundZ_bounds a0_1 a1_0 a1_1 f1 f2 f3 f4
      have b3 := woundZ_bounds a0_0 a1_0 a1_1 g1 (by omega) f3 g4
      have hs := woundZ_adds a0_0 a0_1 a1_0 a1_1 g4
      rcases hs with h | h
      · have hw : wrap64 (woundZ a0_0 a0_1 a1_1 + woundZ a0_1 a1_0 a1_1) = woundZ a0_0 a1_0 a1_1 := by rw [wrap64_id (by omega) (by omega), h]
        simp [hw]
      · have hw : wrap64 (woundZ a0_0 a0_1 a1_1 + woundZ a0_1 a1_0 a1_1) = woundZ a0_0 a0_1 a1_1 + woundZ a0_1 a1_0 a1_1 := by rw [wrap64_id (by omega) (by omega)]
        have hw2 : wrap64 (woundZ a0_0 a0_1 a1_1 + woundZ a0_1 a1_0 a1_1 + 1) = woundZ a0_0 a1_0 a1_1 := by rw [wrap64_id (by omega) (by omega), h]
        rw [hw, hw2]
        simp

end Go.Proofs.Ytnjcedkgnjohfaa.Pure
