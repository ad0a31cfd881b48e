/- The statement DiameterParts over numbers alone. -/
import Derived.Test.YtnjcedkgnjohfaaPx14
import Derived.Test.YtnjcedkgnjohfaaDiaSpec
import Derived.Test.YtnjcedkgnjohfaaPx3
namespace Go.Proofs.Ytnjcedkgnjohfaa.Pure
open Go.RowKit Go.Proofs.Ytnjcedkgnjohfaa.P Go.Proofs.YtnjcedkgnjohfaaW.PrintWords Go.Proofs.YtnjcedkgnjohfaaW.PrintLast Go.Proofs.Ytnjcedkgnjohfaa.Math
set_option linter.unusedVariables false

theorem massOk (wd ln bs : Int) (h1 : 0 ≤ wd) (h2 : wd ≤ 12000) (h3 : 0 ≤ ln) (h4 : ln ≤ 17179869184) (h5 : 0 ≤ bs) (h6 : bs ≤ 1000000) : massSpec wd ln bs = (rnd (wd * ln * bs) 1000000000 2, 0) := by
  unfold massSpec; rw [if_neg (by omega)]

theorem mul_mono3 {a b c d : Int} (h0 : 0 ≤ a) (h1 : a ≤ b) (h2 : 0 ≤ c) (h3 : c ≤ d) : a * c ≤ b * d := mul_le h0 h1 h2 h3

theorem DiameterParts (a0_0 a0_1 a0_2 a1 : Int) (w0 : (Lit.int .i64 a0_0).wf = true) (w1 : (Lit.int .i64 a0_1).wf = true) (w2 : (Lit.int .i64 a0_2).wf = true) (hw : (Lit.int .u32 a1).wf = true) : ∃ k, papermilllaw37_DiameterParts.f k a0_0 a0_1 a0_2 a1 = some true := by
  refine ⟨103, ?_⟩
  have hu : 0 ≤ a1 ∧ a1 ≤ 4294967295 := by simp [Lit.wf, IntKind.min, IntKind.max, IntKind.signed, IntKind.bits] at hw; omega
  unfold papermilllaw37_DiameterParts.f
  rw [mass_eq]
  simp only [Option.bind_some]
  by_cases hb : a0_0 < 0 ∨ 12000 < a0_0 ∨ a0_1 < 0 ∨ 17179869184 < a0_1 ∨ a0_2 < 0 ∨ 1000000 < a0_2
  · have e : massSpec a0_0 a0_1 a0_2 = (0, 1) := by unfold massSpec; rw [if_pos hb]
    rw [e, dia_awake 103 (by omega)]; simp
  · have e := massOk a0_0 a0_1 a0_2 (by omega) (by omega) (by omega) (by omega) (by omega) (by omega)
    rw [e]
    simp only [if_true]
    have bN := mul3_bounds a0_0 a0_1 a0_2 (by omega) (by omega) (by omega) (by omega) (by omega) (by omega)
    have rN0 := rnd2_nonneg (a0_0 * a0_1 * a0_2) 1000000000 (by omega) bN.2.2.1
    have rN1 := rnd2_bounds (a0_0 * a0_1 * a0_2) 1000000000 (by omega)
    have t2 : ∀ k, 10 ≤ k → papermilllaw37_DiameterParts.j2 (k + 1) a0_0 a0_1 a0_2 (rnd (a0_0 * a0_1 * a0_2) 1000000000 2) = some true := fun k hk => by
      simp only [papermilllaw37_DiameterParts.j2]
      rw [dia_awake k hk]
      by_cases c : a0_2 > 0
      · rw [if_pos c, mass_eq, wrap64_id (by omega) (by omega), massOk a0_0 a0_1 (a0_2 - 1) (by omega) (by omega) (by omega) (by omega) (by omega) (by omega)]
        simp only [Option.bind_some, if_true]
        have := rnd2_mono (a0_0 * a0_1 * (a0_2 - 1)) (a0_0 * a0_1 * a0_2) 1000000000 (by omega) (Int.mul_le_mul_of_nonneg_left (by omega) bN.1)
        rw [if_neg (by omega)]
      · rw [if_neg c]; rfl
    have t1 : ∀ k, 10 ≤ k → papermilllaw37_DiameterParts.j1 (k + 2) a0_0 a0_1 a0_2 (rnd (a0_0 * a0_1 * a0_2) 1000000000 2) false = some true := fun k hk => by
      simp only [papermilllaw37_DiameterParts.j1]
      rw [if_neg (by simp)]
      by_cases c : a0_0 > 0
      · rw [if_pos c, mass_eq, wrap64_id (by omega) (by omega), massOk (a0_0 - 1) a0_1 a0_2 (by omega) (by omega) (by omega) (by omega) (by omega) (by omega)]
        simp only [Option.bind_some, if_true]
        have h1 : (a0_0 - 1) * a0_1 ≤ a0_0 * a0_1 := Int.mul_le_mul_of_nonneg_right (by omega) (by omega)
        have := rnd2_mono ((a0_0 - 1) * a0_1 * a0_2) (a0_0 * a0_1 * a0_2) 1000000000 (by omega) (Int.mul_le_mul_of_nonneg_right h1 (by omega))
        rw [if_neg (by omega)]
        exact t2 k hk
      · rw [if_neg c]; exact t2 k hk
    have t0 : ∀ (x : Int), 0 ≤ x → x ≤ a0_1 → papermilllaw37_DiameterParts.j0 103 a0_0 a0_1 a0_2 (rnd (a0_0 * a0_1 * a0_2) 1000000000 2) x = some true := fun x hx0 hx1 => by
      simp only [papermilllaw37_DiameterParts.j0]
      rw [mass_eq, mass_eq, wrap64_id (by omega) (by omega), massOk a0_0 x a0_2 (by omega) (by omega) (by omega) (by omega) (by omega) (by omega), massOk a0_0 (a0_1 - x) a0_2 (by omega) (by omega) (by omega) (by omega) (by omega) (by omega)]
      simp only [Option.bind_some, if_true]
      have bA := mul3_bounds a0_0 x a0_2 (by omega) (by omega) (by omega) (by omega) (by omega) (by omega)
      have bB := mul3_bounds a0_0 (a0_1 - x) a0_2 (by omega) (by omega) (by omega) (by omega) (by omega) (by omega)
      have es : a0_0 * a0_1 * a0_2 = a0_0 * x * a0_2 + a0_0 * (a0_1 - x) * a0_2 := by grind
      have mA := rnd2_mono (a0_0 * x * a0_2) (a0_0 * a0_1 * a0_2) 1000000000 (by omega) (by omega)
      have mB := rnd2_mono (a0_0 * (a0_1 - x) * a0_2) (a0_0 * a0_1 * a0_2) 1000000000 (by omega) (by omega)
      have nA := rnd2_nonneg (a0_0 * x * a0_2) 1000000000 (by omega) (by omega)
      have nB := rnd2_nonneg (a0_0 * (a0_1 - x) * a0_2) 1000000000 (by omega) (by omega)
      have qA := rnd2_bounds (a0_0 * x * a0_2) 1000000000 (by omega)
      have qB := rnd2_bounds (a0_0 * (a0_1 - x) * a0_2) 1000000000 (by omega)
      rw [es] at rN0 rN1 mA mB bN ⊢
      generalize a0_0 * x * a0_2 = A at *
      generalize a0_0 * (a0_1 - x) * a0_2 = B at *
      generalize rnd A 1000000000 2 = p at *
      generalize rnd B 1000000000 2 = q at *
      have key := t1 100 (by omega)
      rw [es] at key
      generalize rnd (A + B) 1000000000 2 = s at *
      rw [if_neg (by omega), if_neg (by omega), if_neg (by omega), if_neg (by omega), wrap64_id (x := p + q) (by omega) (by omega), wrap64_id (x := p + q - s) (by omega) (by omega), if_neg (by omega), wrap64_id (x := s - p) (by omega) (by omega), wrap64_id (x := s - p - q) (by omega) (by omega), decide_eq_false (by omega)]
      exact key
    by_cases c : a0_1 > 0
    · rw [if_pos c, if_neg (by omega), wrap64_id (by omega) (by omega), Int.tmod_eq_emod_of_nonneg (by omega)]
      have m1 := Int.emod_nonneg a1 (show a0_1 ≠ 0 by omega)
      have m2 := Int.emod_lt_of_pos a1 c
      exact t0 _ m1 (by omega)
    · rw [if_neg c]
      exact t0 0 (by omega) (by omega)

end Go.Proofs.Ytnjcedkgnjohfaa.Pure
