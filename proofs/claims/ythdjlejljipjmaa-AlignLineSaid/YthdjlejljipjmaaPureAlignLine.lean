/- The statement AlignLine over numbers alone: at a mark Forward is its B; thinned marks give the same Forward everywhere, and are not thinned further. -/
import Derived.Test.YthdjlejljipjmaaPx27
import Derived.Test.YthdjlejljipjmaaAlignThin
import Derived.Test.YthdjlejljipjmaaAlignAwake
namespace Go.Proofs.Ythdjlejljipjmaa.Pure
open Go.RowKit Go.Proofs.Ythdjlejljipjmaa.P Go.Proofs.YthdjlejljipjmaaW.PrintWords Go.Proofs.YthdjlejljipjmaaW.PrintLast
set_option linter.unusedVariables false

theorem AlignLine (l0 : List S41) (a1 a2 : Int) (m0 : l0.length ≤ maxLen) (wl0 : ∀ x ∈ l0, (Lit.int .i64 x.f0).wf = true ∧ (Lit.int .i64 x.f1).wf = true) (w1 : (Lit.int .i64 a1).wf = true) (w2 : (Lit.int .i64 a2).wf = true) :
    ∃ k, papermilllaw14_AlignLine.f k l0 a1 a2 = some true := by
  refine ⟨3000, ?_⟩
  have triv : papermilllaw14_AlignLine.j0 3000 l0 a1 a2 true = some true := by
    simp only [papermilllaw14_AlignLine.j0]
    rw [if_pos trivial, align_awake _ (by omega)]; rfl
  unfold papermilllaw14_AlignLine.f papermilllaw14_few.f
  rw [checkM_eq _ _ (by omega)]
  simp only [Option.bind_some]
  by_cases c : (l0.length : Int) ≤ 100
  · rw [if_pos (decide_eq_true c)]
    by_cases h : chkM l0 = 0
    · rw [if_pos h]
      by_cases c1 : a2 < 0
      · rw [if_pos c1]; exact triv
      · rw [if_neg c1]
        by_cases c2 : a2 ≥ (l0.length : Int)
        · rw [decide_eq_true c2]; exact triv
        · rw [decide_eq_false c2]
          obtain ⟨i, rfl⟩ := Int.eq_ofNat_of_zero_le (show 0 ≤ a2 by omega)
          have hi : i < l0.length := by omega
          have hok := (chkM_zero l0).1 h
          have h2 := hok.1
          have h64 := hok.2.1
          have m1 := mono_le hok (show 0 ≤ i by omega) hi
          have m2 := mono_le hok (show i ≤ l0.length - 1 by omega) (by omega)
          obtain ⟨ht, hlen⟩ := chkM_thin l0 h
          have e1 : fwdS l0 (mA l0 i) = (mB l0 i, 0) := by
            unfold fwdS
            rw [if_pos h, if_pos ⟨m1.1, m2.1⟩, fwd_at hok i hi]
          simp only [papermilllaw14_AlignLine.j0]
          rw [if_neg (by simp), if_pos (by omega), if_pos (by omega)]
          change ((align_Forward.f 2999 l0 (mA l0 i)).bind fun bt338 => _) = _
          rw [forward_eq _ _ _ (by omega), e1, thin_eq _ _ (by omega), if_pos h]
          simp only [Option.bind_some]
          rw [thin_eq _ _ (by omega), if_pos ht, thin_thin l0 h]
          simp only [Option.bind_some, if_true]
          rw [if_pos (show mB l0 i = (rd_T41 l0 (i : Int)).f1 from rfl), same_eq _ (by omega) _ (by omega)]
          simp only [Option.bind_some, if_true]
          rw [decide_eq_false (by omega)]
          simp only [papermilllaw14_AlignLine.j1]
          rw [if_neg (by simp), forward_eq _ _ _ (by omega), forward_eq _ _ _ (by omega), fwdS_thin l0 h, align_awake _ (by omega)]
          simp
    · rw [if_neg h]; exact triv
  · rw [if_neg (by simpa using c)]; exact triv
end Go.Proofs.Ythdjlejljipjmaa.Pure
