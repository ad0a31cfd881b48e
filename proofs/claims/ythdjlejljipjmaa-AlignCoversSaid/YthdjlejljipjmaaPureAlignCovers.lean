/- The statement AlignCovers over numbers alone: Cover and its reference answer alike, for any marks. -/
import Derived.Test.YthdjlejljipjmaaPx22
import Derived.Test.YthdjlejljipjmaaPx21
import Derived.Test.YthdjlejljipjmaaAlignRef
import Derived.Test.YthdjlejljipjmaaAlignCover
import Derived.Test.YthdjlejljipjmaaAlignAwake
namespace Go.Proofs.Ythdjlejljipjmaa.Pure
open Go.RowKit Go.Proofs.Ythdjlejljipjmaa.P Go.Proofs.YthdjlejljipjmaaW.PrintWords Go.Proofs.YthdjlejljipjmaaW.PrintLast
set_option linter.unusedVariables false

theorem refcover_eq (l : List S41) (f t : Int) (ht : -9223372036854775808 ≤ t ∧ t ≤ 9223372036854775807) (hf : -9223372036854775808 ≤ f ∧ f ≤ 9223372036854775807) (k : Nat) (hk : 700 ≤ k) : papermillref14_Cover.f k l f t = some (covS l f t) := by
  obtain ⟨k, rfl⟩ : ∃ m, k = m + 1 := ⟨k - 1, by omega⟩
  unfold papermillref14_Cover.f covS
  rw [refcheckM_eq l _ (by omega)]
  simp only [Option.bind_some, papermillref14_Cover.j0]
  by_cases h : chkM l = 0
  · have hok := (chkM_zero l).1 h
    have h2 := hok.1
    have h64 := hok.2.1
    have r0 := hok.2.2.1 0 (by omega)
    have r1 := hok.2.2.1 (l.length - 1) (by omega)
    have q1 : (0 : Int) < (l.length : Int) := by omega
    have q2 : (0 : Int) ≤ ((l.length - 1 : Nat) : Int) := by omega
    have q3 : ((l.length - 1 : Nat) : Int) < (l.length : Int) := by omega
    have em : (rd_T41 l ((l.length - 1 : Nat) : Int)).f0 = mA l (l.length - 1) := rfl
    rw [if_pos h, if_pos h, last_idx l (by omega) h64]
    simp only [if_pos q1, if_pos q2, if_pos q3]
    rw [em, wrap64_id (x := mA l (l.length - 1) + 1) (by omega) (by omega)]
    by_cases c2 : f > t
    · rw [if_pos c2, if_pos trivial, if_neg (show ¬ f = t by omega), if_pos (.inl c2)]
    · rw [if_neg c2]
      by_cases c1 : f = t
      · rw [if_neg (show ¬ f < t by omega), if_neg (by simp), if_pos c1, if_pos c1]
      · rw [if_pos (show f < t by omega), if_neg c1, if_neg c1]
        change (if f < mA l 0 then _ else _) = _
        by_cases c3 : f < mA l 0
        · rw [if_pos c3, if_pos trivial, if_pos (show f > t ∨ ¬ (mA l 0 ≤ f ∧ t - 1 ≤ mA l (l.length - 1)) by omega)]
        · rw [if_neg c3]
          by_cases c4 : t > mA l (l.length - 1) + 1
          · rw [decide_eq_true c4, if_pos rfl, if_pos (by omega)]
          · rw [decide_eq_false c4, if_neg (by simp), if_neg (by omega), reffwd_eq _ _ _ (by omega), wrap64_id (x := t - 1) (by omega) (by omega), reffwd_eq _ _ _ (by omega)]
            have e1 : fwdS l f = (fwd l f, 0) := by unfold fwdS; rw [if_pos h, if_pos (by omega)]
            have e2 : fwdS l (t - 1) = (fwd l (t - 1), 0) := by unfold fwdS; rw [if_pos h, if_pos (by omega)]
            have hb := fwd_big hok (a := t - 1) (by omega) (by omega)
            rw [e1, e2]
            simp only [Option.bind_some]
            rw [wrap64_id (by omega) (by omega)]
  · rw [if_neg h, if_neg h]

theorem AlignCovers (l0 : List S41) (a1_0 a1_1 : Int) (m0 : l0.length ≤ maxLen) (wl0 : ∀ x ∈ l0, (Lit.int .i64 x.f0).wf = true ∧ (Lit.int .i64 x.f1).wf = true) (w1 : (Lit.int .i64 a1_0).wf = true) (w2 : (Lit.int .i64 a1_1).wf = true) :
    ∃ k, papermilllaw14_AlignCovers.f k l0 a1_0 a1_1 = some true := by
  have b1 : -9223372036854775808 ≤ a1_0 ∧ a1_0 ≤ 9223372036854775807 := by simp [Lit.wf, IntKind.min, IntKind.max, IntKind.signed, IntKind.bits] at w1; omega
  have b2 : -9223372036854775808 ≤ a1_1 ∧ a1_1 ≤ 9223372036854775807 := by simp [Lit.wf, IntKind.min, IntKind.max, IntKind.signed, IntKind.bits] at w2; omega
  refine ⟨2000, ?_⟩
  unfold papermilllaw14_AlignCovers.f papermilllaw14_few.f
  rw [align_awake _ (by omega), cover_eq _ _ _ b2 b1 _ (by omega), refcover_eq _ _ _ b2 b1 _ (by omega)]
  simp
end Go.Proofs.Ythdjlejljipjmaa.Pure
