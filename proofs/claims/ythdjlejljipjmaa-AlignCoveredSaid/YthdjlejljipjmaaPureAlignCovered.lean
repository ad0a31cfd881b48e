/- The statement AlignCovered over numbers alone: Cover contains Forward of each integer of the span; Slip bounds the difference at every mark. -/
import Derived.Test.YthdjlejljipjmaaPx28
import Derived.Test.YthdjlejljipjmaaAlignCover
import Derived.Test.YthdjlejljipjmaaAlignAwake
namespace Go.Proofs.Ythdjlejljipjmaa.Pure
open Go.RowKit Go.Proofs.Ythdjlejljipjmaa.P Go.Proofs.YthdjlejljipjmaaW.PrintWords Go.Proofs.YthdjlejljipjmaaW.PrintLast
set_option linter.unusedVariables false

theorem fwd_ok' (l : List S41) (a : Int) (h : chkM l = 0) (h0 : mA l 0 ≤ a) (h1 : a ≤ mA l (l.length - 1)) (k : Nat) (hk : 200 ≤ k) : align_Forward.f k l a = some (fwd l a, 0) := by
  rw [forward_eq l a k hk]
  unfold fwdS
  rw [if_pos h, if_pos ⟨h0, h1⟩]

theorem cov_j0 (l : List S41) (f t a : Int) (h : chkM l = 0) (ht : -9223372036854775808 ≤ t ∧ t ≤ 9223372036854775807) (hf : -9223372036854775808 ≤ f ∧ f ≤ 9223372036854775807) (x y : Int) (hc : covS l f t = (x, y, 0)) (k : Nat) (hk : 500 ≤ k) : papermilllaw14_AlignCovered.j0 k l a false f t x y = some true := by
  obtain ⟨k, rfl⟩ : ∃ m, k = m + 3 := ⟨k - 3, by omega⟩
  have hok := (chkM_zero l).1 h
  unfold covS at hc
  rw [if_pos h] at hc
  simp only [papermilllaw14_AlignCovered.j0]
  rw [if_neg (by simp)]
  by_cases c1 : f = t
  · rw [if_pos c1] at hc
    obtain ⟨rfl, hc2⟩ := Prod.mk.inj hc
    obtain ⟨rfl, _⟩ := Prod.mk.inj hc2
    rw [if_pos c1, if_pos (show (((0 : Int) == 0) && ((0 : Int) == 0)) = true from rfl), align_awake _ (by omega)]; rfl
  · rw [if_neg c1] at hc
    rw [if_neg c1]
    by_cases c2 : f > t ∨ ¬ (mA l 0 ≤ f ∧ t - 1 ≤ mA l (l.length - 1))
    · rw [if_pos c2] at hc
      have := (Prod.mk.inj (Prod.mk.inj hc).2).2
      omega
    · rw [if_neg c2] at hc
      obtain ⟨rfl, hc2⟩ := Prod.mk.inj hc
      obtain ⟨rfl, _⟩ := Prod.mk.inj hc2
      have hb := fwd_big hok (a := t - 1) (by omega) (by omega)
      rw [wrap64_id (x := t - 1) (by omega) (by omega), fwd_ok' l f h (by omega) (by omega) _ (by omega), fwd_ok' l (t - 1) h (by omega) (by omega) _ (by omega), wrap64_id (x := fwd l (t - 1) + 1 - 1) (by omega) (by omega)]
      simp only [Option.bind_some, if_true]
      have e : (fwd l (t - 1) != fwd l (t - 1) + 1 - 1) = false := bne_eq_false_iff_eq.2 (by omega)
      rw [e]
      simp only [papermilllaw14_AlignCovered.j1]
      rw [if_neg (by simp)]
      have triv : papermilllaw14_AlignCovered.j2 (k + 1) l a true (fwd l f) (fwd l (t - 1) + 1) = some true := by
        simp only [papermilllaw14_AlignCovered.j2]
        rw [if_pos trivial, align_awake _ (by omega)]; rfl
      by_cases c3 : a < f
      · rw [if_pos c3]; exact triv
      · rw [if_neg c3]
        by_cases c4 : a ≥ t
        · rw [decide_eq_true c4]; exact triv
        · rw [decide_eq_false c4]
          have m1 := fwd_mono hok (a := f) (a' := a) (by omega) (by omega) (by omega)
          have m2 := fwd_mono hok (a := a) (a' := t - 1) (by omega) (by omega) (by omega)
          simp only [papermilllaw14_AlignCovered.j2]
          rw [if_neg (by simp), fwd_ok' l a h (by omega) (by omega) _ (by omega), align_awake _ (by omega)]
          simp only [Option.bind_some, if_true]
          rw [if_pos (by omega), if_pos (by omega)]

theorem AlignCovered (l0 : List S41) (a1_0 a1_1 a2 a3 : Int) (m0 : l0.length ≤ maxLen) (wl0 : ∀ x ∈ l0, (Lit.int .i64 x.f0).wf = true ∧ (Lit.int .i64 x.f1).wf = true) (w1 : (Lit.int .i64 a1_0).wf = true) (w2 : (Lit.int .i64 a1_1).wf = true) (w3 : (Lit.int .i64 a2).wf = true) (w4 : (Lit.int .i64 a3).wf = true) :
    ∃ k, papermilllaw14_AlignCovered.f k l0 a1_0 a1_1 a2 a3 = some true := by
  have b1 : -9223372036854775808 ≤ a1_0 ∧ a1_0 ≤ 9223372036854775807 := by simp [Lit.wf, IntKind.min, IntKind.max, IntKind.signed, IntKind.bits] at w1; omega
  have b2 : -9223372036854775808 ≤ a1_1 ∧ a1_1 ≤ 9223372036854775807 := by simp [Lit.wf, IntKind.min, IntKind.max, IntKind.signed, IntKind.bits] at w2; omega
  refine ⟨2000, ?_⟩
  unfold papermilllaw14_AlignCovered.f papermilllaw14_few.f
  rw [cover_eq _ _ _ b2 b1 _ (by omega), slip_eq _ _ (by omega), align_awake _ (by omega)]
  simp only [Option.bind_some]
  by_cases c : (l0.length : Int) ≤ 100
  · rw [if_pos (decide_eq_true c)]
    by_cases hz : (covS l0 a1_0 a1_1).2.2 = 0
    · rw [if_pos hz]
      have h : chkM l0 = 0 := by
        unfold covS at hz
        by_cases h : chkM l0 = 0
        · exact h
        · rw [if_neg h] at hz; exact hz
      have hok := (chkM_zero l0).1 h
      have h2 := hok.1
      have h64 := hok.2.1
      have hcv : covS l0 a1_0 a1_1 = ((covS l0 a1_0 a1_1).1, (covS l0 a1_0 a1_1).2.1, 0) := by rw [← hz]
      have J := cov_j0 l0 a1_0 a1_1 a2 h b2 b1 _ _ hcv 2000 (by omega)
      have es : slipS l0 = (slipLo l0 (mB l0 0 - mA l0 0), slipHi l0 (mB l0 0 - mA l0 0), 0) := by unfold slipS; rw [if_pos h]
      rw [es]
      simp only [if_true]
      by_cases c1 : a3 ≥ 0
      · rw [if_pos c1]
        by_cases c2 : a3 < (l0.length : Int)
        · obtain ⟨i, rfl⟩ := Int.eq_ofNat_of_zero_le c1
          have hi : i < l0.length := by omega
          have hb := hok.2.2.1 i hi
          rw [mA_get l0 i hi, mB_get l0 i hi] at hb
          have lo := (slipLo_le l0 (mB l0 0 - mA l0 0)).2 _ (List.getElem_mem hi)
          have hi' := (slipHi_le l0 (mB l0 0 - mA l0 0)).2 _ (List.getElem_mem hi)
          rw [if_pos c2, if_pos c1, rdM_get l0 i hi, wrap64_id (x := l0[i].f1 - l0[i].f0) (by omega) (by omega), if_neg (by omega), decide_eq_false (by omega)]
          exact J
        · rw [if_neg c2]; exact J
      · rw [if_neg c1]; exact J
    · rw [if_neg hz]
      have e : (covS l0 a1_0 a1_1).1 = 0 ∧ (covS l0 a1_0 a1_1).2.1 = 0 := by
        unfold covS at hz ⊢
        split
        · rename_i h
          rw [if_pos h] at hz
          split
          · exact ⟨rfl, rfl⟩
          · rename_i h3
            rw [if_neg h3] at hz
            split
            · exact ⟨rfl, rfl⟩
            · rename_i h4
              rw [if_neg h4] at hz
              exact absurd rfl hz
        · exact ⟨rfl, rfl⟩
      rw [e.1, e.2]; rfl
  · rw [if_neg (by simpa using c)]
end Go.Proofs.Ythdjlejljipjmaa.Pure
