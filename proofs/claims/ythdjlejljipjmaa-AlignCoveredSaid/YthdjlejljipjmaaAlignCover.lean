/- What Cover and Slip answer. -/
import Derived.Test.YthdjlejljipjmaaAlignSpec
import Derived.Test.YthdjlejljipjmaaPx8
import Derived.Test.YthdjlejljipjmaaPx11
namespace Go.Proofs.Ythdjlejljipjmaa.P
open Go.RowKit Go.Proofs.YthdjlejljipjmaaW.PrintWords Go.Proofs.YthdjlejljipjmaaW.PrintLast Go.Proofs.YthdjlejljipjmaaW.PrintMore Go.Proofs.Ythdjlejljipjmaa.First Go.Proofs.Ythdjlejljipjmaa.Math
set_option linter.unusedVariables false

/-- What Cover answers. -/
def covS (l : List Mk) (f t : Int) : Int × Int × Int :=
  if chkM l = 0 then (if f = t then (0, 0, 0) else if f > t ∨ ¬ (mA l 0 ≤ f ∧ t - 1 ≤ mA l (l.length - 1)) then (0, 0, 1) else (fwd l f, fwd l (t - 1) + 1, 0)) else (0, 0, chkM l)

theorem fwd_big {l : List Mk} (hok : okM l) {a : Int} (h0 : mA l 0 ≤ a) (h1 : a ≤ mA l (l.length - 1)) : 0 ≤ fwd l a ∧ fwd l a ≤ 17179869184 := by
  have h2 := hok.1
  have r0 := hok.2.2.1 0 (by omega)
  have r1 := hok.2.2.1 (l.length - 1) (by omega)
  have := fwd_range hok h0 h1
  omega

theorem cover_eq (l : List Mk) (f t : Int) (ht : -9223372036854775808 ≤ t ∧ t ≤ 9223372036854775807) (hf : -9223372036854775808 ≤ f ∧ f ≤ 9223372036854775807) (k : Nat) (hk : 201 ≤ k) : align_Cover.f k l f t = some (covS l f t) := by
  obtain ⟨k, rfl⟩ : ∃ m, k = m + 1 := ⟨k - 1, by omega⟩
  unfold align_Cover.f covS
  rw [checkM_eq l _ (by omega)]
  simp only [Option.bind_some, align_Cover.j0]
  by_cases h : chkM l = 0
  · have hok := (chkM_zero l).1 h
    have h2 := hok.1
    rw [if_pos h, if_pos h]
    by_cases c1 : f = t
    · rw [if_pos c1, if_pos c1]
    · rw [if_neg c1, if_neg c1]
      by_cases c2 : f > t
      · rw [if_pos c2, if_pos (show f > t ∨ ¬ (mA l 0 ≤ f ∧ t - 1 ≤ mA l (l.length - 1)) from .inl c2)]; rfl
      · rw [if_neg c2, inA_eq l f (by omega) hok.2.1, wrap64_id (x := t - 1) (by omega) (by omega), inA_eq l (t - 1) (by omega) hok.2.1]
        simp only [Option.bind_some]
        by_cases c3 : mA l 0 ≤ f ∧ t - 1 ≤ mA l (l.length - 1)
        · rw [decide_eq_true (show mA l 0 ≤ f ∧ f ≤ mA l (l.length - 1) by omega), decide_eq_true (show mA l 0 ≤ t - 1 ∧ t - 1 ≤ mA l (l.length - 1) by omega), if_pos rfl, if_neg (show ¬ (f > t ∨ ¬ (mA l 0 ≤ f ∧ t - 1 ≤ mA l (l.length - 1))) by omega)]
          have hb := fwd_big hok (a := t - 1) (by omega) (by omega)
          unfold align_forward.f
          rw [if_neg (by simp), if_pos ⟨h, by omega, by omega⟩, if_pos ⟨h, by omega, by omega⟩]
          simp only [Option.bind_some]
          rw [wrap64_id (by omega) (by omega)]
        · rw [if_pos (show f > t ∨ ¬ (mA l 0 ≤ f ∧ t - 1 ≤ mA l (l.length - 1)) from .inr c3)]
          by_cases c4 : mA l 0 ≤ f ∧ f ≤ mA l (l.length - 1)
          · rw [decide_eq_true c4, if_pos rfl, decide_eq_false (show ¬ (mA l 0 ≤ t - 1 ∧ t - 1 ≤ mA l (l.length - 1)) by omega), if_pos (by rfl)]
          · rw [decide_eq_false c4, if_neg (by simp)]; rfl
  · rw [if_neg h, if_neg h]

/-! ### Slip -/
def slipLo (l : List Mk) (a : Int) : Int := l.foldl (fun m x => mn m (x.f1 - x.f0)) a
def slipHi (l : List Mk) (a : Int) : Int := l.foldl (fun m x => mx m (x.f1 - x.f0)) a

theorem mn_le (a b : Int) : mn a b ≤ a ∧ mn a b ≤ b ∧ (mn a b = a ∨ mn a b = b) := by unfold mn; split <;> omega
theorem mx_le (a b : Int) : a ≤ mx a b ∧ b ≤ mx a b ∧ (mx a b = a ∨ mx a b = b) := by unfold mx; split <;> omega

theorem slipLo_le (l : List Mk) : ∀ a, slipLo l a ≤ a ∧ ∀ x ∈ l, slipLo l a ≤ x.f1 - x.f0 := by
  induction l with
  | nil => intro a; exact ⟨Int.le_refl _, fun x hx => by simp at hx⟩
  | cons y l ih =>
    intro a
    have h := ih (mn a (y.f1 - y.f0))
    have hm := mn_le a (y.f1 - y.f0)
    have e : slipLo (y :: l) a = slipLo l (mn a (y.f1 - y.f0)) := rfl
    rw [e]
    refine ⟨by omega, fun x hx => ?_⟩
    rcases List.mem_cons.1 hx with rfl | hx
    · omega
    · exact h.2 x hx

theorem slipHi_le (l : List Mk) : ∀ a, a ≤ slipHi l a ∧ ∀ x ∈ l, x.f1 - x.f0 ≤ slipHi l a := by
  induction l with
  | nil => intro a; exact ⟨Int.le_refl _, fun x hx => by simp at hx⟩
  | cons y l ih =>
    intro a
    have h := ih (mx a (y.f1 - y.f0))
    have hm := mx_le a (y.f1 - y.f0)
    have e : slipHi (y :: l) a = slipHi l (mx a (y.f1 - y.f0)) := rfl
    rw [e]
    refine ⟨by omega, fun x hx => ?_⟩
    rcases List.mem_cons.1 hx with rfl | hx
    · omega
    · exact h.2 x hx

def slipS (l : List Mk) : Int × Int × Int := if chkM l = 0 then (slipLo l (mB l 0 - mA l 0), slipHi l (mB l 0 - mA l 0), 0) else (0, 0, chkM l)

theorem slip_l0 (l : List Mk) (hok : okM l) (d : Nat) : ∀ (k i : Nat) (lo hi : Int), i + d = l.length → d < k → align_Slip.l0 k lo hi l (l.length : Int) i = some (slipLo (l.drop i) lo, slipHi (l.drop i) hi, 0) := by
  have h64 := hok.2.1
  induction d with
  | zero =>
    intro k i lo hi hd hk
    obtain ⟨k, rfl⟩ : ∃ m, k = m + 1 := ⟨k - 1, by omega⟩
    simp only [align_Slip.l0]
    rw [if_neg (by omega), List.drop_of_length_le (by omega)]; rfl
  | succ d ih =>
    intro k i lo hi hd hk
    obtain ⟨k, rfl⟩ : ∃ m, k = m + 1 := ⟨k - 1, by omega⟩
    have hlt : i < l.length := by omega
    have hb := hok.2.2.1 i hlt
    rw [mA_get l i hlt, mB_get l i hlt] at hb
    simp only [align_Slip.l0]
    rw [if_pos (by omega), if_pos (by omega), if_pos (by omega), rdM_get l i hlt, wrap64_id (x := l[i].f1 - l[i].f0) (by omega) (by omega), wrap64_id (x := (i : Int) + 1) (by omega) (by omega), show (i : Int) + 1 = ((i + 1 : Nat) : Int) by omega, ih k (i + 1) _ _ (by omega) (by omega), List.drop_eq_getElem_cons hlt]
    rfl

theorem slip_eq (l : List Mk) (k : Nat) (hk : 200 ≤ k) : align_Slip.f k l = some (slipS l) := by
  unfold align_Slip.f slipS
  rw [checkM_eq l _ (by omega)]
  simp only [Option.bind_some]
  by_cases h : chkM l = 0
  · have hok := (chkM_zero l).1 h
    have h2 := hok.1
    have h64 := hok.2.1
    have hb := hok.2.2.1 0 (by omega)
    rw [if_pos h, if_pos h, if_pos (by omega)]
    change align_Slip.l0 k (wrap64 (mB l 0 - mA l 0)) (wrap64 (mB l 0 - mA l 0)) l (l.length : Int) 0 = _
    rw [wrap64_id (by omega) (by omega)]
    have := slip_l0 l hok l.length k 0 (mB l 0 - mA l 0) (mB l 0 - mA l 0) (by omega) (by omega)
    simpa using this
  · rw [if_neg h, if_neg h]
end Go.Proofs.Ythdjlejljipjmaa.P
