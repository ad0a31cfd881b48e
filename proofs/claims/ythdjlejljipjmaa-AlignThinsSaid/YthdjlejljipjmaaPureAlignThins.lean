/- The statement AlignThins over numbers alone: Thin and Slip and their references answer alike, for any marks. -/
import Derived.Test.YthdjlejljipjmaaAlignSpec
import Derived.Test.YthdjlejljipjmaaPx8
import Derived.Test.YthdjlejljipjmaaPx11
import Derived.Test.YthdjlejljipjmaaPx25
import Derived.Test.YthdjlejljipjmaaPx23
import Derived.Test.YthdjlejljipjmaaPx24
import Derived.Test.YthdjlejljipjmaaPx22
import Derived.Test.YthdjlejljipjmaaAlignRef
import Derived.Test.YthdjlejljipjmaaAlignThin
import Derived.Test.YthdjlejljipjmaaAlignAwake
namespace Go.Proofs.Ythdjlejljipjmaa.P
open Go.RowKit Go.Proofs.YthdjlejljipjmaaW.PrintWords Go.Proofs.YthdjlejljipjmaaW.PrintLast Go.Proofs.YthdjlejljipjmaaW.PrintMore Go.Proofs.Ythdjlejljipjmaa.First Go.Proofs.Ythdjlejljipjmaa.Math
set_option linter.unusedVariables false

/-- What Cover answers. -/
def covS (l : List Mk) (f t : Int) : Int × Int × Int :=
  if chkM l = 0 then (if f = t then (0, 0, 0) else if f > t ∨ ¬ (mA l 0 ≤ f ∧ t - 1 ≤ mA l (l.length - 1)) then (0, 0, 1) else (fwd l f, fwd l (t - 1) + 1, 0)) else (0, 0, chkM l)

theorem fwd_big {l : List Mk} (hok : okM l) {a : Int} (h0 : mA l 0 ≤ a) (h1 : a ≤ mA l (l.length - 1)) : 0 ≤ fwd l a ∧ fwd l a ≤ 17179869184 := by
  have h2 := hok.1
  have r0 := hok.2.2.1 0 (by omega)
  have r1 := hok.2.2.1 (l.length - 1) (by omega)
  have := fwd_range hok h0 h1
  omega

theorem cover_eq (l : List Mk) (f t : Int) (ht : -9223372036854775808 ≤ t ∧ t ≤ 9223372036854775807) (hf : -9223372036854775808 ≤ f ∧ f ≤ 9223372036854775807) (k : Nat) (hk : 201 ≤ k) : align_Cover.f k l f t = some (covS l f t) := by
  obtain ⟨k, rfl⟩ : ∃ m, k = m + 1 := ⟨k - 1, by omega⟩
  unfold align_Cover.f covS
  rw [checkM_eq l _ (by omega)]
  simp only [Option.bind_some, align_Cover.j0]
  by_cases h : chkM l = 0
  · have hok := (chkM_zero l).1 h
    have h2 := hok.1
    rw [if_pos h, if_pos h]
    by_cases c1 : f = t
    · rw [if_pos c1, if_pos c1]
    · rw [if_neg c1, if_neg c1]
      by_cases c2 : f > t
      · rw [if_pos c2, if_pos (show f > t ∨ ¬ (mA l 0 ≤ f ∧ t - 1 ≤ mA l (l.length - 1)) from .inl c2)]; rfl
      · rw [if_neg c2, inA_eq l f (by omega) hok.2.1, wrap64_id (x := t - 1) (by omega) (by omega), inA_eq l (t - 1) (by omega) hok.2.1]
        simp only [Option.bind_some]
        by_cases c3 : mA l 0 ≤ f ∧ t - 1 ≤ mA l (l.length - 1)
        · rw [decide_eq_true (show mA l 0 ≤ f ∧ f ≤ mA l (l.length - 1) by omega), decide_eq_true (show mA l 0 ≤ t - 1 ∧ t - 1 ≤ mA l (l.length - 1) by omega), if_pos rfl, if_neg (show ¬ (f > t ∨ ¬ (mA l 0 ≤ f ∧ t - 1 ≤ mA l (l.length - 1))) by omega)]
          have hb := fwd_big hok (a := t - 1) (by omega) (by omega)
          unfold align_forward.f
          rw [if_neg (by simp), if_pos ⟨h, by omega, by omega⟩, if_pos ⟨h, by omega, by omega⟩]
          simp only [Option.bind_some]
          rw [wrap64_id (by omega) (by omega)]
        · rw [if_pos (show f > t ∨ ¬ (mA l 0 ≤ f ∧ t - 1 ≤ mA l (l.length - 1)) from .inr c3)]
          by_cases c4 : mA l 0 ≤ f ∧ f ≤ mA l (l.length - 1)
          · rw [decide_eq_true c4, if_pos rfl, decide_eq_false (show ¬ (mA l 0 ≤ t - 1 ∧ t - 1 ≤ mA l (l.length - 1)) by omega), if_pos (by rfl)]
          · rw [decide_eq_false c4, if_neg (by simp)]; rfl
  · rw [if_neg h, if_neg h]

/-! ### Slip -/
def slipLo (l : List Mk) (a : Int) : Int := l.foldl (fun m x => mn m (x.f1 - x.f0)) a
def slipHi (l : List Mk) (a : Int) : Int := l.foldl (fun m x => mx m (x.f1 - x.f0)) a

theorem mn_le (a b : Int) : mn a b ≤ a ∧ mn a b ≤ b ∧ (mn a b = a ∨ mn a b = b) := by unfold mn; split <;> omega
theorem mx_le (a b : Int) : a ≤ mx a b ∧ b ≤ mx a b ∧ (mx a b = a ∨ mx a b = b) := by unfold mx; split <;> omega

theorem slipLo_le (l : List Mk) : ∀ a, slipLo l a ≤ a ∧ ∀ x ∈ l, slipLo l a ≤ x.f1 - x.f0 := by
  induction l with
  | nil => intro a; exact ⟨Int.le_refl _, fun x hx => by simp at hx⟩
  | cons y l ih =>
    intro a
    have h := ih (mn a (y.f1 - y.f0))
    have hm := mn_le a (y.f1 - y.f0)
    have e : slipLo (y :: l) a = slipLo l (mn a (y.f1 - y.f0)) := rfl
    rw [e]
    refine ⟨by omega, fun x hx => ?_⟩
    rcases List.mem_cons.1 hx with rfl | hx
    · omega
    · exact h.2 x hx

theorem slipHi_le (l : List Mk) : ∀ a, a ≤ slipHi l a ∧ ∀ x ∈ l, x.f1 - x.f0 ≤ slipHi l a := by
  induction l with
  | nil => intro a; exact ⟨Int.le_refl _, fun x hx => by simp at hx⟩
  | cons y l ih =>
    intro a
    have h := ih (mx a (y.f1 - y.f0))
    have hm := mx_le a (y.f1 - y.f0)
    have e : slipHi (y :: l) a = slipHi l (mx a (y.f1 - y.f0)) := rfl
    rw [e]
    refine ⟨by omega, fun x hx => ?_⟩
    rcases List.mem_cons.1 hx with rfl | hx
    · omega
    · exact h.2 x hx

def slipS (l : List Mk) : Int × Int × Int := if chkM l = 0 then (slipLo l (mB l 0 - mA l 0), slipHi l (mB l 0 - mA l 0), 0) else (0, 0, chkM l)

theorem slip_l0 (l : List Mk) (hok : okM l) (d : Nat) : ∀ (k i : Nat) (lo hi : Int), i + d = l.length → d < k → align_Slip.l0 k lo hi l (l.length : Int) i = some (slipLo (l.drop i) lo, slipHi (l.drop i) hi, 0) := by
  have h64 := hok.2.1
  induction d with
  | zero =>
    intro k i lo hi hd hk
    obtain ⟨k, rfl⟩ : ∃ m, k = m + 1 := ⟨k - 1, by omega⟩
    simp only [align_Slip.l0]
    rw [if_neg (by omega), List.drop_of_length_le (by omega)]; rfl
  | succ d ih =>
    intro k i lo hi hd hk
    obtain ⟨k, rfl⟩ : ∃ m, k = m + 1 := ⟨k - 1, by omega⟩
    have hlt : i < l.length := by omega
    have hb := hok.2.2.1 i hlt
    rw [mA_get l i hlt, mB_get l i hlt] at hb
    simp only [align_Slip.l0]
    rw [if_pos (by omega), if_pos (by omega), if_pos (by omega), rdM_get l i hlt, wrap64_id (x := l[i].f1 - l[i].f0) (by omega) (by omega), wrap64_id (x := (i : Int) + 1) (by omega) (by omega), show (i : Int) + 1 = ((i + 1 : Nat) : Int) by omega, ih k (i + 1) _ _ (by omega) (by omega), List.drop_eq_getElem_cons hlt]
    rfl

theorem slip_eq (l : List Mk) (k : Nat) (hk : 200 ≤ k) : align_Slip.f k l = some (slipS l) := by
  unfold align_Slip.f slipS
  rw [checkM_eq l _ (by omega)]
  simp only [Option.bind_some]
  by_cases h : chkM l = 0
  · have hok := (chkM_zero l).1 h
    have h2 := hok.1
    have h64 := hok.2.1
    have hb := hok.2.2.1 0 (by omega)
    rw [if_pos h, if_pos h, if_pos (by omega)]
    change align_Slip.l0 k (wrap64 (mB l 0 - mA l 0)) (wrap64 (mB l 0 - mA l 0)) l (l.length : Int) 0 = _
    rw [wrap64_id (by omega) (by omega)]
    have := slip_l0 l hok l.length k 0 (mB l 0 - mA l 0) (mB l 0 - mA l 0) (by omega) (by omega)
    simpa using this
  · rw [if_neg h, if_neg h]
end Go.Proofs.Ythdjlejljipjmaa.P
namespace Go.Proofs.Ythdjlejljipjmaa.Pure
open Go.RowKit Go.Proofs.Ythdjlejljipjmaa.P Go.Proofs.YthdjlejljipjmaaW.PrintWords Go.Proofs.YthdjlejljipjmaaW.PrintLast
set_option linter.unusedVariables false

theorem gcd_l0 (n : Nat) : ∀ (k a b : Nat), b ≤ n → n < k → papermillref14_gcd.l0 k (a : Int) (b : Int) = some ((Nat.gcd a b : Nat) : Int) := by
  induction n with
  | zero =>
    intro k a b hb hk
    obtain ⟨k, rfl⟩ : ∃ m, k = m + 1 := ⟨k - 1, by omega⟩
    have hz : b = 0 := by omega
    subst hz
    simp only [papermillref14_gcd.l0]
    rw [if_neg (by omega), Nat.gcd_zero_right]
  | succ n ih =>
    intro k a b hb hk
    obtain ⟨k, rfl⟩ : ∃ m, k = m + 1 := ⟨k - 1, by omega⟩
    simp only [papermillref14_gcd.l0]
    by_cases hz : b = 0
    · subst hz
      rw [if_neg (by omega), Nat.gcd_zero_right]
    · have hl := Nat.mod_lt a (show 0 < b by omega)
      have hm : Int.tmod (a : Int) (b : Int) = ((a % b : Nat) : Int) := by rw [Int.tmod_eq_emod_of_nonneg (by omega)]; exact (Int.natCast_emod a b).symm
      rw [if_pos (by omega), if_neg (by omega), hm, ih k b (a % b) (by omega) (by omega), Nat.gcd_comm b, ← Nat.gcd_rec, Nat.gcd_comm b a]

theorem gcd_eq (a b : Nat) (k : Nat) (hk : b < k) : papermillref14_gcd.f k (a : Int) (b : Int) = some ((Nat.gcd a b : Nat) : Int) := gcd_l0 b k a b (Nat.le_refl _) hk

theorem frac_iff (a b c d : Nat) (ha : 0 < a) (hb : 0 < b) (hc : 0 < c) (hd : 0 < d) : (a / Nat.gcd a b = c / Nat.gcd c d ∧ b / Nat.gcd a b = d / Nat.gcd c d) ↔ a * d = c * b := by
  have g1 : 0 < Nat.gcd a b := Nat.gcd_pos_of_pos_left _ ha
  have g2 : 0 < Nat.gcd c d := Nat.gcd_pos_of_pos_left _ hc
  have ea := Nat.div_mul_cancel (Nat.gcd_dvd_left a b)
  have eb := Nat.div_mul_cancel (Nat.gcd_dvd_right a b)
  have ec := Nat.div_mul_cancel (Nat.gcd_dvd_left c d)
  have ed := Nat.div_mul_cancel (Nat.gcd_dvd_right c d)
  have c1 : Nat.Coprime (a / Nat.gcd a b) (b / Nat.gcd a b) := Nat.coprime_div_gcd_div_gcd g1
  have c2 : Nat.Coprime (c / Nat.gcd c d) (d / Nat.gcd c d) := Nat.coprime_div_gcd_div_gcd g2
  have pb : 0 < b / Nat.gcd a b := Nat.pos_of_ne_zero (fun e => by rw [e, Nat.zero_mul] at eb; omega)
  have pa : 0 < a / Nat.gcd a b := Nat.pos_of_ne_zero (fun e => by rw [e, Nat.zero_mul] at ea; omega)
  generalize Nat.gcd a b = g at *
  generalize Nat.gcd c d = h at *
  generalize a / g = u at *
  generalize b / g = v at *
  generalize c / h = x at *
  generalize d / h = y at *
  subst ea eb ec ed
  constructor
  · rintro ⟨rfl, rfl⟩; grind
  · intro e
    have e2 : u * y = x * v := by
      have : (g * h) * (u * y) = (g * h) * (x * v) := by grind
      exact Nat.eq_of_mul_eq_mul_left (Nat.mul_pos g1 g2) this
    have d1 : u ∣ x := by
      apply Nat.Coprime.dvd_of_dvd_mul_right c1
      rw [← e2]; exact Nat.dvd_mul_right u y
    have d2 : x ∣ u := by
      apply Nat.Coprime.dvd_of_dvd_mul_right c2
      rw [e2]; exact Nat.dvd_mul_right x v
    have e3 : u = x := Nat.dvd_antisymm d1 d2
    subst e3
    exact ⟨rfl, (Nat.eq_of_mul_eq_mul_left pa e2).symm⟩

theorem line_eq (p m n : S41) (hp : inM p = true) (hm : inM m = true) (hn : inM n = true) (h1 : lt2 p m) (h2 : lt2 m n) (k : Nat) (hk : 17179869190 ≤ k) : papermillref14_line.f k p.f0 p.f1 m.f0 m.f1 n.f0 n.f1 = some (colin p m n) := by
  have bp : 0 ≤ p.f0 ∧ p.f0 ≤ 17179869184 ∧ 0 ≤ p.f1 ∧ p.f1 ≤ 17179869184 := of_decide_eq_true hp
  have bm : 0 ≤ m.f0 ∧ m.f0 ≤ 17179869184 ∧ 0 ≤ m.f1 ∧ m.f1 ≤ 17179869184 := of_decide_eq_true hm
  have bn : 0 ≤ n.f0 ∧ n.f0 ≤ 17179869184 ∧ 0 ≤ n.f1 ∧ n.f1 ≤ 17179869184 := of_decide_eq_true hn
  unfold lt2 at h1 h2
  unfold papermillref14_line.f colin
  rw [wrap64_id (x := n.f1 - p.f1) (by omega) (by omega), wrap64_id (x := m.f0 - p.f0) (by omega) (by omega), wrap64_id (x := n.f0 - p.f0) (by omega) (by omega), wrap64_id (x := m.f1 - p.f1) (by omega) (by omega)]
  obtain ⟨a, ha⟩ := Int.eq_ofNat_of_zero_le (show 0 ≤ m.f1 - p.f1 by omega)
  obtain ⟨b, hb⟩ := Int.eq_ofNat_of_zero_le (show 0 ≤ m.f0 - p.f0 by omega)
  obtain ⟨c, hc⟩ := Int.eq_ofNat_of_zero_le (show 0 ≤ n.f1 - p.f1 by omega)
  obtain ⟨d, hd⟩ := Int.eq_ofNat_of_zero_le (show 0 ≤ n.f0 - p.f0 by omega)
  rw [ha, hb, hc, hd, gcd_eq a b k (by omega), gcd_eq c d k (by omega)]
  have g1 : 0 < Nat.gcd a b := Nat.gcd_pos_of_pos_left _ (by omega)
  have g2 : 0 < Nat.gcd c d := Nat.gcd_pos_of_pos_left _ (by omega)
  have hi := frac_iff a b c d (by omega) (by omega) (by omega) (by omega)
  have q : ∀ (x g : Nat), Int.tdiv (x : Int) (g : Int) = ((x / g : Nat) : Int) := fun x g => by rw [Int.tdiv_eq_ediv_of_nonneg (by omega)]; exact (Int.natCast_ediv x g).symm
  have l1 := Nat.div_le_self a (Nat.gcd a b)
  have l2 := Nat.div_le_self b (Nat.gcd a b)
  have l3 := Nat.div_le_self c (Nat.gcd c d)
  have l4 := Nat.div_le_self d (Nat.gcd c d)
  have z1 : ¬ ((Nat.gcd a b : Nat) : Int) = 0 := by omega
  have z2 : ¬ ((Nat.gcd c d : Nat) : Int) = 0 := by omega
  simp only [Option.bind_some, if_neg z1, if_neg z2]
  rw [q, q, q, q]
  generalize a / Nat.gcd a b = u at *
  generalize b / Nat.gcd a b = v at *
  generalize c / Nat.gcd c d = x at *
  generalize d / Nat.gcd c d = y at *
  rw [wrap64_id (x := (u : Int)) (by omega) (by omega), wrap64_id (x := (v : Int)) (by omega) (by omega), wrap64_id (x := (x : Int)) (by omega) (by omega), wrap64_id (x := (y : Int)) (by omega) (by omega)]
  have hcast : ((a : Int) * (d : Int) = (c : Int) * (b : Int)) ↔ a * d = c * b := by
    rw [← Int.natCast_mul, ← Int.natCast_mul]; exact Int.ofNat_inj
  rw [decide_eq_decide.2 hcast]
  by_cases c1 : (u : Int) = (x : Int)
  · rw [if_pos c1]
    congr 1
    rw [Bool.eq_iff_iff, beq_iff_eq, decide_eq_true_eq, ← hi]
    omega
  · rw [if_neg c1, decide_eq_false (fun e => c1 (by have := (hi.2 e).1; omega))]

theorem refthin_l0 (l : List S41) (hok : okM l) (hall : l.all inM = true) (d : Nat) : ∀ (k i : Nat) (out : List S41) (p : S41), i + 1 + d = l.length → 1 ≤ i → d + 17179869200 ≤ k → out ≠ [] → out.length ≤ i → rd_T41 out ((out.length : Int) - 1) = p → inM p = true → (∀ j (hj : j < l.length), i ≤ j → lt2 p l[j]) →
    papermillref14_Thin.l0 k l out i = some (out ++ thinGo p (l.drop i), 0) := by
  have h2 := hok.1
  have h64 := hok.2.1
  induction d with
  | zero =>
    intro k i out p hd h1 hk hne hlen hp hin hlt
    obtain ⟨k, rfl⟩ : ∃ m, k = m + 2 := ⟨k - 2, by omega⟩
    have hi : i < l.length := by omega
    have hdr : l.drop i = [l[i]] := by rw [List.drop_eq_getElem_cons hi, List.drop_of_length_le (by omega)]
    have hll : ((l.length - 1 : Nat) : Int) = (i : Int) := by omega
    simp only [papermillref14_Thin.l0]
    rw [wrap64_id (x := (i : Int) + 1) (by omega) (by omega), last_idx l (by omega) h64, hll, if_pos (by omega), if_pos rfl, if_pos (by omega), if_pos (by omega), rdM_get l i hi, if_neg (by omega), hdr]
    rfl
  | succ d ih =>
    intro k i out p hd h1 hk hne hlen hp hin hlt
    obtain ⟨k, rfl⟩ : ∃ m, k = m + 1 := ⟨k - 1, by omega⟩
    have hi : i < l.length := by omega
    have hi1 : i + 1 < l.length := by omega
    have hol : 0 < out.length := List.length_pos_iff.2 hne
    have hm := List.all_eq_true.1 hall l[i] (List.getElem_mem hi)
    have hn := List.all_eq_true.1 hall l[i + 1] (List.getElem_mem hi1)
    have hmn : lt2 l[i] l[i + 1] := by
      have := hok.2.2.2 i hi1
      rw [mA_get l i hi, mA_get l (i + 1) hi1, mB_get l i hi, mB_get l (i + 1) hi1] at this
      exact this
    have hdr : l.drop i = l[i] :: l[i + 1] :: l.drop (i + 1 + 1) := by rw [List.drop_eq_getElem_cons hi, List.drop_eq_getElem_cons hi1]
    have hdr1 : l.drop (i + 1) = l[i + 1] :: l.drop (i + 1 + 1) := List.drop_eq_getElem_cons hi1
    have hst := line_eq p l[i] l[i + 1] hin hm hn (hlt i hi (Nat.le_refl _)) hmn k (by omega)
    simp only [papermillref14_Thin.l0]
    rw [wrap64_id (x := (i : Int) + 1) (by omega) (by omega), wrap64_id (x := (out.length : Int) - 1) (by omega) (by omega), last_idx l (by omega) h64, show (i : Int) + 1 = ((i + 1 : Nat) : Int) by omega,
      if_pos (by omega), if_neg (by omega), if_pos (by omega), if_pos (by omega), if_pos (by omega), if_pos (by omega), if_pos (by omega), hp, rdM_get l i hi, rdM_get l (i + 1) hi1, hst]
    simp only [Option.bind_some]
    rw [hdr, thinGo]
    by_cases c : colin p l[i] l[i + 1] = true
    · rw [if_pos c, if_pos c, ← hdr1]
      exact ih k (i + 1) out p (by omega) (by omega) (by omega) hne (by omega) hp hin (fun j hj hij => hlt j hj (by omega))
    · rw [if_neg c, if_neg c, if_pos (by omega)]
      have := ih k (i + 1) (out ++ [l[i]]) l[i] (by omega) (by omega) (by omega) (by simp) (by simp; omega) (last_snoc out l[i]) hm (fun j hj hij => by
        have := mono_of hok (show i < j by omega) hj
        rw [mA_get l i hi, mA_get l j hj, mB_get l i hi, mB_get l j hj] at this
        exact this)
      rw [hdr1, List.append_assoc] at this
      exact this

theorem refthin_eq (l : List S41) (k : Nat) (hk : 17179869400 ≤ k) : papermillref14_Thin.f k l = some (if chkM l = 0 then (thin l, 0) else ([], chkM l)) := by
  unfold papermillref14_Thin.f
  rw [refcheckM_eq l _ (by omega)]
  simp only [Option.bind_some]
  by_cases h : chkM l = 0
  · have hok := (chkM_zero l).1 h
    have h2 := hok.1
    have h64 := hok.2.1
    obtain ⟨hall, hs⟩ := chkM_all h
    rw [if_pos h, if_pos h, if_pos (by omega)]
    have hi0 : 0 < l.length := by omega
    have e0 : rd_T41 l 0 = l[0] := rdM_get l 0 hi0
    rw [e0]
    have := refthin_l0 l hok hall (l.length - 2) k 1 [l[0]] l[0] (by omega) (by omega) (by omega) (by simp) (by simp) (last_snoc [] l[0]) (List.all_eq_true.1 hall _ (List.getElem_mem hi0)) (fun j hj hij => by
      have := mono_of hok (show 0 < j by omega) hj
      rw [mA_get l 0 hi0, mA_get l j hj, mB_get l 0 hi0, mB_get l j hj] at this
      exact this)
    have ht : thin l = [l[0]] ++ thinGo l[0] (l.drop 1) := by
      match l, hi0 with
      | x :: r, _ => rfl
    rw [ht]
    exact this
  · rw [if_neg h, if_neg h]

theorem refslip_l0 (l : List S41) (hok : okM l) (d : Nat) : ∀ (k i : Nat) (lo hi : Int), i + d = l.length → d < k → papermillref14_Slip.l0 k l lo hi i = some (slipLo (l.drop i) lo, slipHi (l.drop i) hi, 0) := by
  have h64 := hok.2.1
  induction d with
  | zero =>
    intro k i lo hi hd hk
    obtain ⟨k, rfl⟩ : ∃ m, k = m + 1 := ⟨k - 1, by omega⟩
    simp only [papermillref14_Slip.l0]
    rw [if_neg (by omega), List.drop_of_length_le (by omega)]; rfl
  | succ d ih =>
    intro k i lo hi hd hk
    obtain ⟨k, rfl⟩ : ∃ m, k = m + 1 := ⟨k - 1, by omega⟩
    have hlt : i < l.length := by omega
    have hb := hok.2.2.1 i hlt
    rw [mA_get l i hlt, mB_get l i hlt] at hb
    simp only [papermillref14_Slip.l0]
    rw [if_pos (by omega), if_pos (by omega), rdM_get l i hlt, wrap64_id (x := l[i].f1 - l[i].f0) (by omega) (by omega), wrap64_id (x := (i : Int) + 1) (by omega) (by omega), show (i : Int) + 1 = ((i + 1 : Nat) : Int) by omega, ih k (i + 1) _ _ (by omega) (by omega), List.drop_eq_getElem_cons hlt]
    rfl

theorem refslip_eq (l : List S41) (k : Nat) (hk : 200 ≤ k) : papermillref14_Slip.f k l = some (slipS l) := by
  unfold papermillref14_Slip.f slipS
  rw [refcheckM_eq l _ hk]
  simp only [Option.bind_some]
  by_cases h : chkM l = 0
  · have hok := (chkM_zero l).1 h
    have h2 := hok.1
    have h64 := hok.2.1
    have hb := hok.2.2.1 0 (by omega)
    have hi0 : 0 < l.length := by omega
    rw [if_pos h, if_pos h, if_pos (by omega)]
    change papermillref14_Slip.l0 k l (wrap64 (mB l 0 - mA l 0)) (wrap64 (mB l 0 - mA l 0)) ((1 : Nat) : Int) = _
    rw [wrap64_id (by omega) (by omega), refslip_l0 l hok (l.length - 1) k 1 _ _ (by omega) (by omega)]
    have ha := mA_get l 0 hi0
    have hbg := mB_get l 0 hi0
    match l, hi0 with
    | x :: r, _ =>
      have e1 : slipLo (x :: r) (mB (x :: r) 0 - mA (x :: r) 0) = slipLo r (mn (mB (x :: r) 0 - mA (x :: r) 0) (mB (x :: r) 0 - mA (x :: r) 0)) := rfl
      have e2 : slipHi (x :: r) (mB (x :: r) 0 - mA (x :: r) 0) = slipHi r (mx (mB (x :: r) 0 - mA (x :: r) 0) (mB (x :: r) 0 - mA (x :: r) 0)) := rfl
      have e3 : ∀ z : Int, mn z z = z := fun z => by unfold mn; split <;> rfl
      have e4 : ∀ z : Int, mx z z = z := fun z => by unfold mx; split <;> rfl
      rw [e1, e2, e3, e4]; rfl
  · rw [if_neg h, if_neg h]

theorem thins_k (l0 : List S41) (k : Nat) (hk : 17179870000 ≤ k) : papermilllaw14_AlignThins.f k l0 = some true := by
  unfold papermilllaw14_AlignThins.f papermilllaw14_few.f
  rw [align_awake _ (by omega), thin_eq _ _ (by omega), refthin_eq _ _ (by omega), slip_eq _ _ (by omega), refslip_eq _ _ (by omega)]
  simp only [Option.bind_some, if_true]
  have hs : papermillref14_Same.f k (if chkM l0 = 0 then (thin l0, (0 : Int)) else ([], chkM l0)).1 (if chkM l0 = 0 then (thin l0, (0 : Int)) else ([], chkM l0)).1 = some true := by
    refine same_eq _ ?_ _ (by omega)
    by_cases h : chkM l0 = 0
    · rw [if_pos h]
      have := (chkM_thin l0 h).2
      have h64 := ((chkM_zero l0).1 h).2.1
      show (thin l0).length ≤ 1000
      omega
    · rw [if_neg h]
      show ([] : List S41).length ≤ 1000
      simp
  rw [hs]
  simp only [Option.bind_some, if_true]
  split <;> rfl

theorem AlignThins (l0 : List S41) (m0 : l0.length ≤ maxLen) (wl0 : ∀ x ∈ l0, (Lit.int .i64 x.f0).wf = true ∧ (Lit.int .i64 x.f1).wf = true) :
    ∃ k, papermilllaw14_AlignThins.f k l0 = some true := by
  obtain ⟨k, hk⟩ : ∃ k : Nat, 17179870000 ≤ k := ⟨_, Nat.le_refl _⟩
  exact ⟨k, thins_k l0 k hk⟩
end Go.Proofs.Ythdjlejljipjmaa.Pure
