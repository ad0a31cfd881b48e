/- Marks that are not redundant: what Thin answers; thinned marks give the same Forward, and are not thinned further. -/
import Derived.Test.YthdjlejljipjmaaAlignSpec
import Derived.Test.YthdjlejljipjmaaPx10
import Derived.Test.YthdjlejljipjmaaPx9
import Derived.Test.YthdjlejljipjmaaPx12
namespace Go.Proofs.Ythdjlejljipjmaa.P
open Go.RowKit Go.Proofs.YthdjlejljipjmaaW.PrintWords Go.Proofs.YthdjlejljipjmaaW.PrintLast Go.Proofs.YthdjlejljipjmaaW.PrintMore Go.Proofs.Ythdjlejljipjmaa.First Go.Proofs.Ythdjlejljipjmaa.Math
set_option linter.unusedVariables false

/-- On one line. -/
def colin (p m n : Mk) : Bool := decide ((m.f1 - p.f1) * (n.f0 - p.f0) = (n.f1 - p.f1) * (m.f0 - p.f0))
def lt2 (p m : Mk) : Prop := p.f0 < m.f0 ∧ p.f1 < m.f1

def thinGo : Mk → List Mk → List Mk
  | p, m :: n :: l => if colin p m n = true then thinGo p (n :: l) else m :: thinGo m (n :: l)
  | _, [m] => [m]
  | _, [] => []
def thin : List Mk → List Mk
  | x :: r => x :: thinGo x r
  | [] => []

theorem md_comm (a b c m : Int) : md a b c m = md b a c m := by
  unfold md
  rw [Int.mul_comm b a]
  have e : (a < -1125899906842624 ∨ 1125899906842624 < a ∨ b < -1125899906842624 ∨ 1125899906842624 < b ∨ c < -1125899906842624 ∨ 1125899906842624 < c) ↔ (b < -1125899906842624 ∨ 1125899906842624 < b ∨ a < -1125899906842624 ∨ 1125899906842624 < a ∨ c < -1125899906842624 ∨ 1125899906842624 < c) := by omega
  simp only [e]

theorem straight_eq (p m n : Mk) (hp : inM p = true) (hm : inM m = true) (hn : inM n = true) (h1 : lt2 p m) (h2 : lt2 m n) : align_straight.f p.f0 p.f1 m.f0 m.f1 n.f0 n.f1 = some (colin p m n) := by
  have bp : 0 ≤ p.f0 ∧ p.f0 ≤ 17179869184 ∧ 0 ≤ p.f1 ∧ p.f1 ≤ 17179869184 := of_decide_eq_true hp
  have bm : 0 ≤ m.f0 ∧ m.f0 ≤ 17179869184 ∧ 0 ≤ m.f1 ∧ m.f1 ≤ 17179869184 := of_decide_eq_true hm
  have bn : 0 ≤ n.f0 ∧ n.f0 ≤ 17179869184 ∧ 0 ≤ n.f1 ∧ n.f1 ≤ 17179869184 := of_decide_eq_true hn
  unfold lt2 at h1 h2
  unfold align_straight.f colin num_MulDiv.f
  rw [wrap64_id (x := n.f1 - p.f1) (by omega) (by omega), wrap64_id (x := m.f0 - p.f0) (by omega) (by omega), wrap64_id (x := n.f0 - p.f0) (by omega) (by omega), wrap64_id (x := m.f1 - p.f1) (by omega) (by omega), md_comm _ _ _ 0, md_comm _ _ _ 1]
  have d := md_down (m.f0 - p.f0) (n.f1 - p.f1) (n.f0 - p.f0) (by omega) (by omega) (by omega) (by omega) (by omega) (by omega)
  have u := md_up (m.f0 - p.f0) (n.f1 - p.f1) (n.f0 - p.f0) (by omega) (by omega) (by omega) (by omega) (by omega) (by omega)
  rw [d.1, u.1]
  simp only [Option.bind_some]
  have hc : 0 < n.f0 - p.f0 := by omega
  rw [Int.mul_comm (n.f1 - p.f1) (m.f0 - p.f0)]
  generalize (m.f0 - p.f0) * (n.f1 - p.f1) = P at *
  generalize n.f0 - p.f0 = c at *
  generalize m.f1 - p.f1 = M at *
  by_cases h : M * c = P
  · rw [decide_eq_true h, ← h, Int.mul_ediv_cancel _ (by omega), ← Int.neg_mul, Int.mul_ediv_cancel _ (by omega), Int.neg_neg, if_pos rfl, beq_self_eq_true]
  · rw [decide_eq_false h]
    by_cases e : P / c = -(-P / c)
    · rw [if_pos e]
      have x1 := Int.mul_ediv_add_emod P c
      have x2 := Int.emod_nonneg P (show c ≠ 0 by omega)
      have y1 := Int.mul_ediv_add_emod (-P) c
      have y2 := Int.emod_nonneg (-P) (show c ≠ 0 by omega)
      have z : -P / c = -(P / c) := by omega
      rw [z, Int.mul_neg] at y1
      congr 1
      rw [beq_eq_false_iff_ne]
      intro hh
      apply h
      rw [hh, Int.mul_comm]
      omega
    · rw [if_neg e]

/-! ### the loop -/
theorem last_snoc (out : List Mk) (m : Mk) : rd_T41 (out ++ [m]) (((out ++ [m]).length : Int) - 1) = m := by
  unfold rd_T41
  rw [List.length_append, List.length_singleton, show (((out.length + 1 : Nat) : Int) - 1).toNat = out.length by omega]
  simp

theorem thin_l0 (l : List Mk) (hok : okM l) (hall : l.all inM = true) (d : Nat) : ∀ (k i : Nat) (out : List Mk) (p : Mk), i + 1 + d = l.length → 1 ≤ i → d < k → out ≠ [] → out.length ≤ i → rd_T41 out ((out.length : Int) - 1) = p → inM p = true → (∀ j (hj : j < l.length), i ≤ j → lt2 p l[j]) →
    align_Thin.l0 k l out i = some (out ++ thinGo p (l.drop i), 0) := by
  have h2 := hok.1
  have h64 := hok.2.1
  induction d with
  | zero =>
    intro k i out p hd h1 hk hne hlen hp hin hlt
    obtain ⟨k, rfl⟩ : ∃ m, k = m + 1 := ⟨k - 1, by omega⟩
    have hi : i < l.length := by omega
    have hdr : l.drop i = [l[i]] := by rw [List.drop_eq_getElem_cons hi, List.drop_of_length_le (by omega)]
    have hll : ((l.length - 1 : Nat) : Int) = (i : Int) := by omega
    simp only [align_Thin.l0]
    rw [wrap64_id (x := (i : Int) + 1) (by omega) (by omega), if_neg (by omega), last_idx l (by omega) h64, hll, if_pos (by omega), if_pos (by omega), if_pos (by omega), rdM_get l i hi, hdr]
    rfl
  | succ d ih =>
    intro k i out p hd h1 hk hne hlen hp hin hlt
    obtain ⟨k, rfl⟩ : ∃ m, k = m + 1 := ⟨k - 1, by omega⟩
    have hi : i < l.length := by omega
    have hi1 : i + 1 < l.length := by omega
    have hol : 0 < out.length := List.length_pos_iff.2 hne
    have hm := List.all_eq_true.1 hall l[i] (List.getElem_mem hi)
    have hn := List.all_eq_true.1 hall l[i + 1] (List.getElem_mem hi1)
    have hmn : lt2 l[i] l[i + 1] := by
      have := hok.2.2.2 i hi1
      rw [mA_get l i hi, mA_get l (i + 1) hi1, mB_get l i hi, mB_get l (i + 1) hi1] at this
      exact this
    have hdr : l.drop i = l[i] :: l[i + 1] :: l.drop (i + 1 + 1) := by rw [List.drop_eq_getElem_cons hi, List.drop_eq_getElem_cons hi1]
    have hdr1 : l.drop (i + 1) = l[i + 1] :: l.drop (i + 1 + 1) := List.drop_eq_getElem_cons hi1
    have hst := straight_eq p l[i] l[i + 1] hin hm hn (hlt i hi (Nat.le_refl _)) hmn
    simp only [align_Thin.l0]
    rw [wrap64_id (x := (i : Int) + 1) (by omega) (by omega), wrap64_id (x := (out.length : Int) - 1) (by omega) (by omega), show (i : Int) + 1 = ((i + 1 : Nat) : Int) by omega,
      if_pos (by omega), if_pos (by omega), if_pos (by omega), if_pos (by omega), if_pos (by omega), if_pos (by omega), hp, rdM_get l i hi, rdM_get l (i + 1) hi1, hst]
    simp only [Option.bind_some]
    rw [hdr, thinGo]
    by_cases c : colin p l[i] l[i + 1] = true
    · rw [if_pos c, if_pos c, ← hdr1]
      exact ih k (i + 1) out p (by omega) (by omega) (by omega) hne (by omega) hp hin (fun j hj hij => hlt j hj (by omega))
    · rw [if_neg c, if_neg c, if_pos (by omega)]
      have := ih k (i + 1) (out ++ [l[i]]) l[i] (by omega) (by omega) (by omega) (by simp) (by simp; omega) (last_snoc out l[i]) hm (fun j hj hij => by
        have := mono_of hok (show i < j by omega) hj
        rw [mA_get l i hi, mA_get l j hj, mB_get l i hi, mB_get l j hj] at this
        exact this)
      rw [hdr1, List.append_assoc] at this
      exact this

theorem chkM_all {l : List Mk} (h : chkM l = 0) : l.all inM = true ∧ srt (rd_T41 l 0) (l.drop 1) = true := by
  unfold chkM at h
  split at h
  · omega
  · split at h
    · omega
    · split at h
      · rename_i h3
        split at h
        · rename_i h4; exact ⟨h3, h4⟩
        · omega
      · omega

theorem thin_eq (l : List Mk) (k : Nat) (hk : 200 ≤ k) : align_Thin.f k l = some (if chkM l = 0 then (thin l, 0) else ([], chkM l)) := by
  unfold align_Thin.f
  rw [checkM_eq l _ hk]
  simp only [Option.bind_some]
  by_cases h : chkM l = 0
  · have hok := (chkM_zero l).1 h
    have h2 := hok.1
    have h64 := hok.2.1
    obtain ⟨hall, hs⟩ := chkM_all h
    rw [if_pos h, if_pos h, if_pos (by omega)]
    have hi0 : 0 < l.length := by omega
    have e0 : rd_T41 l 0 = l[0] := rdM_get l 0 hi0
    rw [e0]
    have := thin_l0 l hok hall (l.length - 2) k 1 [l[0]] l[0] (by omega) (by omega) (by omega) (by simp) (by simp) (last_snoc [] l[0]) (List.all_eq_true.1 hall _ (List.getElem_mem hi0)) (fun j hj hij => by
      have := mono_of hok (show 0 < j by omega) hj
      rw [mA_get l 0 hi0, mA_get l j hj, mB_get l 0 hi0, mB_get l j hj] at this
      exact this)
    have ht : thin l = [l[0]] ++ thinGo l[0] (l.drop 1) := by
      match l, hi0 with
      | x :: r, _ => rfl
    rw [ht]
    exact this
  · rw [if_neg h, if_neg h]

/-! ### Same -/
theorem same_l0 (s : List Mk) (hs : s.length ≤ 1000) (d : Nat) : ∀ (k i : Nat), i + d = s.length → d < k → papermillref14_Same.l0 k s s i = some true := by
  induction d with
  | zero =>
    intro k i hi hk
    obtain ⟨k, rfl⟩ : ∃ m, k = m + 1 := ⟨k - 1, by omega⟩
    simp only [papermillref14_Same.l0]
    rw [if_neg (by omega)]
  | succ d ih =>
    intro k i hi hk
    obtain ⟨k, rfl⟩ : ∃ m, k = m + 1 := ⟨k - 1, by omega⟩
    simp only [papermillref14_Same.l0]
    rw [if_pos (by omega), if_pos (by omega), if_pos (by omega), if_neg (by simp), wrap64_id (by omega) (by omega), show (i : Int) + 1 = ((i + 1 : Nat) : Int) by omega]
    exact ih k (i + 1) (by omega) (by omega)

theorem same_eq (s : List Mk) (hs : s.length ≤ 1000) (k : Nat) (hk : 1001 ≤ k) : papermillref14_Same.f k s s = some true := by
  unfold papermillref14_Same.f
  rw [if_pos rfl]
  exact same_l0 s hs s.length k 0 (by omega) (by omega)

/-! ### thinned marks -/
theorem thinGo_len (l : List Mk) : ∀ p, (thinGo p l).length ≤ l.length ∧ (l ≠ [] → thinGo p l ≠ []) := by
  induction l with
  | nil => intro p; exact ⟨Nat.le_refl _, fun h => absurd rfl h⟩
  | cons m r ih =>
    intro p
    cases r with
    | nil => exact ⟨Nat.le_refl _, fun _ => by simp [thinGo]⟩
    | cons n l =>
      rw [thinGo]
      split
      · have := ih p
        exact ⟨by have := this.1; simp only [List.length_cons] at this ⊢; omega, fun _ => this.2 (by simp)⟩
      · have := ih m
        exact ⟨by have := this.1; simp only [List.length_cons] at this ⊢; omega, fun _ => by simp⟩

theorem thinGo_mem (l : List Mk) : ∀ p x, x ∈ thinGo p l → x ∈ l := by
  induction l with
  | nil => intro p x h; exact h
  | cons m r ih =>
    intro p x h
    cases r with
    | nil => exact h
    | cons n l =>
      rw [thinGo] at h
      split at h
      · exact List.mem_cons_of_mem _ (ih p x h)
      · rcases List.mem_cons.1 h with rfl | h
        · exact List.mem_cons_self
        · exact List.mem_cons_of_mem _ (ih m x h)

theorem srt_cons {p m : Mk} {l : List Mk} : srt p (m :: l) = true ↔ lt2 p m ∧ srt m l = true := by
  rw [srt, Bool.and_eq_true, decide_eq_true_eq]; rfl

theorem srt_skip {p m n : Mk} {l : List Mk} (h : srt p (m :: n :: l) = true) : srt p (n :: l) = true := by
  obtain ⟨h1, h2⟩ := srt_cons.1 h
  obtain ⟨h3, h4⟩ := srt_cons.1 h2
  unfold lt2 at h1 h3
  exact srt_cons.2 ⟨⟨by omega, by omega⟩, h4⟩

theorem srt_thin (l : List Mk) : ∀ p, srt p l = true → srt p (thinGo p l) = true := by
  induction l with
  | nil => intro p h; exact h
  | cons m r ih =>
    intro p h
    cases r with
    | nil => exact h
    | cons n l =>
      rw [thinGo]
      split
      · exact ih p (srt_skip h)
      · obtain ⟨h1, h2⟩ := srt_cons.1 h
        exact srt_cons.2 ⟨h1, ih m h2⟩

theorem chkM_thin (l : List Mk) (h : chkM l = 0) : chkM (thin l) = 0 ∧ (thin l).length ≤ l.length := by
  obtain ⟨hall, hs⟩ := chkM_all h
  have hok := (chkM_zero l).1 h
  have h2 := hok.1
  have h64 := hok.2.1
  match l, h2 with
  | x :: m :: r, _ =>
    have hl := thinGo_len (m :: r) x
    have hpos : 0 < (thinGo x (m :: r)).length := List.length_pos_iff.2 (hl.2 (by simp))
    have e0 : rd_T41 (x :: m :: r) 0 = x := rfl
    rw [e0] at hs
    have hst := srt_thin (m :: r) x hs
    have hle := hl.1
    simp only [List.length_cons] at h64 hle
    constructor
    · unfold chkM
      have ea : (thin (x :: m :: r)).all inM = true := by
        rw [List.all_eq_true]
        intro y hy
        rcases List.mem_cons.1 hy with rfl | hy
        · exact List.all_eq_true.1 hall _ List.mem_cons_self
        · exact List.all_eq_true.1 hall _ (List.mem_cons_of_mem _ (thinGo_mem _ _ _ hy))
      have el : (thin (x :: m :: r)).length = (thinGo x (m :: r)).length + 1 := rfl
      have es : srt (rd_T41 (thin (x :: m :: r)) 0) ((thin (x :: m :: r)).drop 1) = true := hst
      rw [if_neg (by omega), if_neg (by omega), if_pos ea, if_pos es]
    · have el : (thin (x :: m :: r)).length = (thinGo x (m :: r)).length + 1 := rfl
      rw [el]
      simp only [List.length_cons]
      omega

/-! ### the same Forward -/
def lin (p n : Mk) (a : Int) : Int := p.f1 + (a - p.f0) * (n.f1 - p.f1) / (n.f0 - p.f0)
def fw : Mk → List Mk → Int → Int
  | p, [], _ => p.f1
  | p, n :: l, a => if a ≤ n.f0 then lin p n a else fw n l a

theorem frac_eq (X M1 M0 N1 N0 : Int) (hM : 0 < M0) (hN : 0 < N0) (h : M1 * N0 = N1 * M0) : X * M1 / M0 = X * N1 / N0 := by
  have e1 := Int.mul_ediv_mul_of_pos (X * M1) M0 hN
  have e2 := Int.mul_ediv_mul_of_pos (X * N1) N0 hM
  have e3 : N0 * (X * M1) = M0 * (X * N1) := by
    have : N0 * (X * M1) = X * (M1 * N0) := by grind
    rw [this, h]; grind
  rw [← e1, ← e2, e3, Int.mul_comm M0 N0]

theorem lin_skip (p m n : Mk) (a : Int) (h1 : lt2 p m) (h2 : lt2 m n) (hc : colin p m n = true) : lin p m a = lin p n a ∧ lin m n a = lin p n a := by
  have h := of_decide_eq_true hc
  unfold lt2 at h1 h2
  unfold lin
  constructor
  · rw [frac_eq (a - p.f0) (m.f1 - p.f1) (m.f0 - p.f0) (n.f1 - p.f1) (n.f0 - p.f0) (by omega) (by omega) h]
  · have h' : (n.f1 - m.f1) * (n.f0 - p.f0) = (n.f1 - p.f1) * (n.f0 - m.f0) := by grind
    rw [frac_eq (a - m.f0) (n.f1 - m.f1) (n.f0 - m.f0) (n.f1 - p.f1) (n.f0 - p.f0) (by omega) (by omega) h']
    have e : (a - p.f0) * (n.f1 - p.f1) = (a - m.f0) * (n.f1 - p.f1) + (m.f1 - p.f1) * (n.f0 - p.f0) := by grind
    rw [e, Int.add_mul_ediv_right _ _ (by omega)]
    omega

theorem fw_thin (l : List Mk) : ∀ p a, srt p l = true → fw p (thinGo p l) a = fw p l a := by
  induction l with
  | nil => intro p a h; rfl
  | cons m r ih =>
    intro p a h
    cases r with
    | nil => rfl
    | cons n l =>
      obtain ⟨h1, h2⟩ := srt_cons.1 h
      obtain ⟨h3, h4⟩ := srt_cons.1 h2
      rw [thinGo]
      split
      · rename_i hc
        rw [ih p a (srt_skip h)]
        have hl := lin_skip p m n a h1 h3 hc
        unfold lt2 at h1 h3
        simp only [fw]
        by_cases c1 : a ≤ m.f0
        · rw [if_pos (show a ≤ n.f0 by omega), if_pos c1, hl.1]
        · rw [if_neg c1]
          by_cases c2 : a ≤ n.f0
          · rw [if_pos c2, if_pos c2, hl.2]
          · rw [if_neg c2, if_neg c2]
      · simp only [fw]
        by_cases c1 : a ≤ m.f0
        · rw [if_pos c1, if_pos c1]
        · rw [if_neg c1, if_neg c1]
          exact ih m a h2

theorem fwd_seg {l : List Mk} (hok : okM l) (i : Nat) (hi : i + 1 < l.length) {a : Int} (h0 : mA l i ≤ a) (h1 : a ≤ mA l (i + 1)) : fwd l a = mB l i + (a - mA l i) * (mB l (i + 1) - mB l i) / (mA l (i + 1) - mA l i) := by
  have b3 := hok.2.2.2 i hi
  by_cases e0 : a = mA l i
  · rw [e0, fwd_at hok i (by omega), Int.sub_self, Int.zero_mul, Int.zero_ediv]; omega
  · by_cases e1 : a = mA l (i + 1)
    · rw [e1, fwd_at hok (i + 1) hi, Int.mul_ediv_cancel_left _ (by omega)]; omega
    · have h2 := hok.1
      have m1 := mono_le hok (show 0 ≤ i by omega) (by omega)
      have m2 := mono_le hok (show i + 1 ≤ l.length - 1 by omega) (by omega)
      have hs := segA_spec hok (a := a) (by omega) (by omega)
      have hk := seg_le fA l a
      have e : seg fA l a = i := by
        rcases Nat.lt_trichotomy (seg fA l a) i with c | c | c
        · have := mono_le hok (show seg fA l a + 1 ≤ i by omega) (by omega); omega
        · exact c
        · have := mono_le hok (show i + 1 ≤ seg fA l a by omega) (by omega); omega
      unfold fwd
      rw [e]

theorem fw_fwd {l : List Mk} (hok : okM l) {a : Int} (h1 : a ≤ mA l (l.length - 1)) (d : Nat) : ∀ (i : Nat) (hi : i < l.length), i + 1 + d = l.length → mA l i ≤ a → fw l[i] (l.drop (i + 1)) a = fwd l a := by
  induction d with
  | zero =>
    intro i hi hd h0
    rw [List.drop_of_length_le (by omega)]
    have e : i = l.length - 1 := by omega
    rw [← e] at h1
    have ea : a = mA l i := by omega
    rw [ea, fwd_at hok i hi]
    simp only [fw]
    rw [mB_get l i hi]
  | succ d ih =>
    intro i hi hd h0
    have hi1 : i + 1 < l.length := by omega
    rw [List.drop_eq_getElem_cons hi1, fw]
    have ea : l[i + 1].f0 = mA l (i + 1) := (mA_get l (i + 1) hi1).symm
    by_cases c : a ≤ l[i + 1].f0
    · rw [if_pos c]
      rw [ea] at c
      rw [fwd_seg hok i hi1 h0 c]
      unfold lin
      rw [mA_get l i hi, mA_get l (i + 1) hi1, mB_get l i hi, mB_get l (i + 1) hi1]
    · rw [if_neg c]
      exact ih (i + 1) hi1 (by omega) (by omega)

theorem thinGo_last (l : List Mk) : ∀ p (h : l ≠ []) (h' : thinGo p l ≠ []), (thinGo p l).getLast h' = l.getLast h := by
  induction l with
  | nil => intro p h; exact absurd rfl h
  | cons m r ih =>
    intro p h h'
    cases r with
    | nil => rfl
    | cons n l =>
      have hne : ∀ q, thinGo q (n :: l) ≠ [] := fun q => (thinGo_len (n :: l) q).2 (by simp)
      rw [List.getLast_cons (by simp : n :: l ≠ [])]
      by_cases c : colin p m n = true
      · have e : thinGo p (m :: n :: l) = thinGo p (n :: l) := by rw [thinGo, if_pos c]
        simp only [e]
        exact ih p (by simp) (hne p)
      · have e : thinGo p (m :: n :: l) = m :: thinGo m (n :: l) := by rw [thinGo, if_neg c]
        simp only [e]
        rw [List.getLast_cons (hne m)]
        exact ih m (by simp) (hne m)

theorem last_mA (l : List Mk) (h : l ≠ []) : mA l (l.length - 1) = (l.getLast h).f0 := by
  have hp : 0 < l.length := List.length_pos_iff.2 h
  rw [mA_get l _ (by omega), List.getLast_eq_getElem]

theorem fwdS_thin (l : List Mk) (h : chkM l = 0) (a : Int) : fwdS (thin l) a = fwdS l a := by
  obtain ⟨hall, hs⟩ := chkM_all h
  have ht := (chkM_thin l h).1
  have hok := (chkM_zero l).1 h
  have htk := (chkM_zero _).1 ht
  have h2 := hok.1
  unfold fwdS
  rw [if_pos h, if_pos ht]
  match l, h2 with
  | x :: m :: r, _ =>
    have hne := (thinGo_len (m :: r) x).2 (by simp)
    have e0 : mA (thin (x :: m :: r)) 0 = mA (x :: m :: r) 0 := rfl
    have e1 : mA (thin (x :: m :: r)) ((thin (x :: m :: r)).length - 1) = mA (x :: m :: r) ((x :: m :: r).length - 1) := by
      rw [last_mA _ (show thin (x :: m :: r) ≠ [] by simp [thin]), last_mA _ (by simp)]
      have e : thin (x :: m :: r) = x :: thinGo x (m :: r) := rfl
      simp only [e]
      rw [List.getLast_cons hne, List.getLast_cons (by simp : m :: r ≠ []), thinGo_last (m :: r) x (by simp) hne]
    rw [e0, e1]
    by_cases c : mA (x :: m :: r) 0 ≤ a ∧ a ≤ mA (x :: m :: r) ((x :: m :: r).length - 1)
    · rw [if_pos c, if_pos c]
      have f1 := fw_fwd hok c.2 ((x :: m :: r).length - 1) 0 (by simp) (by simp; omega) c.1
      have f2 := fw_fwd htk (by rw [e1]; exact c.2) ((thin (x :: m :: r)).length - 1) 0 (by simp [thin]) (by simp [thin]; omega) (by rw [e0]; exact c.1)
      have hs' : srt x (m :: r) = true := hs
      have f3 := fw_thin (m :: r) x a hs'
      have g1 : fw x (m :: r) a = fwd (x :: m :: r) a := f1
      have g2 : fw x (thinGo x (m :: r)) a = fwd (thin (x :: m :: r)) a := f2
      rw [← g1, ← g2, f3]
    · rw [if_neg c, if_neg c]

/-! ### not thinned further -/
theorem head_colin (l : List Mk) : ∀ m n, srt m (n :: l) = true → ∃ n' l', thinGo m (n :: l) = n' :: l' ∧ lt2 m n' ∧ (n.f1 - m.f1) * (n'.f0 - m.f0) = (n'.f1 - m.f1) * (n.f0 - m.f0) := by
  induction l with
  | nil => intro m n h; exact ⟨n, [], rfl, (srt_cons.1 h).1, rfl⟩
  | cons x l ih =>
    intro m n h
    by_cases c : colin m n x = true
    · obtain ⟨n', l', e, h1, h2⟩ := ih m x (srt_skip h)
      refine ⟨n', l', by rw [thinGo, if_pos c]; exact e, h1, ?_⟩
      have hc := of_decide_eq_true c
      have hmx := (srt_cons.1 (srt_skip h)).1
      unfold lt2 at hmx
      have h0 : x.f0 - m.f0 ≠ 0 := by omega
      apply Int.eq_of_mul_eq_mul_left h0
      grind
    · refine ⟨n, thinGo n (x :: l), by rw [thinGo, if_neg c], (srt_cons.1 h).1, rfl⟩

theorem thin_twice (l : List Mk) : ∀ p, srt p l = true → thinGo p (thinGo p l) = thinGo p l := by
  induction l with
  | nil => intro p h; rfl
  | cons m r ih =>
    intro p h
    cases r with
    | nil => rfl
    | cons n l =>
      obtain ⟨h1, h2⟩ := srt_cons.1 h
      by_cases c : colin p m n = true
      · have e : thinGo p (m :: n :: l) = thinGo p (n :: l) := by rw [thinGo, if_pos c]
        rw [e]
        exact ih p (srt_skip h)
      · have e : thinGo p (m :: n :: l) = m :: thinGo m (n :: l) := by rw [thinGo, if_neg c]
        rw [e]
        obtain ⟨n', l', e', hl', hc'⟩ := head_colin l m n h2
        have hi := ih m h2
        rw [e'] at hi ⊢
        have hmn := (srt_cons.1 h2).1
        have hn : ¬ colin p m n' = true := by
          intro hh
          apply c
          have h3 := of_decide_eq_true hh
          unfold lt2 at hl' hmn
          unfold colin
          rw [decide_eq_true_eq]
          have h0 : n'.f0 - m.f0 ≠ 0 := by omega
          apply Int.eq_of_mul_eq_mul_left h0
          grind
        rw [thinGo, if_neg hn, hi]

theorem thin_thin (l : List Mk) (h : chkM l = 0) : thin (thin l) = thin l := by
  obtain ⟨hall, hs⟩ := chkM_all h
  have h2 := ((chkM_zero l).1 h).1
  match l, h2 with
  | x :: m :: r, _ =>
    have hs' : srt x (m :: r) = true := hs
    have := thin_twice (m :: r) x hs'
    show x :: thinGo x (thinGo x (m :: r)) = x :: thinGo x (m :: r)
    rw [this]
end Go.Proofs.Ythdjlejljipjmaa.P
