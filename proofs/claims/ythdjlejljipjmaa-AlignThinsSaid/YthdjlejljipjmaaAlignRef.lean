/- What the reference's Check, Scale and Forward answer. -/
import Derived.Test.YthdjlejljipjmaaAlignSpec
import Derived.Test.YthdjlejljipjmaaPx14
import Derived.Test.YthdjlejljipjmaaPx16
import Derived.Test.YthdjlejljipjmaaPx17
namespace Go.Proofs.Ythdjlejljipjmaa.P
open Go.RowKit Go.Proofs.YthdjlejljipjmaaW.PrintWords Go.Proofs.YthdjlejljipjmaaW.PrintLast Go.Proofs.YthdjlejljipjmaaW.PrintMore Go.Proofs.Ythdjlejljipjmaa.First Go.Proofs.Ythdjlejljipjmaa.Math
set_option linter.unusedVariables false

theorem refcheckM_l1 (l : List Mk) (hl : l.length ≤ 64) (d : Nat) : ∀ (k i : Nat), i + 1 + d = l.length → d + 2 ≤ k → papermillref14_Check.l1 k l ((i + 1 : Nat) : Int) = some (if srt (rd_T41 l (i : Int)) (l.drop (i + 1)) = true then 0 else 9) := by
  induction d with
  | zero =>
    intro k i hi hk
    obtain ⟨k, rfl⟩ : ∃ m, k = m + 1 := ⟨k - 1, by omega⟩
    simp only [papermillref14_Check.l1]
    rw [if_neg (by omega), List.drop_of_length_le (by omega), if_pos (by rfl)]
  | succ d ih =>
    intro k i hi hk
    obtain ⟨k, rfl⟩ : ∃ m, k = m + 1 := ⟨k - 1, by omega⟩
    have hlt : i + 1 < l.length := by omega
    have := ih k (i + 1) (by omega) (by omega)
    simp only [papermillref14_Check.l1]
    rw [wrap64_id (x := ((i + 1 : Nat) : Int) - 1) (by omega) (by omega), wrap64_id (x := ((i + 1 : Nat) : Int) + 1) (by omega) (by omega), show ((i + 1 : Nat) : Int) - 1 = (i : Int) by omega, show ((i + 1 : Nat) : Int) + 1 = ((i + 1 + 1 : Nat) : Int) by omega]
    rw [if_pos (by omega), if_pos (by omega), if_pos (by omega), if_pos (by omega), List.drop_eq_getElem_cons hlt, srt, this, rdM_get l (i + 1) hlt]
    by_cases c1 : l[i + 1].f0 ≤ (rd_T41 l (i : Int)).f0
    · rw [if_pos c1, decide_eq_false (by omega), Bool.false_and]; rfl
    · rw [if_neg c1]
      by_cases c2 : l[i + 1].f1 ≤ (rd_T41 l (i : Int)).f1
      · rw [if_pos c2, decide_eq_false (by omega), Bool.false_and]; rfl
      · rw [if_neg c2, decide_eq_true (by omega), Bool.true_and]

theorem refcheckM_l0 (l : List Mk) (hl : l.length ≤ 64) (h2 : 2 ≤ l.length) (d : Nat) : ∀ (k i : Nat), i + d = l.length → d + 80 ≤ k → papermillref14_Check.l0 k l i = some (if (l.drop i).all inM = true then (if srt (rd_T41 l 0) (l.drop 1) = true then 0 else 9) else 1) := by
  induction d with
  | zero =>
    intro k i hi hk
    obtain ⟨k, rfl⟩ : ∃ m, k = m + 1 := ⟨k - 1, by omega⟩
    simp only [papermillref14_Check.l0]
    rw [if_neg (by omega), List.drop_of_length_le (by omega), if_pos (show ([] : List Mk).all inM = true from rfl)]
    exact refcheckM_l1 l hl (l.length - 1) k 0 (by omega) (by omega)
  | succ d ih =>
    intro k i hi hk
    obtain ⟨k, rfl⟩ : ∃ m, k = m + 1 := ⟨k - 1, by omega⟩
    have hlt : i < l.length := by omega
    have := ih k (i + 1) (by omega) (by omega)
    simp only [papermillref14_Check.l0]
    rw [if_pos (by omega), if_pos (by omega), rdM_get l i hlt, wrap64_id (x := (i : Int) + 1) (by omega) (by omega), show (i : Int) + 1 = ((i + 1 : Nat) : Int) by omega, this, List.drop_eq_getElem_cons hlt, List.all_cons]
    have hd : inM l[i] = decide (0 ≤ l[i].f0 ∧ l[i].f0 ≤ 17179869184 ∧ 0 ≤ l[i].f1 ∧ l[i].f1 ≤ 17179869184) := rfl
    by_cases c1 : l[i].f0 < 0
    · rw [if_pos c1, hd, decide_eq_false (by omega), Bool.false_and]; rfl
    · rw [if_neg c1]
      by_cases c2 : l[i].f0 > 17179869184
      · rw [if_pos c2, hd, decide_eq_false (by omega), Bool.false_and]; rfl
      · rw [if_neg c2]
        by_cases c3 : l[i].f1 < 0
        · rw [if_pos c3, hd, decide_eq_false (by omega), Bool.false_and]; rfl
        · rw [if_neg c3]
          by_cases c4 : l[i].f1 > 17179869184
          · rw [if_pos c4, hd, decide_eq_false (by omega), Bool.false_and]; rfl
          · rw [if_neg c4, hd, decide_eq_true (by omega), Bool.true_and]

theorem refcheckM_eq (l : List Mk) (k : Nat) (hk : 200 ≤ k) : papermillref14_Check.f k l = some (chkM l) := by
  unfold papermillref14_Check.f chkM
  by_cases h1 : (l.length : Int) > 64
  · rw [if_pos h1, if_pos (by omega)]
  · rw [if_neg h1, if_neg (show ¬ 64 < l.length by omega)]
    by_cases h2 : (l.length : Int) < 2
    · rw [if_pos h2, if_pos (by omega)]
    · rw [if_neg h2, if_neg (show ¬ l.length < 2 by omega)]
      have := refcheckM_l0 l (by omega) (by omega) l.length k 0 (by omega) (by omega)
      simpa using this

/-! ### Scale -/
def hp (j : Nat) : Nat := if j = 0 then 0 else 2 ^ (j - 1)

theorem hp_half (j : Nat) : (((2 ^ j : Nat) : Int)).tdiv 2 = ((hp j : Nat) : Int) := by
  rw [Int.tdiv_eq_ediv_of_nonneg (Int.natCast_nonneg _)]
  unfold hp
  cases j with
  | zero => rfl
  | succ i =>
    rw [if_neg (by omega), show i + 1 - 1 = i from rfl, Nat.pow_succ]
    generalize 2 ^ i = z
    omega

theorem hp_le (j : Nat) (hj : j ≤ 61) : hp j ≤ 1152921504606846976 := by
  unfold hp
  split
  · omega
  · exact Nat.pow_le_pow_right (by omega) (show j - 1 ≤ 60 by omega)

theorem scale_l1 (a b c q R j : Nat) (hc : 0 < c) (hcb : c ≤ 17179869184) (hR : R < 3 * c) (hq : q ≤ 1099511627776) (hj : j ≤ 60) (v : Option Int) (k0 : Nat) (h : ∀ k', k0 ≤ k' → papermillref14_Scale.l0 k' a b c ((q + R / c : Nat) : Int) ((R % c : Nat) : Int) ((hp j : Nat) : Int) = v) :
    ∀ k, k0 + 3 ≤ k → papermillref14_Scale.l1 k a b c (q : Int) (R : Int) ((2 ^ j : Nat) : Int) = v := by
  intro k hk
  obtain ⟨k, rfl⟩ : ∃ m, k = m + 3 := ⟨k - 3, by omega⟩
  have hh := hp_le j (by omega)
  have e2 := hp_half j
  simp only [papermillref14_Scale.l1]
  rw [e2, wrap64_id (x := ((hp j : Nat) : Int)) (by omega) (by omega)]
  by_cases c1 : (R : Int) ≥ c
  · rw [if_pos c1, wrap64_id (x := (q : Int) + 1) (by omega) (by omega), wrap64_id (x := (R : Int) - c) (by omega) (by omega)]
    by_cases c2 : (R : Int) - c ≥ c
    · rw [if_pos c2, wrap64_id (x := (q : Int) + 1 + 1) (by omega) (by omega), wrap64_id (x := (R : Int) - c - c) (by omega) (by omega), if_neg (by omega)]
      have d1 : R / c = 2 := Nat.div_eq_of_lt_le (by omega) (by omega)
      have d2 : R % c = R - c - c := by
        have := Nat.div_add_mod R c
        rw [d1] at this; omega
      rw [d1, d2] at h
      have := h k (by omega)
      rwa [show ((q + 2 : Nat) : Int) = (q : Int) + 1 + 1 by omega, show ((R - c - c : Nat) : Int) = (R : Int) - c - c by omega] at this
    · rw [if_neg c2]
      have d1 : R / c = 1 := Nat.div_eq_of_lt_le (by omega) (by omega)
      have d2 : R % c = R - c := by
        have := Nat.div_add_mod R c
        rw [d1] at this; omega
      rw [d1, d2] at h
      have := h (k + 1) (by omega)
      rwa [show ((q + 1 : Nat) : Int) = (q : Int) + 1 by omega, show ((R - c : Nat) : Int) = (R : Int) - c by omega] at this
  · rw [if_neg c1]
    have d1 : R / c = 0 := Nat.div_eq_of_lt (by omega)
    have d2 : R % c = R := Nat.mod_eq_of_lt (by omega)
    rw [d1, d2] at h
    exact h (k + 2) (by omega)

theorem scale_l0 (a b c : Nat) (hac : a ≤ c) (hc : 0 < c) (hcb : c ≤ 17179869184) (hb : b ≤ 17179869184) (j : Nat) : ∀ k, j ≤ 61 → 6 * j + 6 ≤ k →
    papermillref14_Scale.l0 k a b c ((b / 2 ^ j * a / c : Nat) : Int) ((b / 2 ^ j * a % c : Nat) : Int) ((hp j : Nat) : Int) = some ((b * a / c : Nat) : Int) := by
  induction j with
  | zero =>
    intro k hj hk
    obtain ⟨k, rfl⟩ : ∃ m, k = m + 1 := ⟨k - 1, by omega⟩
    simp only [papermillref14_Scale.l0]
    rw [show hp 0 = 0 from rfl, if_neg (by omega), Nat.pow_zero, Nat.div_one]
  | succ j ih =>
    intro k hj hk
    obtain ⟨k, rfl⟩ : ∃ m, k = m + 2 := ⟨k - 2, by omega⟩
    have hp1 : hp (j + 1) = 2 ^ j := by unfold hp; rw [if_neg (by omega)]; rfl
    have hpos := Nat.two_pow_pos j
    have hple := hp_le (j + 1) hj
    rw [hp1] at hple
    have hdv : Int.tdiv (b : Int) ((2 ^ j : Nat) : Int) = ((b / 2 ^ j : Nat) : Int) := by
      rw [Int.tdiv_eq_ediv_of_nonneg (Int.natCast_nonneg _), ← Int.natCast_ediv]
    have ht : Int.tmod (Int.tdiv (b : Int) ((2 ^ j : Nat) : Int)) 2 = ((b / 2 ^ j % 2 : Nat) : Int) := by
      rw [hdv, Int.tmod_eq_emod_of_nonneg (Int.natCast_nonneg _)]
      generalize b / 2 ^ j = z
      omega
    have hdle : b / 2 ^ j ≤ b := Nat.div_le_self _ _
    have hX : b / 2 ^ j = 2 * (b / 2 ^ (j + 1)) + b / 2 ^ j % 2 := by
      rw [Nat.pow_succ, ← Nat.div_div_eq_div_mul]; omega
    have hXle : b / 2 ^ (j + 1) ≤ b := Nat.div_le_self _ _
    have hqle : b / 2 ^ (j + 1) * a / c ≤ b / 2 ^ (j + 1) := Nat.div_le_of_le_mul (by rw [Nat.mul_comm c]; exact Nat.mul_le_mul_left _ hac)
    have hdm := Nat.div_add_mod (b / 2 ^ (j + 1) * a) c
    have hml := Nat.mod_lt (b / 2 ^ (j + 1) * a) hc
    have ih2 := fun k' (hk' : 6 * j + 6 ≤ k') => ih k' (by omega) hk'
    rw [hX] at ih2
    have ht2 : b / 2 ^ j % 2 < 2 := Nat.mod_lt _ (by omega)
    rw [hp1]
    simp only [papermillref14_Scale.l0]
    rw [if_pos (by omega), if_neg (by omega), hdv, wrap64_id (x := ((b / 2 ^ j : Nat) : Int)) (by omega) (by omega), ← hdv, ht]
    generalize b / 2 ^ j % 2 = t at *
    generalize b / 2 ^ (j + 1) = X at *
    generalize hQ : X * a / c = Q at *
    generalize hR : X * a % c = R at *
    rw [wrap64_id (x := 2 * (Q : Int)) (by omega) (by omega), wrap64_id (x := 2 * (R : Int)) (by omega) (by omega), wrap64_id (x := 2 * (R : Int) + a) (by omega) (by omega)]
    have e1 : (2 * X + t) * a = c * (2 * Q) + (2 * R + t * a) := by
      rw [Nat.add_mul, Nat.mul_assoc, ← hdm]
      rw [Nat.mul_add, Nat.mul_left_comm]; omega
    have e2 : (2 * X + t) * a / c = 2 * Q + (2 * R + t * a) / c := by
      rw [e1, Nat.mul_add_div hc]
    have e3 : (2 * X + t) * a % c = (2 * R + t * a) % c := by
      rw [e1, Nat.mul_add_mod]
    rw [e2, e3] at ih2
    by_cases c1 : (t : Int) = 1
    · have t1 : t = 1 := by omega
      subst t1
      rw [if_pos c1]
      simp only [papermillref14_Scale.j1]
      have := scale_l1 a b c (2 * Q) (2 * R + 1 * a) j hc hcb (by omega) (by omega) (by omega) _ (6 * j + 6) ih2 k (by omega)
      rwa [show ((2 * Q : Nat) : Int) = 2 * (Q : Int) by omega, show ((2 * R + 1 * a : Nat) : Int) = 2 * (R : Int) + a by omega] at this
    · have t0 : t = 0 := by omega
      subst t0
      rw [if_neg c1]
      simp only [papermillref14_Scale.j1]
      have := scale_l1 a b c (2 * Q) (2 * R + 0 * a) j hc hcb (by omega) (by omega) (by omega) _ (6 * j + 6) ih2 k (by omega)
      rwa [show ((2 * Q : Nat) : Int) = 2 * (Q : Int) by omega, show ((2 * R + 0 * a : Nat) : Int) = 2 * (R : Int) by omega] at this

theorem scale_eq (a b c : Int) (h0 : 0 ≤ a) (hac : a ≤ c) (hc : 0 < c) (hcb : c ≤ 17179869184) (hb0 : 0 ≤ b) (hb : b ≤ 17179869184) (k : Nat) (hk : 400 ≤ k) : papermillref14_Scale.f k a b c = some (a * b / c) := by
  obtain ⟨a, rfl⟩ := Int.eq_ofNat_of_zero_le h0
  obtain ⟨b, rfl⟩ := Int.eq_ofNat_of_zero_le hb0
  obtain ⟨c, rfl⟩ := Int.eq_ofNat_of_zero_le (show 0 ≤ c by omega)
  unfold papermillref14_Scale.f
  have hz : b / 2 ^ 61 = 0 := Nat.div_eq_of_lt (by have : (2 : Nat) ^ 61 = 2305843009213693952 := by decide
                                                   omega)
  have := scale_l0 a b c (by omega) (by omega) (by omega) (by omega) 61 k (by omega) (by omega)
  rw [hz, Nat.zero_mul, Nat.zero_div, Nat.zero_mod, show hp 61 = 1152921504606846976 from by decide] at this
  have e : ((b * a / c : Nat) : Int) = (a : Int) * (b : Int) / (c : Int) := by rw [Nat.mul_comm]; simp
  rw [e] at this
  exact this

/-! ### Forward -/
theorem reffwd_l0 (l : List Mk) (hok : okM l) (a : Int) (h0 : mA l 0 ≤ a) (h1 : a ≤ mA l (l.length - 1)) (d : Nat) : ∀ (k i : Nat), i + 2 + d = l.length → d + 420 ≤ k → (∀ t, t < i → mA l (t + 1) < a) → papermillref14_Forward.l0 k l a i = some (fwd l a, 0) := by
  have h2 := hok.1
  have h64 := hok.2.1
  have stop : ∀ (k i : Nat), i + 2 ≤ l.length → 420 ≤ k → (∀ t, t < i → mA l (t + 1) < a) → ¬ mA l (i + 1) < a → papermillref14_Forward.l0 k l a i = some (fwd l a, 0) := by
    intro k i hi hk hb hn
    obtain ⟨k, rfl⟩ : ∃ m, k = m + 1 := ⟨k - 1, by omega⟩
    have hseg : seg fA l a = i := by
      refine first_unique (bef fA l a) (l.length - 2) i (by omega) (fun t ht => ?_) (fun _ => ?_)
      · have := hb t ht
        unfold bef fA
        rw [show (t : Int) + 1 = ((t + 1 : Nat) : Int) by omega]
        simpa [mA] using this
      · unfold bef fA
        rw [show (i : Int) + 1 = ((i + 1 : Nat) : Int) by omega]
        have : ¬ (rd_T41 l ((i + 1 : Nat) : Int)).f0 < a := hn
        simpa using this
    have hs := segA_spec hok h0 h1
    rw [hseg] at hs
    have b1 := hok.2.2.1 i (by omega)
    have b2 := hok.2.2.1 (i + 1) (by omega)
    have b3 := hok.2.2.2 i (by omega)
    simp only [papermillref14_Forward.l0]
    rw [wrap64_id (x := (i : Int) + 1) (by omega) (by omega), show (i : Int) + 1 = ((i + 1 : Nat) : Int) by omega, if_pos (by omega), if_pos (by omega)]
    change (if mA l (i + 1) < a then _ else (if 0 ≤ (i : Int) then (if (i : Int) < (l.length : Int) then ((papermillref14_Scale.f k (wrap64 (a - mA l i)) (wrap64 (mB l (i + 1) - mB l i)) (wrap64 (mA l (i + 1) - mA l i))).bind fun t178 => (some (wrap64 (mB l i + t178), (0 : Int)))) else none) else none)) = _
    rw [if_neg hn, if_pos (by omega), if_pos (by omega), wrap64_id (x := a - mA l i) (by omega) (by omega), wrap64_id (x := mB l (i + 1) - mB l i) (by omega) (by omega), wrap64_id (x := mA l (i + 1) - mA l i) (by omega) (by omega), scale_eq _ _ _ (by omega) (by omega) (by omega) (by omega) (by omega) (by omega) k (by omega)]
    have hm := md_down (a - mA l i) (mB l (i + 1) - mB l i) (mA l (i + 1) - mA l i) (by omega) (by omega) (by omega) (by omega) (by omega) (by omega)
    simp only [Option.bind_some]
    rw [wrap64_id (by omega) (by omega)]
    unfold fwd
    rw [hseg]
  induction d with
  | zero =>
    intro k i hi hk hb
    refine stop k i (by omega) (by omega) hb ?_
    rw [show i + 1 = l.length - 1 by omega]; omega
  | succ d ih =>
    intro k i hi hk hb
    by_cases hn : mA l (i + 1) < a
    · obtain ⟨k, rfl⟩ : ∃ m, k = m + 1 := ⟨k - 1, by omega⟩
      have := ih k (i + 1) (by omega) (by omega) (fun t ht => by
        by_cases e : t = i
        · subst e; exact hn
        · exact hb t (by omega))
      simp only [papermillref14_Forward.l0]
      rw [wrap64_id (x := (i : Int) + 1) (by omega) (by omega), show (i : Int) + 1 = ((i + 1 : Nat) : Int) by omega, if_pos (by omega), if_pos (by omega)]
      rw [if_pos (show (rd_T41 l ((i + 1 : Nat) : Int)).f0 < a from hn)]
      exact this
    · exact stop k i (by omega) (by omega) hb hn

theorem reffwd_eq (l : List Mk) (a : Int) (k : Nat) (hk : 600 ≤ k) : papermillref14_Forward.f k l a = some (fwdS l a) := by
  obtain ⟨k, rfl⟩ : ∃ m, k = m + 1 := ⟨k - 1, by omega⟩
  unfold papermillref14_Forward.f fwdS
  rw [refcheckM_eq l _ (by omega)]
  simp only [Option.bind_some, papermillref14_Forward.j0]
  by_cases h : chkM l = 0
  · have hok := (chkM_zero l).1 h
    have h2 := hok.1
    have h64 := hok.2.1
    rw [if_pos h, if_pos h, last_idx l (by omega) hok.2.1, if_pos (show (0 : Int) < (l.length : Int) by omega), if_pos (show (0 : Int) ≤ ((l.length - 1 : Nat) : Int) by omega), if_pos (show ((l.length - 1 : Nat) : Int) < (l.length : Int) by omega)]
    change (if a < mA l 0 then (if (true = true) then some ((0 : Int), (1 : Int)) else papermillref14_Forward.l0 k l a 0) else (if (decide (a > mA l (l.length - 1)) = true) then some (0, 1) else papermillref14_Forward.l0 k l a 0)) = _
    by_cases c1 : a < mA l 0
    · rw [if_pos c1, if_pos rfl, if_neg (by omega)]
    · rw [if_neg c1]
      by_cases c2 : a > mA l (l.length - 1)
      · rw [if_pos (decide_eq_true c2), if_neg (by omega)]
      · rw [if_neg (by simpa using c2), if_pos (by omega)]
        exact reffwd_l0 l hok a (by omega) (by omega) (l.length - 2) k 0 (by omega) (by omega) (fun t ht => absurd ht (Nat.not_lt_zero _))
  · rw [if_neg h, if_neg h]
end Go.Proofs.Ythdjlejljipjmaa.P
