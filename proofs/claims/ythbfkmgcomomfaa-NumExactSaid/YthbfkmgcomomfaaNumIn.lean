/- What num.in and num.size answer; what num.MulDiv is by absolute values. -/
import Derived.Test.YthbfkmgcomomfaaPx1
import Derived.Test.YthbfkmgcomomfaaPx2
import Derived.Test.YthbfkmgcomomfaaBits
import Derived.Test.YthbfkmgcomomfaaHandProd
import Derived.Test.YthbfkmgcomomfaaHandDiv
namespace Go.Proofs.Ythbfkmgcomomfaa.P
open Go.RowKit Go.Proofs.YthbfkmgcomomfaaW.PrintWords Go.Proofs.YthbfkmgcomomfaaW.PrintLast Go.Proofs.Ythbfkmgcomomfaa.Math
set_option linter.unusedVariables false

/-- In range. -/
def inR (x : Int) : Bool := decide (-1125899906842624 ≤ x ∧ x ≤ 1125899906842624)

theorem wrap64_id {x : Int} (h0 : -9223372036854775808 ≤ x) (h1 : x ≤ 9223372036854775807) : wrap64 x = x := by unfold wrap64; omega

theorem num_in_l0 (l : List Int) (hl : l.length < 9223372036854775807) (d : Nat) : ∀ (k : Nat) (i : Nat), l.length - i = d → i ≤ l.length → d < k →
    num_in.l0 k l (l.length : Int) i = some ((l.drop i).all inR) := by
  induction d with
  | zero =>
    intro k i hd hi hk
    obtain ⟨k, rfl⟩ : ∃ m, k = m + 1 := ⟨k - 1, by omega⟩
    simp only [num_in.l0]
    rw [if_neg (by omega), List.drop_of_length_le (by omega)]; rfl
  | succ d ih =>
    intro k i hd hi hk
    obtain ⟨k, rfl⟩ : ∃ m, k = m + 1 := ⟨k - 1, by omega⟩
    simp only [num_in.l0]
    have hlt : i < l.length := by omega
    rw [if_pos (by omega), if_pos (by omega), if_pos (by omega)]
    have e : rd l (i : Int) = l[i] := by simp [rd, hlt]
    rw [e, List.drop_eq_getElem_cons hlt, List.all_cons]
    have hr : inR l[i] = decide (-1125899906842624 ≤ l[i] ∧ l[i] ≤ 1125899906842624) := rfl
    by_cases h1 : l[i] < -1125899906842624
    · rw [if_pos h1, hr, decide_eq_false (by omega)]; rfl
    · rw [if_neg h1]
      by_cases h2 : l[i] > 1125899906842624
      · rw [if_pos h2, hr, decide_eq_false (by omega)]; rfl
      · rw [if_neg h2, hr, decide_eq_true (by omega), wrap64_id (by omega) (by omega)]
        have := ih k (i + 1) (by omega) (by omega) (by omega)
        rw [show ((i + 1 : Nat) : Int) = (i : Int) + 1 from by omega] at this
        rw [this]; rfl

theorem num_in_eq (l : List Int) (hl : l.length < 9223372036854775807) (k : Nat) (hk : l.length < k) : num_in.f k l = some (l.all inR) := by
  unfold num_in.f
  have := num_in_l0 l hl l.length k 0 (by omega) (by omega) hk
  simpa using this

theorem num_size_eq (a : Int) (h0 : -1125899906842624 ≤ a) (h1 : a ≤ 1125899906842624) : num_size.f a = some (if a < 0 then -a else a) := by
  unfold num_size.f
  split
  · rw [wrap64_id (by omega) (by omega), IntKind.wrap_u64]; congr 1; omega
  · rw [IntKind.wrap_u64]; congr 1; omega

theorem num_product_eq (a b : Int) (ha : 0 ≤ a) (ha' : a ≤ 1125899906842624) (hb : 0 ≤ b) (hb' : b ≤ 1125899906842624) : num_product.f a b = some (pHi a b, pLo a b) := by
  unfold num_product.f; rw [if_pos ⟨ha, ha', hb, hb'⟩]

theorem num_wide_divide_eq (a b c : Int) (ha : 0 ≤ a) (ha' : a ≤ 1125899906842624) (hb : 0 ≤ b) (hb' : b ≤ 1125899906842624) (hc : 0 < c) (hc' : c ≤ 1125899906842624) :
    num_wide_divide.f (pHi a b) (pLo a b) c = some (dQ (a * b).toNat c.toNat, dR (a * b).toNat c.toNat, dB (a * b).toNat c.toNat) := by
  obtain ⟨h, h1, h2, h3, h4⟩ := p_words a b ha ha' hb hb'
  unfold num_wide_divide.f
  rw [if_pos ⟨h1, h2, h3, h4, hc, hc'⟩]
  have e : (pHi a b).toNat * 18446744073709551616 + (pLo a b).toNat = (a * b).toNat := by rw [← h]; omega
  rw [e]

/-- Do the results of the parts, rounded, come to what MulDiv answers? -/
theorem md_abs (a b c m q r : Int) (ha : -1125899906842624 ≤ a ∧ a ≤ 1125899906842624) (hb : -1125899906842624 ≤ b ∧ b ≤ 1125899906842624) (hc : -1125899906842624 ≤ c ∧ c ≤ 1125899906842624) (hc0 : c ≠ 0) (hm : 0 ≤ m) (hm3 : m < 3)
    (h : (if a < 0 then -a else a) * (if b < 0 then -b else b) = (if c < 0 then -c else c) * q + r) (h0 : 0 ≤ r) (h1 : r < (if c < 0 then -c else c)) (hq : 0 ≤ q) (N G : Bool)
    (hN : N = ((decide (a < 0) != decide (b < 0)) != decide (c < 0)))
    (hG : G = (if m = 0 then N && decide (0 < r) else if m = 1 then !N && decide (0 < r) else decide ((if c < 0 then -c else c) < 2 * r) || (decide (2 * r = (if c < 0 then -c else c)) && decide (q % 2 = 1)))) :
    md a b c m = if 1125899906842624 < (if G = true then q + 1 else q) then (0, 2) else (if N = true then -(if G = true then q + 1 else q) else (if G = true then q + 1 else q), 0) := by
  have hd : 0 < (if c < 0 then -c else c) := by split <;> omega
  have key : rnd (if c < 0 then -(a * b) else a * b) (if c < 0 then -c else c) m = if N = true then -(if G = true then q + 1 else q) else (if G = true then q + 1 else q) := by
    have hn : (if c < 0 then -(a * b) else a * b) = if N = true then -((if a < 0 then -a else a) * (if b < 0 then -b else b)) else (if a < 0 then -a else a) * (if b < 0 then -b else b) := by
      rw [hN]
      by_cases c0 : a < 0 <;> by_cases c1 : b < 0 <;> by_cases c2 : c < 0 <;> simp [c0, c1, c2, Int.neg_mul, Int.mul_neg]
    rw [hn]
    generalize (if c < 0 then -c else c) = d at *
    generalize (if a < 0 then -a else a) * (if b < 0 then -b else b) = p at *
    cases N with
    | true =>
      rw [if_pos rfl, if_pos rfl, rnd_neg p d m q r hd h h0 h1 hm hm3]
      have e : ((m = 0 ∧ 0 < r) ∨ (m = 2 ∧ (d < 2 * r ∨ (2 * r = d ∧ q % 2 = 1)))) ↔ G = true := by
        rw [hG]
        by_cases m0 : m = 0
        · simp [m0]
        · by_cases m1 : m = 1
          · simp [m1]
          · have : m = 2 := by omega
            simp [this]
      simp only [e]
    | false =>
      rw [if_neg (by simp), if_neg (by simp), rnd_pos p d m q r hd h h0 h1 hm hm3]
      have e : ((m = 1 ∧ 0 < r) ∨ (m = 2 ∧ (d < 2 * r ∨ (2 * r = d ∧ q % 2 = 1)))) ↔ G = true := by
        rw [hG]
        by_cases m0 : m = 0
        · simp [m0]
        · by_cases m1 : m = 1
          · simp [m1]
          · have : m = 2 := by omega
            simp [this]
      simp only [e]
  unfold md
  rw [if_neg (by omega), if_neg hc0, if_neg (by omega), key]
  have hg : 0 ≤ (if G = true then q + 1 else q) := by split <;> omega
  generalize (if G = true then q + 1 else q) = x at *
  cases N with
  | true =>
    rw [if_pos rfl]
    by_cases hx : 1125899906842624 < x
    · rw [if_pos hx, if_pos (by omega)]
    · rw [if_neg hx, if_neg (by omega)]
  | false =>
    rw [if_neg (show ¬ (false = true) from by simp)]
    by_cases hx : 1125899906842624 < x
    · rw [if_pos hx, if_pos (by omega)]
    · rw [if_neg hx, if_neg (by omega)]
end Go.Proofs.Ythbfkmgcomomfaa.P
