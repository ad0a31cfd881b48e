/- What num.Gcd, num.Sqrt, num.Add, num.Sub and their references answer; the small case of the chapter. -/
import Derived.Test.YteibjgfeaimaiaaNumSum
import Derived.Test.YteibjgfeaimaiaaHandMulDiv
import Derived.Test.YteibjgfeaimaiaaPx4
import Derived.Test.YteibjgfeaimaiaaPx5
import Derived.Test.YteibjgfeaimaiaaPx5
import Derived.Test.YteibjgfeaimaiaaPx10
import Derived.Test.YteibjgfeaimaiaaPx11
import Derived.Test.YteibjgfeaimaiaaPx6
namespace Go.Proofs.Yteibjgfeaimaiaa.P
open Go.RowKit Go.Proofs.YteibjgfeaimaiaaW.PrintWords Go.Proofs.YteibjgfeaimaiaaW.PrintLast Go.Proofs.YteibjgfeaimaiaaW.PrintMore Go.Proofs.Yteibjgfeaimaiaa.Math
set_option linter.unusedVariables false

theorem awake_at : papermilllaw01_awake.f 100 = some true := by decide +kernel
theorem awake_true (k : Nat) (hk : 100 ≤ k) : papermilllaw01_awake.f k = some true := at_rounds papermilllaw01_awake.mono hk awake_at

/-! ### Gcd -/
theorem gcd_step (a b : Int) : Int.gcd b (a.tmod b) = Int.gcd a b := by
  rw [Int.gcd_eq_natAbs_gcd_natAbs, Int.gcd_eq_natAbs_gcd_natAbs, Int.natAbs_tmod, Nat.gcd_comm a.natAbs, Nat.gcd_comm b.natAbs, ← Nat.gcd_rec]

theorem tmod_lt (a b : Int) (hb : b ≠ 0) : (a.tmod b).natAbs < b.natAbs := by
  rw [Int.natAbs_tmod]; exact Nat.mod_lt _ (by omega)

theorem num_Gcd_l0 (n : Nat) : ∀ (k : Nat) (a b : Int), b.natAbs ≤ n → n < k → -1125899906842624 ≤ a → a ≤ 1125899906842624 →
    -1125899906842624 ≤ b → b ≤ 1125899906842624 → num_Gcd.l0 k a b = some (((Int.gcd a b : Nat) : Int), 0) := by
  induction n with
  | zero =>
    intro k a b hb hk h1 h2 h3 h4
    obtain ⟨k, rfl⟩ : ∃ m, k = m + 1 := ⟨k - 1, by omega⟩
    have hz : b = 0 := by omega
    subst hz
    simp only [num_Gcd.l0, if_true]
    rw [wrap64_id (by omega) (by omega), Int.gcd_zero_right]
    unfold mx
    congr 2
    split <;> omega
  | succ n ih =>
    intro k a b hb hk h1 h2 h3 h4
    obtain ⟨k, rfl⟩ : ∃ m, k = m + 1 := ⟨k - 1, by omega⟩
    simp only [num_Gcd.l0]
    by_cases hz : b = 0
    · subst hz
      rw [if_pos rfl, wrap64_id (by omega) (by omega), Int.gcd_zero_right]
      unfold mx
      congr 2
      split <;> omega
    · have hl := tmod_lt a b hz
      rw [if_neg hz, ih k b (a.tmod b) (by omega) (by omega) h3 h4 (by omega) (by omega), gcd_step]

def gcdSpec (a b : Int) : Int × Int := if inR a = true ∧ inR b = true then (((Int.gcd a b : Nat) : Int), 0) else (0, 1)

theorem num_Gcd_eq (a b : Int) (k : Nat) (hk : b.natAbs + 5 < k) : num_Gcd.f k a b = some (gcdSpec a b) := by
  unfold num_Gcd.f gcdSpec
  rw [num_in_eq ([a, b] : List Int) (by simp) k (by simp; omega)]
  simp only [Option.bind_some]
  by_cases h : inR a = true ∧ inR b = true
  · have ha := (rInR_iff a).1 h.1
    have hb := (rInR_iff b).1 h.2
    rw [if_pos (by simp [h.1, h.2]), if_pos h]
    exact num_Gcd_l0 b.natAbs k a b (Nat.le_refl _) (by omega) ha.1 ha.2 hb.1 hb.2
  · rw [if_neg (by simpa using h), if_neg h]

theorem ref_Gcd_l0 (n : Nat) : ∀ (k : Nat) (a b : Int), b.natAbs ≤ n → n < k → 0 ≤ a → 0 ≤ b → papermillref01_Gcd.l0 k a b = some (((Int.gcd a b : Nat) : Int), 0) := by
  induction n with
  | zero =>
    intro k a b hb hk h1 h3
    obtain ⟨k, rfl⟩ : ∃ m, k = m + 1 := ⟨k - 1, by omega⟩
    have hz : b = 0 := by omega
    subst hz
    simp only [papermillref01_Gcd.l0]
    rw [if_neg (by omega), Int.gcd_zero_right]
    congr 2
    omega
  | succ n ih =>
    intro k a b hb hk h1 h3
    obtain ⟨k, rfl⟩ : ∃ m, k = m + 1 := ⟨k - 1, by omega⟩
    simp only [papermillref01_Gcd.l0]
    by_cases hz : b = 0
    · subst hz
      rw [if_neg (by omega), Int.gcd_zero_right]
      congr 2
      omega
    · have hl := tmod_lt a b hz
      have hn := Int.tmod_nonneg b h1
      rw [if_pos (by omega), if_neg hz, ih k b (a.tmod b) (by omega) (by omega) h3 hn, gcd_step]

theorem gcd_abs (a b : Int) : Int.gcd (if a < 0 then -a else a) (if b < 0 then -b else b) = Int.gcd a b := by
  rw [Int.gcd_eq_natAbs_gcd_natAbs, Int.gcd_eq_natAbs_gcd_natAbs]
  congr 1 <;> split <;> omega

theorem ref_Gcd_eq (a b : Int) (k : Nat) (hk : b.natAbs + 5 < k) : papermillref01_Gcd.f k a b = some (gcdSpec a b) := by
  obtain ⟨k, rfl⟩ : ∃ m, k = m + 1 := ⟨k - 1, by omega⟩
  unfold papermillref01_Gcd.f gcdSpec
  rw [rIn_eq, rIn_eq]
  simp only [Option.bind_some]
  cases ha : inR a with
  | false => simp [papermillref01_Gcd.j0]
  | true =>
    cases hb : inR b with
    | false => simp [papermillref01_Gcd.j0]
    | true =>
      have ha' := (rInR_iff a).1 ha
      have hb' := (rInR_iff b).1 hb
      simp only [if_true, Bool.not_true, papermillref01_Gcd.j0]
      rw [if_neg (by simp), rabs_eq a (by omega) (by omega), rabs_eq b (by omega) (by omega)]
      simp only [Option.bind_some]
      rw [ref_Gcd_l0 b.natAbs k _ _ (by split <;> omega) (by omega) (by split <;> omega) (by split <;> omega), gcd_abs]
      simp

/-! ### Sqrt -/
theorem i64_or_join (x p : Nat) (hx : x + p < 9223372036854775808) (j : Nat) (hp : p < 2 ^ j) (hd : x % 2 ^ j = 0) : bits .or .i64 (x : Int) (p : Int) = ((x + p : Nat) : Int) := by
  have e1 : ∀ n : Nat, n < 9223372036854775808 → (BitVec.ofInt 64 (n : Int)).toNat = n := fun n hn => by rw [BitVec.ofInt_natCast, BitVec.toNat_ofNat]; exact Nat.mod_eq_of_lt (by omega)
  show IntKind.i64.wrap ((BitVec.ofInt 64 (x : Int) ||| BitVec.ofInt 64 (p : Int)).toNat : Int) = _
  rw [BitVec.toNat_or, e1 x (by omega), e1 p (by omega), nat_join j x p hd hp, IntKind.wrap_i64]
  omega

/-- What holds of a root between two rounds: it is a multiple of p, and the root lies in [s, s + p). -/
def RootAt (n s p : Nat) : Prop := p ∣ s ∧ s * s ≤ n ∧ n < (s + p) * (s + p) ∧ s + p ≤ 67108864

theorem root_step {n s p : Nat} (h : RootAt n s (2 * p)) : RootAt n (if (s + p) * (s + p) ≤ n then s + p else s) p := by
  obtain ⟨⟨q, hq⟩, h2, h3, h4⟩ := h
  split
  · rename_i c
    exact ⟨⟨2 * q + 1, by rw [hq]; grind⟩, c, by rw [show s + p + p = s + 2 * p from by omega]; exact h3, by omega⟩
  · rename_i c
    exact ⟨⟨2 * q, by rw [hq]; grind⟩, h2, by omega, by omega⟩

theorem sq_le {x : Nat} (h : x ≤ 67108864) : x * x ≤ 4503599627370496 := Nat.mul_le_mul h h

def halfPow (j : Nat) : Nat := if j = 0 then 0 else 2 ^ (j - 1)

theorem num_Sqrt_l0 (n : Nat) (j : Nat) : ∀ (k s : Nat), j ≤ 26 → j < k → RootAt n s (2 ^ j) → ∃ r, num_Sqrt.l0 k (n : Int) (s : Int) ((halfPow j : Nat) : Int) = some (((r : Nat) : Int), 0) ∧ RootAt n r 1 := by
  induction j with
  | zero =>
    intro k s hj hk h
    obtain ⟨k, rfl⟩ : ∃ m, k = m + 1 := ⟨k - 1, by omega⟩
    refine ⟨s, ?_, h⟩
    simp only [num_Sqrt.l0, halfPow, if_true]
    rw [if_neg (by omega)]
  | succ j ih =>
    intro k s hj hk h
    obtain ⟨k, rfl⟩ : ∃ m, k = m + 1 := ⟨k - 1, by omega⟩
    have hp0 : 0 < 2 ^ j := Nat.two_pow_pos j
    have hpj : 2 ^ (j + 1) = 2 * 2 ^ j := by rw [Nat.pow_succ, Nat.mul_comm]
    rw [hpj] at h
    have hst := root_step h
    obtain ⟨hd, h2, h3, h4⟩ := h
    have hor : bits .or .i64 (s : Int) ((2 ^ j : Nat) : Int) = ((s + 2 ^ j : Nat) : Int) := i64_or_join s (2 ^ j) (by omega) (j + 1) (by omega) (by rw [hpj]; exact Nat.mod_eq_zero_of_dvd hd)
    have hsq := sq_le (x := s + 2 ^ j) (by omega)
    have hnext : ((2 ^ j : Nat) : Int) / 2 = ((halfPow j : Nat) : Int) := by
      unfold halfPow
      cases j with
      | zero => rfl
      | succ i => rw [if_neg (by omega), show i + 1 - 1 = i from rfl, Nat.pow_succ]; omega
    simp only [num_Sqrt.l0]
    rw [show halfPow (j + 1) = 2 ^ j from by unfold halfPow; rw [if_neg (by omega)]; rfl]
    rw [if_pos (by omega), hor, hnext, ← Int.natCast_mul, wrap64_id (by omega) (by omega)]
    by_cases c : (s + 2 ^ j) * (s + 2 ^ j) ≤ n
    · rw [if_pos (by omega)]
      rw [if_pos c] at hst
      exact ih k _ (by omega) (by omega) hst
    · rw [if_neg (by omega)]
      rw [if_neg c] at hst
      exact ih k _ (by omega) (by omega) hst

theorem root_start (n : Nat) (h : n ≤ 1125899906842624) : RootAt n 0 (2 ^ 26) := ⟨⟨0, rfl⟩, by omega, by show n < (0 + 67108864) * (0 + 67108864); omega, by omega⟩

theorem root_unique {n r s : Nat} (h : RootAt n r 1) (h' : RootAt n s 1) : r = s := by
  obtain ⟨_, h1, h2, _⟩ := h
  obtain ⟨_, g1, g2, _⟩ := h'
  rcases Nat.lt_trichotomy r s with c | c | c
  · have := Nat.mul_le_mul (show r + 1 ≤ s from c) (show r + 1 ≤ s from c); omega
  · exact c
  · have := Nat.mul_le_mul (show s + 1 ≤ r from c) (show s + 1 ≤ r from c); omega

theorem num_Sqrt_bad (a : Int) (k : Nat) (hk : 40 ≤ k) (h : a < 0 ∨ 1125899906842624 < a) : num_Sqrt.f k a = some (0, 1) := by
  obtain ⟨k, rfl⟩ : ∃ m, k = m + 1 := ⟨k - 1, by omega⟩
  unfold num_Sqrt.f
  by_cases c : a < 0
  · rw [if_pos c]; simp [num_Sqrt.j0]
  · rw [if_neg c, num_in_eq [a] (by simp) _ (by simp; omega)]
    have : ([a] : List Int).all inR = false := by simp [inR]; omega
    rw [this]; simp [num_Sqrt.j0]

theorem num_Sqrt_ok (n : Nat) (k : Nat) (hk : 40 ≤ k) (h : n ≤ 1125899906842624) : ∃ r, num_Sqrt.f k (n : Int) = some (((r : Nat) : Int), 0) ∧ RootAt n r 1 := by
  obtain ⟨k, rfl⟩ : ∃ m, k = m + 1 := ⟨k - 1, by omega⟩
  obtain ⟨r, hr, h1⟩ := num_Sqrt_l0 n 26 k 0 (by omega) (by omega) (root_start n h)
  refine ⟨r, ?_, h1⟩
  unfold num_Sqrt.f
  rw [if_neg (by omega), num_in_eq [(n : Int)] (by simp) _ (by simp; omega)]
  have : ([(n : Int)] : List Int).all inR = true := by simp [inR]; omega
  rw [this]
  simp only [Option.bind_some, Bool.not_true, num_Sqrt.j0]
  rw [if_neg (by simp)]
  exact hr

theorem ref_Sqrt_l0 (n : Nat) (j : Nat) : ∀ (k s : Nat), j ≤ 26 → j < k → RootAt n s (2 ^ j) → ∃ r, papermillref01_Sqrt.l0 k (n : Int) (s : Int) ((j : Int) - 1) = some (((r : Nat) : Int), 0) ∧ RootAt n r 1 := by
  induction j with
  | zero =>
    intro k s hj hk h
    obtain ⟨k, rfl⟩ : ∃ m, k = m + 1 := ⟨k - 1, by omega⟩
    refine ⟨s, ?_, h⟩
    simp only [papermillref01_Sqrt.l0]
    rw [if_neg (by omega)]
  | succ j ih =>
    intro k s hj hk h
    obtain ⟨k, rfl⟩ : ∃ m, k = m + 1 := ⟨k - 1, by omega⟩
    have hpj : 2 ^ (j + 1) = 2 * 2 ^ j := by rw [Nat.pow_succ, Nat.mul_comm]
    have hp26 : 2 ^ j ≤ 67108864 := Nat.pow_le_pow_right (by omega) (show j ≤ 26 by omega)
    rw [hpj] at h
    have hst := root_step h
    obtain ⟨hd, h2, h3, h4⟩ := h
    have hshl : shl .i64 1 (((j + 1 : Nat) : Int) - 1) = ((2 ^ j : Nat) : Int) := by
      unfold shl
      rw [show (((j + 1 : Nat) : Int) - 1).toNat = j from by omega, show min j IntKind.i64.bits = j from by simp [IntKind.bits]; omega, Int.one_mul, IntKind.wrap_i64, Int.natCast_pow]
      have : ((2 : Int) ^ j) = ((2 ^ j : Nat) : Int) := by rw [Int.natCast_pow]; rfl
      rw [this]
      simp only [Int.natCast_pow] at *
      omega
    have hsq := sq_le (x := s + 2 ^ j) (by omega)
    simp only [papermillref01_Sqrt.l0]
    rw [if_pos (by omega), if_pos (by omega), hshl, wrap64_id (x := (s : Int) + ((2 ^ j : Nat) : Int)) (by omega) (by omega), ← Int.natCast_add, ← Int.natCast_mul, wrap64_id (by omega) (by omega), wrap64_id (by omega) (by omega)]
    rw [show ((j + 1 : Nat) : Int) - 1 - 1 = (j : Int) - 1 from by omega]
    by_cases c : (s + 2 ^ j) * (s + 2 ^ j) ≤ n
    · rw [if_pos (by omega)]
      rw [if_pos c] at hst
      exact ih k _ (by omega) (by omega) hst
    · rw [if_neg (by omega)]
      rw [if_neg c] at hst
      exact ih k _ (by omega) (by omega) hst

theorem ref_Sqrt_bad (a : Int) (k : Nat) (hk : 40 ≤ k) (h : a < 0 ∨ 1125899906842624 < a) : papermillref01_Sqrt.f k a = some (0, 1) := by
  obtain ⟨k, rfl⟩ : ∃ m, k = m + 1 := ⟨k - 1, by omega⟩
  unfold papermillref01_Sqrt.f
  by_cases c : a < 0
  · rw [if_pos c]; simp [papermillref01_Sqrt.j0]
  · rw [if_neg c, decide_eq_true (by omega)]; simp [papermillref01_Sqrt.j0]

theorem ref_Sqrt_ok (n : Nat) (k : Nat) (hk : 40 ≤ k) (h : n ≤ 1125899906842624) : ∃ r, papermillref01_Sqrt.f k (n : Int) = some (((r : Nat) : Int), 0) ∧ RootAt n r 1 := by
  obtain ⟨k, rfl⟩ : ∃ m, k = m + 1 := ⟨k - 1, by omega⟩
  obtain ⟨r, hr, h1⟩ := ref_Sqrt_l0 n 26 k 0 (by omega) (by omega) (root_start n h)
  refine ⟨r, ?_, h1⟩
  unfold papermillref01_Sqrt.f
  rw [if_neg (by omega), decide_eq_false (by omega)]
  simp only [papermillref01_Sqrt.j0]
  rw [if_neg (by simp)]
  exact hr

/-! ### Add, Sub -/
def resSpec (x : Int) : Int × Int := if x < -1125899906842624 ∨ 1125899906842624 < x then (0, 2) else (x, 0)

theorem num_Add_eq (a b : Int) (k : Nat) (hk : 5 ≤ k) : num_Add.f k a b = some (if inR a = true ∧ inR b = true then resSpec (a + b) else (0, 1)) := by
  unfold num_Add.f
  rw [num_in_eq ([a, b] : List Int) (by simp) k (by simp; omega)]
  simp only [Option.bind_some]
  by_cases h : inR a = true ∧ inR b = true
  · have ha := (rInR_iff a).1 h.1
    have hb := (rInR_iff b).1 h.2
    rw [if_pos (by simp [h.1, h.2]), if_pos h, wrap64_id (by omega) (by omega), num_result_eq _ k (by omega)]
    rfl
  · rw [if_neg (by simpa using h), if_neg h]
end Go.Proofs.Yteibjgfeaimaiaa.P
