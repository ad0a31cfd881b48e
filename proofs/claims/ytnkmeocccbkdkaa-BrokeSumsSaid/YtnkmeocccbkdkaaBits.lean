/- The least place below n at which a test says yes (n if there is none): what a search by halving finds for a test that stays true once it is true. No program in sight. Plain arithmetic behind num.MulDiv: division with three modes of rounding, products of two words, and long division bit by bit. No program in sight. Words of 64 bits: masks, joins, and the two words of a product as the walk spells them. -/
import Derived.Laws.BitsAllLaws
import Derived.Laws.Bits64
import Derived.Laws.BitsLemmas
namespace Go.Proofs.Ytnkmeocccbkdkaa.First

/-- The least i below n with p i; n if there is none. -/
def first (p : Nat → Bool) : Nat → Nat
  | 0 => 0
  | n + 1 => if first p n < n then first p n else if p n then n else n + 1

theorem first_spec (p : Nat → Bool) (n : Nat) : first p n ≤ n ∧ (∀ t, t < first p n → p t = false) ∧ (first p n < n → p (first p n) = true) := by
  induction n with
  | zero => exact ⟨Nat.le_refl _, fun t h => absurd h (Nat.not_lt_zero _), fun h => absurd h (Nat.not_lt_zero _)⟩
  | succ n ih =>
    obtain ⟨h1, h2, h3⟩ := ih
    unfold first
    by_cases c : first p n < n
    · rw [if_pos c]; exact ⟨by omega, h2, fun _ => h3 c⟩
    · rw [if_neg c]
      have e : first p n = n := by omega
      rw [e] at h2
      cases hp : p n with
      | true => rw [if_pos rfl]; exact ⟨by omega, h2, fun _ => hp⟩
      | false =>
        rw [if_neg (by simp)]
        refine ⟨Nat.le_refl _, fun t ht => ?_, fun h => absurd h (Nat.lt_irrefl _)⟩
        by_cases et : t = n
        · rw [et]; exact hp
        · exact h2 t (by omega)

theorem first_unique (p : Nat → Bool) (n r : Nat) (h1 : r ≤ n) (h2 : ∀ t, t < r → p t = false) (h3 : r < n → p r = true) : first p n = r := by
  obtain ⟨g1, g2, g3⟩ := first_spec p n
  rcases Nat.lt_trichotomy (first p n) r with h | h | h
  · have := h2 _ h; rw [g3 (by omega)] at this; cases this
  · exact h
  · have := g2 _ h; rw [h3 (by omega)] at this; cases this

theorem first_congr {p q : Nat → Bool} {n : Nat} (h : ∀ i, i < n → p i = q i) : first p n = first q n := by
  obtain ⟨g1, g2, g3⟩ := first_spec q n
  exact first_unique p n _ g1 (fun t ht => by rw [h t (by omega)]; exact g2 t ht) (fun hr => by rw [h _ hr]; exact g3 hr)

end Go.Proofs.Ytnkmeocccbkdkaa.First

namespace Go.Proofs.Ytnkmeocccbkdkaa.Math

theorem div_unique {n d x : Int} (hd : 0 < d) (h1 : d * x ≤ n) (h2 : n < d * x + d) : n / d = x :=
  ((Int.ediv_emod_unique (r := n - d * x) hd).2 ⟨by omega, by omega, by omega⟩).1

theorem mod_unique {n d x r : Int} (hd : 0 < d) (h : n = d * x + r) (h0 : 0 ≤ r) (h1 : r < d) : n % d = r :=
  ((Int.ediv_emod_unique (q := x) hd).2 ⟨by omega, h0, h1⟩).2

/-- n / d, rounded: 0 down, 1 up, else to the nearest, halves to the even one; d is positive. -/
def rnd (n d m : Int) : Int :=
  if m = 0 then n / d else if m = 1 then -((-n) / d)
  else if 2 * (n % d) < d then n / d else if d < 2 * (n % d) then n / d + 1 else if n / d % 2 = 0 then n / d else n / d + 1

/-- What num.MulDiv and its reference answer. -/
def md (a b c m : Int) : Int × Int :=
  if a < -1125899906842624 ∨ 1125899906842624 < a ∨ b < -1125899906842624 ∨ 1125899906842624 < b ∨ c < -1125899906842624 ∨ 1125899906842624 < c then (0, 1)
  else if c = 0 then (0, 16)
  else if m < 0 ∨ 3 ≤ m then (0, 17)
  else if rnd (if c < 0 then -(a * b) else a * b) (if c < 0 then -c else c) m < -1125899906842624 ∨ 1125899906842624 < rnd (if c < 0 then -(a * b) else a * b) (if c < 0 then -c else c) m then (0, 2)
  else (rnd (if c < 0 then -(a * b) else a * b) (if c < 0 then -c else c) m, 0)

/-- The rounded quotient out of that of the absolute values. -/
theorem rnd_neg (p d m q r : Int) (hd : 0 < d) (h : p = d * q + r) (h0 : 0 ≤ r) (h1 : r < d) (hm : 0 ≤ m) (hm3 : m < 3) :
    rnd (-p) d m = -(if (m = 0 ∧ 0 < r) ∨ (m = 2 ∧ (d < 2 * r ∨ (2 * r = d ∧ q % 2 = 1))) then q + 1 else q) := by
  have e1 : d * -q = -(d * q) := by grind
  have e2 : d * (-q - 1) = -(d * q) - d := by grind
  unfold rnd
  by_cases hr : r = 0
  · have hdiv : (-p) / d = -q := div_unique hd (by omega) (by omega)
    have hmod : (-p) % d = 0 := mod_unique (x := -q) hd (by omega) (by omega) hd
    have hpos : p / d = q := div_unique hd (by omega) (by omega)
    rw [Int.neg_neg, hdiv, hmod, hpos]
    subst hr
    split
    · rw [if_neg (by omega)]
    · split
      · rw [if_neg (by omega)]
      · rw [if_pos (by omega), if_neg (by omega)]
  · have hdiv : (-p) / d = -q - 1 := div_unique hd (by omega) (by omega)
    have hmod : (-p) % d = d - r := mod_unique (x := -q - 1) hd (by omega) (by omega) (by omega)
    have hpos : p / d = q := div_unique hd (by omega) (by omega)
    rw [Int.neg_neg, hdiv, hmod, hpos]
    split
    · rw [if_pos (by omega)]; omega
    · split
      · rw [if_neg (by omega)]
      · have hm2 : m = 2 := by omega
        by_cases c1 : d < 2 * r
        · rw [if_pos (by omega), if_pos (by omega)]; omega
        · by_cases c2 : 2 * r = d
          · by_cases c3 : q % 2 = 1
            · rw [if_neg (by omega), if_neg (by omega), if_pos (by omega), if_pos (by omega)]; omega
            · rw [if_neg (by omega), if_neg (by omega), if_neg (by omega), if_neg (by omega)]; omega
          · rw [if_neg (by omega), if_pos (by omega), if_neg (by omega)]; omega

theorem rnd_pos (p d m q r : Int) (hd : 0 < d) (h : p = d * q + r) (h0 : 0 ≤ r) (h1 : r < d) (hm : 0 ≤ m) (hm3 : m < 3) :
    rnd p d m = (if (m = 1 ∧ 0 < r) ∨ (m = 2 ∧ (d < 2 * r ∨ (2 * r = d ∧ q % 2 = 1))) then q + 1 else q) := by
  have e1 : d * -q = -(d * q) := by grind
  have e2 : d * (-q - 1) = -(d * q) - d := by grind
  have hdiv : p / d = q := div_unique hd (by omega) (by omega)
  have hmod : p % d = r := mod_unique hd h h0 h1
  unfold rnd
  rw [hdiv, hmod]
  split
  · rw [if_neg (by omega)]
  · split
    · by_cases hr : r = 0
      · have : (-p) / d = -q := div_unique hd (by omega) (by omega)
        rw [this, if_neg (by omega)]; omega
      · have : (-p) / d = -q - 1 := div_unique hd (by omega) (by omega)
        rw [this, if_pos (by omega)]; omega
    · have hm2 : m = 2 := by omega
      by_cases c1 : d < 2 * r
      · rw [if_neg (by omega), if_pos c1, if_pos (by omega)]
      · by_cases c2 : 2 * r = d
        · by_cases c3 : q % 2 = 1
          · rw [if_neg (by omega), if_neg c1, if_neg (by omega), if_pos (by omega)]
          · rw [if_neg (by omega), if_neg c1, if_pos (by omega), if_neg (by omega)]
        · rw [if_pos (by omega), if_neg (by omega)]

/-! ### A product of two words -/
theorem prod_parts (a1 a0 b1 b0 : Int) : (a1 * 4294967296 + a0) * (b1 * 4294967296 + b0) = (a1 * b1) * 18446744073709551616 + (a1 * b0 + a0 * b1) * 4294967296 + a0 * b0 := by grind

theorem mul_le {x y X Y : Int} (hx : 0 ≤ x) (hX : x ≤ X) (hy : 0 ≤ y) (hY : y ≤ Y) : x * y ≤ X * Y :=
  Int.le_trans (Int.mul_le_mul_of_nonneg_right hX hy) (Int.mul_le_mul_of_nonneg_left hY (by omega))

/-- The product's two words, for factors up to 2^50. -/
theorem prod_words (a b : Int) :
    (a / 4294967296 * (b / 4294967296) + (a / 4294967296 * (b % 4294967296) + a % 4294967296 * (b % 4294967296) / 4294967296) / 4294967296 + (a % 4294967296 * (b / 4294967296) + (a / 4294967296 * (b % 4294967296) + a % 4294967296 * (b % 4294967296) / 4294967296) % 4294967296) / 4294967296) * 18446744073709551616
      + ((a % 4294967296 * (b / 4294967296) + (a / 4294967296 * (b % 4294967296) + a % 4294967296 * (b % 4294967296) / 4294967296) % 4294967296) % 4294967296 * 4294967296 + a % 4294967296 * (b % 4294967296) % 4294967296) = a * b := by
  have h := prod_parts (a / 4294967296) (a % 4294967296) (b / 4294967296) (b % 4294967296)
  rw [show a / 4294967296 * 4294967296 + a % 4294967296 = a from by omega, show b / 4294967296 * 4294967296 + b % 4294967296 = b from by omega] at h
  rw [h]
  generalize a / 4294967296 * (b / 4294967296) = t11
  generalize a / 4294967296 * (b % 4294967296) = t10
  generalize a % 4294967296 * (b / 4294967296) = t01
  generalize a % 4294967296 * (b % 4294967296) = t00
  omega

/-! ### Long division, bit by bit -/
/-- One more bit: quotient and remainder of 2 x + b out of those of x. -/
theorem step_divmod {x c b : Nat} (hc : 0 < c) (hb : b ≤ 1) :
    (2 * x + b) / c = (if c ≤ 2 * (x % c) + b then 2 * (x / c) + 1 else 2 * (x / c)) ∧
    (2 * x + b) % c = (if c ≤ 2 * (x % c) + b then 2 * (x % c) + b - c else 2 * (x % c) + b) := by
  have hx := Nat.div_add_mod x c
  have hr := Nat.mod_lt x hc
  generalize x / c = q at *
  generalize x % c = r at *
  have e1 : c * (2 * q + 1) = 2 * (c * q) + c := by grind
  have e2 : c * (2 * q) = 2 * (c * q) := by grind
  split
  · refine (Nat.div_mod_unique hc).2 ⟨?_, ?_⟩ <;> omega
  · refine (Nat.div_mod_unique hc).2 ⟨?_, ?_⟩ <;> omega

theorem pre_succ (P i : Nat) (hi : i < 128) : P / 2 ^ (128 - (i + 1)) = 2 * (P / 2 ^ (128 - i)) + P / 2 ^ (127 - i) % 2 := by
  have e : 128 - i = (127 - i) + 1 := by omega
  rw [show 128 - (i + 1) = 127 - i from by omega, e, Nat.pow_succ, ← Nat.div_div_eq_div_mul]
  omega

theorem bit_high (hi lo i : Nat) (hl : lo < 18446744073709551616) (h : i < 64) : (hi * 18446744073709551616 + lo) / 2 ^ (127 - i) = hi / 2 ^ (63 - i) := by
  have e : (2 : Nat) ^ (127 - i) = 18446744073709551616 * 2 ^ (63 - i) := by
    rw [show 127 - i = 64 + (63 - i) from by omega, Nat.pow_add]
  rw [e, ← Nat.div_div_eq_div_mul]
  congr 1
  omega

theorem bit_low (hi lo i : Nat) (h : 64 ≤ i) (h' : i < 128) : (hi * 18446744073709551616 + lo) / 2 ^ (127 - i) % 2 = lo / 2 ^ (127 - i) % 2 := by
  have e : hi * 18446744073709551616 = 2 ^ (127 - i) * (hi * 2 ^ (i - 64) * 2) := by
    have : (18446744073709551616 : Nat) = 2 ^ (127 - i) * 2 ^ (i - 64) * 2 := by
      rw [← Nat.pow_add, ← Nat.pow_succ, show (127 - i + (i - 64)).succ = 64 from by omega]
    rw [this]; grind
  rw [e, Nat.mul_add_div (Nat.two_pow_pos _)]
  omega

end Go.Proofs.Ytnkmeocccbkdkaa.Math

namespace Go.Proofs.Ytnkmeocccbkdkaa.Math

theorem and_mask32 (x : Int) (h0 : 0 ≤ x) (h1 : x < 18446744073709551616) : bits .and .u64 x 4294967295 = x % 4294967296 := by
  rw [u64_and x _ h0 h1 (by omega) (by omega)]
  show ((x.toNat &&& 4294967295 : Nat) : Int) = _
  have : x.toNat &&& 4294967295 = x.toNat % 4294967296 := Nat.and_two_pow_sub_one_eq_mod x.toNat 32
  rw [this]; omega

theorem and_one (x : Int) (h0 : 0 ≤ x) (h1 : x < 18446744073709551616) : bits .and .u64 x 1 = x % 2 := by
  rw [u64_and x _ h0 h1 (by omega) (by omega)]
  show ((x.toNat &&& 1 : Nat) : Int) = _
  have : x.toNat &&& 1 = x.toNat % 2 := Nat.and_two_pow_sub_one_eq_mod x.toNat 1
  rw [this]; omega

theorem or_join32 (y z : Int) (h0 : 0 ≤ y) (h1 : y < 18446744073709551616) (hy : y % 4294967296 = 0) (h2 : 0 ≤ z) (h3 : z < 4294967296) : bits .or .u64 y z = y + z := by
  rw [u64_or y z h0 h1 h2 (by omega)]
  have : y.toNat ||| z.toNat = y.toNat + z.toNat := nat_join 32 _ _ (by show y.toNat % 4294967296 = 0; omega) (by show z.toNat < 4294967296; omega)
  rw [this]; omega

theorem or_one (y z : Int) (h0 : 0 ≤ y) (h1 : y < 18446744073709551616) (hy : y % 2 = 0) (h2 : 0 ≤ z) (h3 : z < 2) : bits .or .u64 y z = y + z := by
  rw [u64_or y z h0 h1 h2 (by omega)]
  have : y.toNat ||| z.toNat = y.toNat + z.toNat := nat_join 1 _ _ (by show y.toNat % 2 = 0; omega) (by show z.toNat < 2; omega)
  rw [this]; omega

def pLow (a b : Int) : Int := IntKind.u64.wrap (bits .and .u64 a 4294967295 * bits .and .u64 b 4294967295)
def pMid (a b : Int) : Int := IntKind.u64.wrap (IntKind.u64.wrap (a / 4294967296 * bits .and .u64 b 4294967295) + IntKind.u64.wrap (bits .and .u64 a 4294967295 * bits .and .u64 b 4294967295) / 4294967296)
def pMore (a b : Int) : Int := IntKind.u64.wrap (IntKind.u64.wrap (bits .and .u64 a 4294967295 * (b / 4294967296)) + bits .and .u64 (pMid a b) 4294967295)
def pHi (a b : Int) : Int := IntKind.u64.wrap (IntKind.u64.wrap (IntKind.u64.wrap (a / 4294967296 * (b / 4294967296)) + pMid a b / 4294967296) + pMore a b / 4294967296)
def pLo (a b : Int) : Int := bits .or .u64 (IntKind.u64.wrap (pMore a b * 4294967296)) (bits .and .u64 (pLow a b) 4294967295)

theorem p_words (a b : Int) (ha : 0 ≤ a) (ha' : a ≤ 1125899906842624) (hb : 0 ≤ b) (hb' : b ≤ 1125899906842624) :
    pHi a b * 18446744073709551616 + pLo a b = a * b ∧ 0 ≤ pHi a b ∧ pHi a b < 18446744073709551616 ∧ 0 ≤ pLo a b ∧ pLo a b < 18446744073709551616 := by
  have e := prod_words a b
  have b11 := mul_le (x := a / 4294967296) (y := b / 4294967296) (X := 262144) (Y := 262144) (by omega) (by omega) (by omega) (by omega)
  have b10 := mul_le (x := a / 4294967296) (y := b % 4294967296) (X := 262144) (Y := 4294967295) (by omega) (by omega) (by omega) (by omega)
  have b01 := mul_le (x := a % 4294967296) (y := b / 4294967296) (X := 4294967295) (Y := 262144) (by omega) (by omega) (by omega) (by omega)
  have b00 := mul_le (x := a % 4294967296) (y := b % 4294967296) (X := 4294967295) (Y := 4294967295) (by omega) (by omega) (by omega) (by omega)
  have c11 : 0 ≤ a / 4294967296 * (b / 4294967296) := Int.mul_nonneg (by omega) (by omega)
  have c10 : 0 ≤ a / 4294967296 * (b % 4294967296) := Int.mul_nonneg (by omega) (by omega)
  have c01 : 0 ≤ a % 4294967296 * (b / 4294967296) := Int.mul_nonneg (by omega) (by omega)
  have c00 : 0 ≤ a % 4294967296 * (b % 4294967296) := Int.mul_nonneg (by omega) (by omega)
  have ea : bits .and .u64 a 4294967295 = a % 4294967296 := and_mask32 a ha (by omega)
  have eb : bits .and .u64 b 4294967295 = b % 4294967296 := and_mask32 b hb (by omega)
  have elow : pLow a b = a % 4294967296 * (b % 4294967296) := by unfold pLow; rw [ea, eb, IntKind.wrap_u64]; omega
  have emid : pMid a b = a / 4294967296 * (b % 4294967296) + a % 4294967296 * (b % 4294967296) / 4294967296 := by
    unfold pMid; rw [ea, eb]; simp only [IntKind.wrap_u64]; omega
  have emore : pMore a b = a % 4294967296 * (b / 4294967296) + (a / 4294967296 * (b % 4294967296) + a % 4294967296 * (b % 4294967296) / 4294967296) % 4294967296 := by
    unfold pMore; rw [ea, emid, and_mask32 _ (by omega) (by omega)]; simp only [IntKind.wrap_u64]; omega
  have ehi : pHi a b = a / 4294967296 * (b / 4294967296) + (a / 4294967296 * (b % 4294967296) + a % 4294967296 * (b % 4294967296) / 4294967296) / 4294967296 + pMore a b / 4294967296 := by
    unfold pHi; rw [emid, emore]; simp only [IntKind.wrap_u64]; omega
  have elo : pLo a b = pMore a b % 4294967296 * 4294967296 + a % 4294967296 * (b % 4294967296) % 4294967296 := by
    unfold pLo
    rw [elow, and_mask32 _ (by omega) (by omega), or_join32 _ _ (by rw [IntKind.wrap_u64]; omega) (by rw [IntKind.wrap_u64]; omega) (by rw [IntKind.wrap_u64]; omega) (by omega) (by omega), IntKind.wrap_u64]
    omega
  rw [ehi, elo, emore]
  refine ⟨e, ?_⟩
  generalize a / 4294967296 * (b / 4294967296) = t11 at *
  generalize a / 4294967296 * (b % 4294967296) = t10 at *
  generalize a % 4294967296 * (b / 4294967296) = t01 at *
  generalize a % 4294967296 * (b % 4294967296) = t00 at *
  omega
end Go.Proofs.Ytnkmeocccbkdkaa.Math
