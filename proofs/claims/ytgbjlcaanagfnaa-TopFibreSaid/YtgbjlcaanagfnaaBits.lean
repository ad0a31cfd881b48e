/- The least place below n at which a test says yes (n if there is none): what a search by halving finds for a test that stays true once it is true. No program in sight. Plain arithmetic behind num.MulDiv: division with three modes of rounding, products of two words, and long division bit by bit. No program in sight. Words of 64 bits: masks, joins, and the two words of a product as the walk spells them. num.product: the two words of the product of two factors up to 2^50. (num.wide).divide: long division of a number of 128 bits by one of at most 2^50, bit by bit. What num.in and num.size answer; what num.MulDiv is by absolute values. num.MulDiv: a * b / c, computed exactly and rounded: the walk. Its answer is Math.md. What num.Sum answers: one plain function of the list. share.check where all is well: the sum of the weights. -/
import Derived.Laws.BitsAllLaws
import Derived.Laws.Bits64
import Derived.Laws.BitsLemmas
import Derived.Test.YtgbjlcaanagfnaaPx0
import Derived.Test.YtgbjlcaanagfnaaPx1
import Derived.Test.YtgbjlcaanagfnaaPlantW
import Derived.Deep.QuietTactic
import Derived.BigQuiet
import Derived.WalkKit
namespace Go.Proofs.Ytgbjlcaanagfnaa.First

/-- The least i below n with p i; n if there is none. -/
def first (p : Nat → Bool) : Nat → Nat
 | 0 => 0
 | n + 1 => if first p n < n then first p n else if p n then n else n + 1

theorem first_spec (p : Nat → Bool) (n : Nat) : first p n ≤ n ∧ (∀ t, t < first p n → p t = false) ∧ (first p n < n → p (first p n) = true) := by
 induction n with
 | zero => exact ⟨Nat.le_refl _, fun t h => absurd h (Nat.not_lt_zero _), fun h => absurd h (Nat.not_lt_zero _)⟩
 | succ n ih =>
  obtain ⟨h1, h2, h3⟩ := ih
  unfold first
  by_cases c : first p n < n
  ·rw [if_pos c]; exact ⟨by omega, h2, fun _ => h3 c⟩
  ·rw [if_neg c]
   have e : first p n = n := by omega
   rw [e] at h2
   cases hp : p n with
   | true => rw [if_pos rfl]; exact ⟨by omega, h2, fun _ => hp⟩
   | false =>
    rw [if_neg (by simp)]
    refine ⟨Nat.le_refl _, fun t ht => ?_, fun h => absurd h (Nat.lt_irrefl _)⟩
    by_cases et : t = n
    ·rw [et]; exact hp
    ·exact h2 t (by omega)

theorem first_unique (p : Nat → Bool) (n r : Nat) (h1 : r ≤ n) (h2 : ∀ t, t < r → p t = false) (h3 : r < n → p r = true) : first p n = r := by
 obtain ⟨g1, g2, g3⟩ := first_spec p n
 rcases Nat.lt_trichotomy (first p n) r with h | h | h
 ·have := h2 _ h; rw [g3 (by omega)] at this; cases this
 ·exact h
 ·have := g2 _ h; rw [h3 (by omega)] at this; cases this

theorem first_congr {p q : Nat → Bool} {n : Nat} (h : ∀ i, i < n → p i = q i) : first p n = first q n := by
 obtain ⟨g1, g2, g3⟩ := first_spec q n
 exact first_unique p n _ g1 (fun t ht => by rw [h t (by omega)]; exact g2 t ht) (fun hr => by rw [h _ hr]; exact g3 hr)

end Go.Proofs.Ytgbjlcaanagfnaa.First

namespace Go.Proofs.Ytgbjlcaanagfnaa.Math

theorem div_unique {n d x : Int} (hd : 0 < d) (h1 : d * x ≤ n) (h2 : n < d * x + d) : n / d = x :=
 ((Int.ediv_emod_unique (r := n - d * x) hd).2 ⟨by omega, by omega, by omega⟩).1

theorem mod_unique {n d x r : Int} (hd : 0 < d) (h : n = d * x + r) (h0 : 0 ≤ r) (h1 : r < d) : n % d = r :=
 ((Int.ediv_emod_unique (q := x) hd).2 ⟨by omega, h0, h1⟩).2

/-- n / d, rounded: 0 down, 1 up, else to the nearest, halves to the even one; d is positive. -/
def rnd (n d m : Int) : Int :=
 if m = 0 then n / d else if m = 1 then -((-n) / d)
 else if 2 * (n % d) < d then n / d else if d < 2 * (n % d) then n / d + 1 else if n / d % 2 = 0 then n / d else n / d + 1

/-- What num.MulDiv and its reference answer. -/
def md (a b c m : Int) : Int × Int :=
 if a < -1125899906842624 ∨ 1125899906842624 < a ∨ b < -1125899906842624 ∨ 1125899906842624 < b ∨ c < -1125899906842624 ∨ 1125899906842624 < c then (0, 1)
 else if c = 0 then (0, 16)
 else if m < 0 ∨ 3 ≤ m then (0, 17)
 else if rnd (if c < 0 then -(a * b) else a * b) (if c < 0 then -c else c) m < -1125899906842624 ∨ 1125899906842624 < rnd (if c < 0 then -(a * b) else a * b) (if c < 0 then -c else c) m then (0, 2)
 else (rnd (if c < 0 then -(a * b) else a * b) (if c < 0 then -c else c) m, 0)

/-- The rounded quotient out of that of the absolute values. -/
theorem rnd_neg (p d m q r : Int) (hd : 0 < d) (h : p = d * q + r) (h0 : 0 ≤ r) (h1 : r < d) (hm : 0 ≤ m) (hm3 : m < 3) :
  rnd (-p) d m = -(if (m = 0 ∧ 0 < r) ∨ (m = 2 ∧ (d < 2 * r ∨ (2 * r = d ∧ q % 2 = 1))) then q + 1 else q) := by
 have e1 : d * -q = -(d * q) := by grind
 have e2 : d * (-q - 1) = -(d * q) - d := by grind
 unfold rnd
 by_cases hr : r = 0
 ·have hdiv : (-p) / d = -q := div_unique hd (by omega) (by omega)
  have hmod : (-p) % d = 0 := mod_unique (x := -q) hd (by omega) (by omega) hd
  have hpos : p / d = q := div_unique hd (by omega) (by omega)
  rw [Int.neg_neg, hdiv, hmod, hpos]
  subst hr
  split
  ·rw [if_neg (by omega)]
  ·split
   ·rw [if_neg (by omega)]
   ·rw [if_pos (by omega), if_neg (by omega)]
 ·have hdiv : (-p) / d = -q - 1 := div_unique hd (by omega) (by omega)
  have hmod : (-p) % d = d - r := mod_unique (x := -q - 1) hd (by omega) (by omega) (by omega)
  have hpos : p / d = q := div_unique hd (by omega) (by omega)
  rw [Int.neg_neg, hdiv, hmod, hpos]
  split
  ·rw [if_pos (by omega)]; omega
  ·split
   ·rw [if_neg (by omega)]
   ·have hm2 : m = 2 := by omega
    by_cases c1 : d < 2 * r
    ·rw [if_pos (by omega), if_pos (by omega)]; omega
    ·by_cases c2 : 2 * r = d
     ·by_cases c3 : q % 2 = 1
      ·rw [if_neg (by omega), if_neg (by omega), if_pos (by omega), if_pos (by omega)]; omega
      ·rw [if_neg (by omega), if_neg (by omega), if_neg (by omega), if_neg (by omega)]; omega
     ·rw [if_neg (by omega), if_pos (by omega), if_neg (by omega)]; omega

theorem rnd_pos (p d m q r : Int) (hd : 0 < d) (h : p = d * q + r) (h0 : 0 ≤ r) (h1 : r < d) (hm : 0 ≤ m) (hm3 : m < 3) :
  rnd p d m = (if (m = 1 ∧ 0 < r) ∨ (m = 2 ∧ (d < 2 * r ∨ (2 * r = d ∧ q % 2 = 1))) then q + 1 else q) := by
 have e1 : d * -q = -(d * q) := by grind
 have e2 : d * (-q - 1) = -(d * q) - d := by grind
 have hdiv : p / d = q := div_unique hd (by omega) (by omega)
 have hmod : p % d = r := mod_unique hd h h0 h1
 unfold rnd
 rw [hdiv, hmod]
 split
 ·rw [if_neg (by omega)]
 ·split
  ·by_cases hr : r = 0
   ·have : (-p) / d = -q := div_unique hd (by omega) (by omega)
    rw [this, if_neg (by omega)]; omega
   ·have : (-p) / d = -q - 1 := div_unique hd (by omega) (by omega)
    rw [this, if_pos (by omega)]; omega
  ·have hm2 : m = 2 := by omega
   by_cases c1 : d < 2 * r
   ·rw [if_neg (by omega), if_pos c1, if_pos (by omega)]
   ·by_cases c2 : 2 * r = d
    ·by_cases c3 : q % 2 = 1
     ·rw [if_neg (by omega), if_neg c1, if_neg (by omega), if_pos (by omega)]
     ·rw [if_neg (by omega), if_neg c1, if_pos (by omega), if_neg (by omega)]
    ·rw [if_pos (by omega), if_neg (by omega)]

/-! ### A product of two words -/
theorem prod_parts (a1 a0 b1 b0 : Int) : (a1 * 4294967296 + a0) * (b1 * 4294967296 + b0) = (a1 * b1) * 18446744073709551616 + (a1 * b0 + a0 * b1) * 4294967296 + a0 * b0 := by grind

theorem mul_le {x y X Y : Int} (hx : 0 ≤ x) (hX : x ≤ X) (hy : 0 ≤ y) (hY : y ≤ Y) : x * y ≤ X * Y :=
 Int.le_trans (Int.mul_le_mul_of_nonneg_right hX hy) (Int.mul_le_mul_of_nonneg_left hY (by omega))

/-- The product's two words, for factors up to 2^50. -/
theorem prod_words (a b : Int) :
  (a / 4294967296 * (b / 4294967296) + (a / 4294967296 * (b % 4294967296) + a % 4294967296 * (b % 4294967296) / 4294967296) / 4294967296 + (a % 4294967296 * (b / 4294967296) + (a / 4294967296 * (b % 4294967296) + a % 4294967296 * (b % 4294967296) / 4294967296) % 4294967296) / 4294967296) * 18446744073709551616
   + ((a % 4294967296 * (b / 4294967296) + (a / 4294967296 * (b % 4294967296) + a % 4294967296 * (b % 4294967296) / 4294967296) % 4294967296) % 4294967296 * 4294967296 + a % 4294967296 * (b % 4294967296) % 4294967296) = a * b := by
 have h := prod_parts (a / 4294967296) (a % 4294967296) (b / 4294967296) (b % 4294967296)
 rw [show a / 4294967296 * 4294967296 + a % 4294967296 = a from by omega, show b / 4294967296 * 4294967296 + b % 4294967296 = b from by omega] at h
 rw [h]
 generalize a / 4294967296 * (b / 4294967296) = t11
 generalize a / 4294967296 * (b % 4294967296) = t10
 generalize a % 4294967296 * (b / 4294967296) = t01
 generalize a % 4294967296 * (b % 4294967296) = t00
 omega

/-! ### Long division, bit by bit -/
/-- One more bit: quotient and remainder of 2 x + b out of those of x. -/
theorem step_divmod {x c b : Nat} (hc : 0 < c) (hb : b ≤ 1) :
  (2 * x + b) / c = (if c ≤ 2 * (x % c) + b then 2 * (x / c) + 1 else 2 * (x / c)) ∧
  (2 * x + b) % c = (if c ≤ 2 * (x % c) + b then 2 * (x % c) + b - c else 2 * (x % c) + b) := by
 have hx := Nat.div_add_mod x c
 have hr := Nat.mod_lt x hc
 generalize x / c = q at *
 generalize x % c = r at *
 have e1 : c * (2 * q + 1) = 2 * (c * q) + c := by grind
 have e2 : c * (2 * q) = 2 * (c * q) := by grind
 split
 ·refine (Nat.div_mod_unique hc).2 ⟨?_, ?_⟩ <;> omega
 ·refine (Nat.div_mod_unique hc).2 ⟨?_, ?_⟩ <;> omega

theorem pre_succ (P i : Nat) (hi : i < 128) : P / 2 ^ (128 - (i + 1)) = 2 * (P / 2 ^ (128 - i)) + P / 2 ^ (127 - i) % 2 := by
 have e : 128 - i = (127 - i) + 1 := by omega
 rw [show 128 - (i + 1) = 127 - i from by omega, e, Nat.pow_succ, ← Nat.div_div_eq_div_mul]
 omega

theorem bit_high (hi lo i : Nat) (hl : lo < 18446744073709551616) (h : i < 64) : (hi * 18446744073709551616 + lo) / 2 ^ (127 - i) = hi / 2 ^ (63 - i) := by
 have e : (2 : Nat) ^ (127 - i) = 18446744073709551616 * 2 ^ (63 - i) := by
  rw [show 127 - i = 64 + (63 - i) from by omega, Nat.pow_add]
 rw [e, ← Nat.div_div_eq_div_mul]
 congr 1
 omega

theorem bit_low (hi lo i : Nat) (h : 64 ≤ i) (h' : i < 128) : (hi * 18446744073709551616 + lo) / 2 ^ (127 - i) % 2 = lo / 2 ^ (127 - i) % 2 := by
 have e : hi * 18446744073709551616 = 2 ^ (127 - i) * (hi * 2 ^ (i - 64) * 2) := by
  have : (18446744073709551616 : Nat) = 2 ^ (127 - i) * 2 ^ (i - 64) * 2 := by
   rw [← Nat.pow_add, ← Nat.pow_succ, show (127 - i + (i - 64)).succ = 64 from by omega]
  rw [this]; grind
 rw [e, Nat.mul_add_div (Nat.two_pow_pos _)]
 omega

end Go.Proofs.Ytgbjlcaanagfnaa.Math

namespace Go.Proofs.Ytgbjlcaanagfnaa.Math

theorem and_mask32 (x : Int) (h0 : 0 ≤ x) (h1 : x < 18446744073709551616) : bits .and .u64 x 4294967295 = x % 4294967296 := by
 rw [u64_and x _ h0 h1 (by omega) (by omega)]
 show ((x.toNat &&& 4294967295 : Nat) : Int) = _
 have : x.toNat &&& 4294967295 = x.toNat % 4294967296 := Nat.and_two_pow_sub_one_eq_mod x.toNat 32
 rw [this]; omega

theorem and_one (x : Int) (h0 : 0 ≤ x) (h1 : x < 18446744073709551616) : bits .and .u64 x 1 = x % 2 := by
 rw [u64_and x _ h0 h1 (by omega) (by omega)]
 show ((x.toNat &&& 1 : Nat) : Int) = _
 have : x.toNat &&& 1 = x.toNat % 2 := Nat.and_two_pow_sub_one_eq_mod x.toNat 1
 rw [this]; omega

theorem or_join32 (y z : Int) (h0 : 0 ≤ y) (h1 : y < 18446744073709551616) (hy : y % 4294967296 = 0) (h2 : 0 ≤ z) (h3 : z < 4294967296) : bits .or .u64 y z = y + z := by
 rw [u64_or y z h0 h1 h2 (by omega)]
 have : y.toNat ||| z.toNat = y.toNat + z.toNat := nat_join 32 _ _ (by show y.toNat % 4294967296 = 0; omega) (by show z.toNat < 4294967296; omega)
 rw [this]; omega

theorem or_one (y z : Int) (h0 : 0 ≤ y) (h1 : y < 18446744073709551616) (hy : y % 2 = 0) (h2 : 0 ≤ z) (h3 : z < 2) : bits .or .u64 y z = y + z := by
 rw [u64_or y z h0 h1 h2 (by omega)]
 have : y.toNat ||| z.toNat = y.toNat + z.toNat := nat_join 1 _ _ (by show y.toNat % 2 = 0; omega) (by show z.toNat < 2; omega)
 rw [this]; omega

def pLow (a b : Int) : Int := IntKind.u64.wrap (bits .and .u64 a 4294967295 * bits .and .u64 b 4294967295)
def pMid (a b : Int) : Int := IntKind.u64.wrap (IntKind.u64.wrap (a / 4294967296 * bits .and .u64 b 4294967295) + IntKind.u64.wrap (bits .and .u64 a 4294967295 * bits .and .u64 b 4294967295) / 4294967296)
def pMore (a b : Int) : Int := IntKind.u64.wrap (IntKind.u64.wrap (bits .and .u64 a 4294967295 * (b / 4294967296)) + bits .and .u64 (pMid a b) 4294967295)
def pHi (a b : Int) : Int := IntKind.u64.wrap (IntKind.u64.wrap (IntKind.u64.wrap (a / 4294967296 * (b / 4294967296)) + pMid a b / 4294967296) + pMore a b / 4294967296)
def pLo (a b : Int) : Int := bits .or .u64 (IntKind.u64.wrap (pMore a b * 4294967296)) (bits .and .u64 (pLow a b) 4294967295)

theorem p_words (a b : Int) (ha : 0 ≤ a) (ha' : a ≤ 1125899906842624) (hb : 0 ≤ b) (hb' : b ≤ 1125899906842624) :
  pHi a b * 18446744073709551616 + pLo a b = a * b ∧ 0 ≤ pHi a b ∧ pHi a b < 18446744073709551616 ∧ 0 ≤ pLo a b ∧ pLo a b < 18446744073709551616 := by
 have e := prod_words a b
 have b11 := mul_le (x := a / 4294967296) (y := b / 4294967296) (X := 262144) (Y := 262144) (by omega) (by omega) (by omega) (by omega)
 have b10 := mul_le (x := a / 4294967296) (y := b % 4294967296) (X := 262144) (Y := 4294967295) (by omega) (by omega) (by omega) (by omega)
 have b01 := mul_le (x := a % 4294967296) (y := b / 4294967296) (X := 4294967295) (Y := 262144) (by omega) (by omega) (by omega) (by omega)
 have b00 := mul_le (x := a % 4294967296) (y := b % 4294967296) (X := 4294967295) (Y := 4294967295) (by omega) (by omega) (by omega) (by omega)
 have c11 : 0 ≤ a / 4294967296 * (b / 4294967296) := Int.mul_nonneg (by omega) (by omega)
 have c10 : 0 ≤ a / 4294967296 * (b % 4294967296) := Int.mul_nonneg (by omega) (by omega)
 have c01 : 0 ≤ a % 4294967296 * (b / 4294967296) := Int.mul_nonneg (by omega) (by omega)
 have c00 : 0 ≤ a % 4294967296 * (b % 4294967296) := Int.mul_nonneg (by omega) (by omega)
 have ea : bits .and .u64 a 4294967295 = a % 4294967296 := and_mask32 a ha (by omega)
 have eb : bits .and .u64 b 4294967295 = b % 4294967296 := and_mask32 b hb (by omega)
 have elow : pLow a b = a % 4294967296 * (b % 4294967296) := by unfold pLow; rw [ea, eb, IntKind.wrap_u64]; omega
 have emid : pMid a b = a / 4294967296 * (b % 4294967296) + a % 4294967296 * (b % 4294967296) / 4294967296 := by
  unfold pMid; rw [ea, eb]; simp only [IntKind.wrap_u64]; omega
 have emore : pMore a b = a % 4294967296 * (b / 4294967296) + (a / 4294967296 * (b % 4294967296) + a % 4294967296 * (b % 4294967296) / 4294967296) % 4294967296 := by
  unfold pMore; rw [ea, emid, and_mask32 _ (by omega) (by omega)]; simp only [IntKind.wrap_u64]; omega
 have ehi : pHi a b = a / 4294967296 * (b / 4294967296) + (a / 4294967296 * (b % 4294967296) + a % 4294967296 * (b % 4294967296) / 4294967296) / 4294967296 + pMore a b / 4294967296 := by
  unfold pHi; rw [emid, emore]; simp only [IntKind.wrap_u64]; omega
 have elo : pLo a b = pMore a b % 4294967296 * 4294967296 + a % 4294967296 * (b % 4294967296) % 4294967296 := by
  unfold pLo
  rw [elow, and_mask32 _ (by omega) (by omega), or_join32 _ _ (by rw [IntKind.wrap_u64]; omega) (by rw [IntKind.wrap_u64]; omega) (by rw [IntKind.wrap_u64]; omega) (by omega) (by omega), IntKind.wrap_u64]
  omega
 rw [ehi, elo, emore]
 refine ⟨e, ?_⟩
 generalize a / 4294967296 * (b / 4294967296) = t11 at *
 generalize a / 4294967296 * (b % 4294967296) = t10 at *
 generalize a % 4294967296 * (b / 4294967296) = t01 at *
 generalize a % 4294967296 * (b % 4294967296) = t00 at *
 omega
end Go.Proofs.Ytgbjlcaanagfnaa.Math

namespace Go.Proofs.Ytgbjlcaanagfnaa.P
open Go.RowKit Go.Proofs.YtgbjlcaanagfnaaW.PrintWords Go.Proofs.YtgbjlcaanagfnaaW.PrintLast Go.Proofs.YtgbjlcaanagfnaaW.PrintMore Go.Proofs.Ytgbjlcaanagfnaa.Math
set_option linter.unusedVariables false

def num_product.f (a0 a1 : Int) : Option (Int × Int) :=
 if 0 ≤ a0 ∧ a0 ≤ 1125899906842624 ∧ 0 ≤ a1 ∧ a1 ≤ 1125899906842624 then some (pHi a0 a1, pLo a0 a1) else none

set_option maxHeartbeats 1000000 in
theorem num_product.calls (a0 a1 r1 r2 : Int) (w : World) (h : num_product.f a0 a1 = some (r1, r2)) :
  Calls Try.prog 61 #[.int .u64 a0, .int .u64 a1] w fun e w' => e = .returned (.agg #[.int .u64 r1, .int .u64 r2]) ∧ Below w.heap.size w w' := by
 unfold num_product.f at h
 split at h
 ·rename_i hc
  obtain ⟨ha, ha', hb, hb'⟩ := hc
  obtain ⟨rfl, rfl⟩ := Prod.mk.inj (Option.some.inj h)
  clear h
  go_enter Try.func61, Try.ntmps61
  go_wp2
  exact bodyPost_ret (v := .agg #[.int .u64 (pHi a0 a1), .int .u64 (pLo a0 a1)]) (by simp [results, Try.results61, go_sem]; exact ⟨rfl, rfl⟩) rfl ⟨rfl, below_alloc (Below.refl _ _) _⟩
 ·cases h
end Go.Proofs.Ytgbjlcaanagfnaa.P

namespace Go.Proofs.Ytgbjlcaanagfnaa.P
open Go.RowKit Go.Proofs.YtgbjlcaanagfnaaW.PrintWords Go.Proofs.YtgbjlcaanagfnaaW.PrintLast Go.Proofs.YtgbjlcaanagfnaaW.PrintMore Go.Proofs.Ytgbjlcaanagfnaa.Math
set_option linter.unusedVariables false

def dQ (P c : Nat) : Int := if P / c < 4611686018427387904 then ((P / c : Nat) : Int) else 0
def dR (P c : Nat) : Int := if P / c < 4611686018427387904 then ((P % c : Nat) : Int) else 0
def dB (P c : Nat) : Bool := decide (P / c < 4611686018427387904)

theorem or_bit (r W j : Nat) (hr : r < 1125899906842624) (hW : W < 18446744073709551616) :
  bits .or .u64 ((r : Int) * 2) (bits .and .u64 ((W : Int) / 2 ^ j) 1) = ((2 * r + W / 2 ^ j % 2 : Nat) : Int) := by
 have e : (W : Int) / 2 ^ j = ((W / 2 ^ j : Nat) : Int) := by rw [Int.natCast_ediv, Int.natCast_pow]; rfl
 have hle : W / 2 ^ j ≤ W := Nat.div_le_self _ _
 rw [e]
 generalize W / 2 ^ j = v at *
 rw [and_one _ (by omega) (by omega), or_one _ _ (by omega) (by omega) (by omega) (by omega) (by omega)]
 omega

/-- The next bit of the dividend, out of its word. -/
theorem next_bit (x y i : Nat) (hy : y < 18446744073709551616) (hi : i < 128) :
  (if i < 64 then x else y) / 2 ^ (63 - i % 64) % 2 = (x * 18446744073709551616 + y) / 2 ^ (127 - i) % 2 := by
 by_cases h : i < 64
 ·rw [if_pos h, show i % 64 = i from Nat.mod_eq_of_lt h, bit_high x y i hy h]
 ·rw [if_neg h, bit_low x y i (by omega) hi, show 63 - i % 64 = 127 - i from by omega]

theorem round_more (P c i q r b : Nat) (hc : 0 < c) (hi : i < 128) (hq : q = P / 2 ^ (128 - i) / c) (hr : r = P / 2 ^ (128 - i) % c) (hb : b = P / 2 ^ (127 - i) % 2) (h : c ≤ 2 * r + b) :
  2 * q + 1 = P / 2 ^ (128 - (i + 1)) / c ∧ 2 * r + b - c = P / 2 ^ (128 - (i + 1)) % c := by
 obtain ⟨h1, h2⟩ := step_divmod (x := P / 2 ^ (128 - i)) (c := c) (b := b) hc (by omega)
 rw [pre_succ P i hi, ← hb, h1, h2, ← hq, ← hr, if_pos h, if_pos h]
 exact ⟨rfl, rfl⟩
theorem round_same (P c i q r b : Nat) (hc : 0 < c) (hi : i < 128) (hq : q = P / 2 ^ (128 - i) / c) (hr : r = P / 2 ^ (128 - i) % c) (hb : b = P / 2 ^ (127 - i) % 2) (h : ¬ c ≤ 2 * r + b) :
  2 * q = P / 2 ^ (128 - (i + 1)) / c ∧ 2 * r + b = P / 2 ^ (128 - (i + 1)) % c := by
 obtain ⟨h1, h2⟩ := step_divmod (x := P / 2 ^ (128 - i)) (c := c) (b := b) hc (by omega)
 rw [pre_succ P i hi, ← hb, h1, h2, ← hq, ← hr, if_neg h, if_neg h]
 exact ⟨rfl, rfl⟩

theorem too_long (P c i q : Nat) (hi : i < 128) (hq : q = P / 2 ^ (128 - i) / c) (h : ¬ q < 2305843009213693952) : ¬ P / c < 4611686018427387904 := by
 have h1 : P / 2 ^ (128 - i) ≤ P / 2 := by
  rw [show 128 - i = (127 - i) + 1 from by omega, Nat.pow_succ, Nat.mul_comm, ← Nat.div_div_eq_div_mul]
  exact Nat.div_le_self _ _
 have h2 : P / 2 ^ (128 - i) / c ≤ P / 2 / c := Nat.div_le_div_right h1
 have h3 : P / 2 / c = P / c / 2 := by rw [Nat.div_div_eq_div_mul, Nat.mul_comm, ← Nat.div_div_eq_div_mul]
 rw [h3] at h2
 omega

theorem int_of {a b : Int} {k : IntKind} (h : a = b) : Value.int k a = Value.int k b := by rw [h]

set_option maxHeartbeats 1000000 in
set_option maxRecDepth 100000 in
theorem divide_calls (x y c : Nat) (w : World) (hx : x < 18446744073709551616) (hy : y < 18446744073709551616) (hc : 0 < c) (hc' : c ≤ 1125899906842624) :
  Calls Try.prog 63 #[.agg #[.int .u64 x, .int .u64 y], .int .u64 c] w fun e w' => e = .returned (.tuple #[.int .u64 (dQ (x * 18446744073709551616 + y) c), .int .u64 (dR (x * 18446744073709551616 + y) c), .bool (dB (x * 18446744073709551616 + y) c)]) ∧ Below w.heap.size w w' := by
 have NB := fun i (hi : i < 128) => next_bit x y i hy hi
 have HNB := Aside0.mk NB
 clear NB
 have HP0 : Aside0 (x * 18446744073709551616 + y < 2 ^ 128) := ⟨by omega⟩
 go_enter Try.func63, Try.ntmps63
 go_wp2
 go_loopg [7, 8, 12] 128 (fun kq v7 v8 v12 w' => ∃ (i q r : Nat), v7 = .int .u64 q ∧ v8 = .int .u64 r ∧ v12 = .int .i64 i ∧ i + kq = 128 ∧ Aside0 (q = (x * 18446744073709551616 + y) / 2 ^ (128 - i) / c ∧ r = (x * 18446744073709551616 + y) / 2 ^ (128 - i) % c) ∧ r < c ∧ q < 4611686018427387904 ∧ Drawn0 (w.alloc (.cells #[.int .u64 x, .int .u64 y] 95)) w')
 case atStart =>
  refine ⟨0, 0, 0, rfl, rfl, rfl, rfl, ⟨?_⟩, hc, by omega, Drawn0.refl _⟩
  rw [show (x * 18446744073709551616 + y) / 2 ^ (128 - 0) = 0 from Nat.div_eq_of_lt HP0.out]
  exact ⟨by simp, by simp⟩
 case round =>
  obtain ⟨i, q, r, rfl, rfl, rfl, hi, HS, hr, hq, ⟨m1, rfl⟩⟩ := hrel
  by_cases hlt : i < 128
  ·by_cases h64 : i < 64
   ·have e0 : (i : Int) / 64 = 0 := by omega
    have hb0 := HNB.out i hlt
    rw [if_pos h64] at hb0
    have HB0 := Aside0.mk hb0
    clear hb0
    by_cases hb : q < 2305843009213693952
    ·go_wp2
     ·have ht : (c : Int) ≤ bits .or .u64 ((r : Int) * 2) (bits .and .u64 ((x : Int) / 2 ^ (63 - i % 64)) 1) := by assumption
      rw [or_bit r x _ (by omega) hx] at ht ⊢
      obtain ⟨g1, g2⟩ := round_more _ c i q r _ hc hlt HS.out.1 HS.out.2 HB0.out (by omega)
      go_roundg (128 - (i + 1))
      case measure => omega
      case rel => exact ⟨i + 1, 2 * q + 1, 2 * r + x / 2 ^ (63 - i % 64) % 2 - c, int_of (by rw [or_one _ _ (by omega) (by omega) (by omega) (by omega) (by omega)]; omega), int_of (by rw [IntKind.wrap_u64]; omega), int_of (by omega), by omega, ⟨g1, g2⟩, by omega, by omega, ⟨⟨m1, rfl⟩⟩⟩
     ·have ht : bits .or .u64 ((r : Int) * 2) (bits .and .u64 ((x : Int) / 2 ^ (63 - i % 64)) 1) < (c : Int) := by assumption
      rw [or_bit r x _ (by omega) hx] at ht ⊢
      obtain ⟨g1, g2⟩ := round_same _ c i q r _ hc hlt HS.out.1 HS.out.2 HB0.out (by omega)
      go_roundg (128 - (i + 1))
      case measure => omega
      case rel => exact ⟨i + 1, 2 * q, 2 * r + x / 2 ^ (63 - i % 64) % 2, int_of (by omega), rfl, int_of (by omega), by omega, ⟨g1, g2⟩, by omega, by omega, ⟨⟨m1, rfl⟩⟩⟩
    ·have HL := too_long _ c i q hlt HS.out.1 hb
     have H1 : Aside0 (dQ (x * 18446744073709551616 + y) c = 0 ∧ dR (x * 18446744073709551616 + y) c = 0 ∧ dB (x * 18446744073709551616 + y) c = false) := ⟨by unfold dQ dR dB; rw [if_neg HL, if_neg HL]; exact ⟨rfl, rfl, decide_eq_false HL⟩⟩
     clear HL
     have hb1 : ((q : Int) / 2305843009213693952 != 0) = true := by rw [bne_iff_ne]; omega
     go_wp2
     refine bodyPost_ret (results_tmp3 rfl _ _ _) rfl ?_
     exact ⟨by rw [H1.out.1, H1.out.2.1, H1.out.2.2]; rfl, pw_below_drewN (below_alloc (Below.refl _ _) _) _⟩
   ·have e0 : (i : Int) / 64 = 1 := by omega
    have hb0 := HNB.out i hlt
    rw [if_neg h64] at hb0
    have HB0 := Aside0.mk hb0
    clear hb0
    by_cases hb : q < 2305843009213693952
    ·go_wp2
     ·have ht : (c : Int) ≤ bits .or .u64 ((r : Int) * 2) (bits .and .u64 ((y : Int) / 2 ^ (63 - i % 64)) 1) := by assumption
      rw [or_bit r y _ (by omega) hy] at ht ⊢
      obtain ⟨g1, g2⟩ := round_more _ c i q r _ hc hlt HS.out.1 HS.out.2 HB0.out (by omega)
      go_roundg (128 - (i + 1))
      case measure => omega
      case rel => exact ⟨i + 1, 2 * q + 1, 2 * r + y / 2 ^ (63 - i % 64) % 2 - c, int_of (by rw [or_one _ _ (by omega) (by omega) (by omega) (by omega) (by omega)]; omega), int_of (by rw [IntKind.wrap_u64]; omega), int_of (by omega), by omega, ⟨g1, g2⟩, by omega, by omega, ⟨⟨m1, rfl⟩⟩⟩
     ·have ht : bits .or .u64 ((r : Int) * 2) (bits .and .u64 ((y : Int) / 2 ^ (63 - i % 64)) 1) < (c : Int) := by assumption
      rw [or_bit r y _ (by omega) hy] at ht ⊢
      obtain ⟨g1, g2⟩ := round_same _ c i q r _ hc hlt HS.out.1 HS.out.2 HB0.out (by omega)
      go_roundg (128 - (i + 1))
      case measure => omega
      case rel => exact ⟨i + 1, 2 * q, 2 * r + y / 2 ^ (63 - i % 64) % 2, int_of (by omega), rfl, int_of (by omega), by omega, ⟨g1, g2⟩, by omega, by omega, ⟨⟨m1, rfl⟩⟩⟩
    ·have HL := too_long _ c i q hlt HS.out.1 hb
     have H1 : Aside0 (dQ (x * 18446744073709551616 + y) c = 0 ∧ dR (x * 18446744073709551616 + y) c = 0 ∧ dB (x * 18446744073709551616 + y) c = false) := ⟨by unfold dQ dR dB; rw [if_neg HL, if_neg HL]; exact ⟨rfl, rfl, decide_eq_false HL⟩⟩
     clear HL
     have hb1 : ((q : Int) / 2305843009213693952 != 0) = true := by rw [bne_iff_ne]; omega
     go_wp2
     refine bodyPost_ret (results_tmp3 rfl _ _ _) rfl ?_
     exact ⟨by rw [H1.out.1, H1.out.2.1, H1.out.2.2]; rfl, pw_below_drewN (below_alloc (Below.refl _ _) _) _⟩
  ·have h128 : i = 128 := by omega
   have hq1 := HS.out.1
   have hr1 := HS.out.2
   rw [h128, show 128 - 128 = 0 from rfl, Nat.pow_zero, Nat.div_one] at hq1 hr1
   have H1 : Aside0 (dQ (x * 18446744073709551616 + y) c = q ∧ dR (x * 18446744073709551616 + y) c = r ∧ dB (x * 18446744073709551616 + y) c = true) := ⟨by unfold dQ dR dB; rw [← hq1, ← hr1, if_pos hq, if_pos hq]; exact ⟨rfl, rfl, decide_eq_true hq⟩⟩
   clear hq1 hr1 h128
   go_wp2
   refine bodyPost_ret (results_tmp3 rfl _ _ _) rfl ?_
   exact ⟨by rw [H1.out.1, H1.out.2.1, H1.out.2.2]; rfl, pw_below_drewN (below_alloc (Below.refl _ _) _) _⟩

def num_wide_divide.f (a0_0 a0_1 a1 : Int) : Option (Int × Int × Bool) :=
 if 0 ≤ a0_0 ∧ a0_0 < 18446744073709551616 ∧ 0 ≤ a0_1 ∧ a0_1 < 18446744073709551616 ∧ 0 < a1 ∧ a1 ≤ 1125899906842624 then
  some (dQ (a0_0.toNat * 18446744073709551616 + a0_1.toNat) a1.toNat, dR (a0_0.toNat * 18446744073709551616 + a0_1.toNat) a1.toNat, dB (a0_0.toNat * 18446744073709551616 + a0_1.toNat) a1.toNat) else none

theorem num_wide_divide.calls (a0_0 a0_1 a1 r1 r2 : Int) (r3 : Bool) (w : World) (h : num_wide_divide.f a0_0 a0_1 a1 = some (r1, r2, r3)) :
  Calls Try.prog 63 #[.agg #[.int .u64 a0_0, .int .u64 a0_1], .int .u64 a1] w fun e w' => e = .returned (.tuple #[.int .u64 r1, .int .u64 r2, .bool r3]) ∧ Below w.heap.size w w' := by
 unfold num_wide_divide.f at h
 split at h
 ·rename_i hc
  obtain ⟨h1, h2, h3, h4, h5, h6⟩ := hc
  obtain ⟨rfl, g⟩ := Prod.mk.inj (Option.some.inj h)
  obtain ⟨rfl, rfl⟩ := Prod.mk.inj g
  clear h g
  obtain ⟨x, rfl⟩ := Int.eq_ofNat_of_zero_le h1
  obtain ⟨y, rfl⟩ := Int.eq_ofNat_of_zero_le h3
  obtain ⟨c, rfl⟩ := Int.eq_ofNat_of_zero_le (Int.le_of_lt h5)
  simp only [Int.toNat_natCast]
  exact divide_calls x y c w (by omega) (by omega) (by omega) (by omega)
 ·cases h
end Go.Proofs.Ytgbjlcaanagfnaa.P

namespace Go.Proofs.Ytgbjlcaanagfnaa.P
open Go.RowKit Go.Proofs.YtgbjlcaanagfnaaW.PrintWords Go.Proofs.YtgbjlcaanagfnaaW.PrintLast Go.Proofs.Ytgbjlcaanagfnaa.Math
set_option linter.unusedVariables false

/-- In range. -/
def inR (x : Int) : Bool := decide (-1125899906842624 ≤ x ∧ x ≤ 1125899906842624)

theorem wrap64_id {x : Int} (h0 : -9223372036854775808 ≤ x) (h1 : x ≤ 9223372036854775807) : wrap64 x = x := by unfold wrap64; omega

theorem num_in_l0 (l : List Int) (hl : l.length < 9223372036854775807) (d : Nat) : ∀ (k : Nat) (i : Nat), l.length - i = d → i ≤ l.length → d < k →
  num_in.l0 k l (l.length : Int) i = some ((l.drop i).all inR) := by
 induction d with
 | zero =>
  intro k i hd hi hk
  obtain ⟨k, rfl⟩ : ∃ m, k = m + 1 := ⟨k - 1, by omega⟩
  simp only [num_in.l0]
  rw [if_neg (by omega), List.drop_of_length_le (by omega)]; rfl
 | succ d ih =>
  intro k i hd hi hk
  obtain ⟨k, rfl⟩ : ∃ m, k = m + 1 := ⟨k - 1, by omega⟩
  simp only [num_in.l0]
  have hlt : i < l.length := by omega
  rw [if_pos (by omega), if_pos (by omega), if_pos (by omega)]
  have e : rd l (i : Int) = l[i] := by simp [rd, hlt]
  rw [e, List.drop_eq_getElem_cons hlt, List.all_cons]
  have hr : inR l[i] = decide (-1125899906842624 ≤ l[i] ∧ l[i] ≤ 1125899906842624) := rfl
  by_cases h1 : l[i] < -1125899906842624
  ·rw [if_pos h1, hr, decide_eq_false (by omega)]; rfl
  ·rw [if_neg h1]
   by_cases h2 : l[i] > 1125899906842624
   ·rw [if_pos h2, hr, decide_eq_false (by omega)]; rfl
   ·rw [if_neg h2, hr, decide_eq_true (by omega), wrap64_id (by omega) (by omega)]
    have := ih k (i + 1) (by omega) (by omega) (by omega)
    rw [show ((i + 1 : Nat) : Int) = (i : Int) + 1 from by omega] at this
    rw [this]; rfl

theorem num_in_eq (l : List Int) (hl : l.length < 9223372036854775807) (k : Nat) (hk : l.length < k) : num_in.f k l = some (l.all inR) := by
 unfold num_in.f
 have := num_in_l0 l hl l.length k 0 (by omega) (by omega) hk
 simpa using this

theorem num_size_eq (a : Int) (h0 : -1125899906842624 ≤ a) (h1 : a ≤ 1125899906842624) : num_size.f a = some (if a < 0 then -a else a) := by
 unfold num_size.f
 split
 ·rw [wrap64_id (by omega) (by omega), IntKind.wrap_u64]; congr 1; omega
 ·rw [IntKind.wrap_u64]; congr 1; omega

theorem num_product_eq (a b : Int) (ha : 0 ≤ a) (ha' : a ≤ 1125899906842624) (hb : 0 ≤ b) (hb' : b ≤ 1125899906842624) : num_product.f a b = some (pHi a b, pLo a b) := by
 unfold num_product.f; rw [if_pos ⟨ha, ha', hb, hb'⟩]

theorem num_wide_divide_eq (a b c : Int) (ha : 0 ≤ a) (ha' : a ≤ 1125899906842624) (hb : 0 ≤ b) (hb' : b ≤ 1125899906842624) (hc : 0 < c) (hc' : c ≤ 1125899906842624) :
  num_wide_divide.f (pHi a b) (pLo a b) c = some (dQ (a * b).toNat c.toNat, dR (a * b).toNat c.toNat, dB (a * b).toNat c.toNat) := by
 obtain ⟨h, h1, h2, h3, h4⟩ := p_words a b ha ha' hb hb'
 unfold num_wide_divide.f
 rw [if_pos ⟨h1, h2, h3, h4, hc, hc'⟩]
 have e : (pHi a b).toNat * 18446744073709551616 + (pLo a b).toNat = (a * b).toNat := by rw [← h]; omega
 rw [e]

/-- Do the results of the parts, rounded, come to what MulDiv answers? -/
theorem md_abs (a b c m q r : Int) (ha : -1125899906842624 ≤ a ∧ a ≤ 1125899906842624) (hb : -1125899906842624 ≤ b ∧ b ≤ 1125899906842624) (hc : -1125899906842624 ≤ c ∧ c ≤ 1125899906842624) (hc0 : c ≠ 0) (hm : 0 ≤ m) (hm3 : m < 3)
  (h : (if a < 0 then -a else a) * (if b < 0 then -b else b) = (if c < 0 then -c else c) * q + r) (h0 : 0 ≤ r) (h1 : r < (if c < 0 then -c else c)) (hq : 0 ≤ q) (N G : Bool)
  (hN : N = ((decide (a < 0) != decide (b < 0)) != decide (c < 0)))
  (hG : G = (if m = 0 then N && decide (0 < r) else if m = 1 then !N && decide (0 < r) else decide ((if c < 0 then -c else c) < 2 * r) || (decide (2 * r = (if c < 0 then -c else c)) && decide (q % 2 = 1)))) :
  md a b c m = if 1125899906842624 < (if G = true then q + 1 else q) then (0, 2) else (if N = true then -(if G = true then q + 1 else q) else (if G = true then q + 1 else q), 0) := by
 have hd : 0 < (if c < 0 then -c else c) := by split <;> omega
 have key : rnd (if c < 0 then -(a * b) else a * b) (if c < 0 then -c else c) m = if N = true then -(if G = true then q + 1 else q) else (if G = true then q + 1 else q) := by
  have hn : (if c < 0 then -(a * b) else a * b) = if N = true then -((if a < 0 then -a else a) * (if b < 0 then -b else b)) else (if a < 0 then -a else a) * (if b < 0 then -b else b) := by
   rw [hN]
   by_cases c0 : a < 0 <;> by_cases c1 : b < 0 <;> by_cases c2 : c < 0 <;> simp [c0, c1, c2, Int.neg_mul, Int.mul_neg]
  rw [hn]
  generalize (if c < 0 then -c else c) = d at *
  generalize (if a < 0 then -a else a) * (if b < 0 then -b else b) = p at *
  cases N with
  | true =>
   rw [if_pos rfl, if_pos rfl, rnd_neg p d m q r hd h h0 h1 hm hm3]
   have e : ((m = 0 ∧ 0 < r) ∨ (m = 2 ∧ (d < 2 * r ∨ (2 * r = d ∧ q % 2 = 1)))) ↔ G = true := by
    rw [hG]
    by_cases m0 : m = 0
    ·simp [m0]
    ·by_cases m1 : m = 1
     ·simp [m1]
     ·have : m = 2 := by omega
      simp [this]
   simp only [e]
  | false =>
   rw [if_neg (by simp), if_neg (by simp), rnd_pos p d m q r hd h h0 h1 hm hm3]
   have e : ((m = 1 ∧ 0 < r) ∨ (m = 2 ∧ (d < 2 * r ∨ (2 * r = d ∧ q % 2 = 1)))) ↔ G = true := by
    rw [hG]
    by_cases m0 : m = 0
    ·simp [m0]
    ·by_cases m1 : m = 1
     ·simp [m1]
     ·have : m = 2 := by omega
      simp [this]
   simp only [e]
 unfold md
 rw [if_neg (by omega), if_neg hc0, if_neg (by omega), key]
 have hg : 0 ≤ (if G = true then q + 1 else q) := by split <;> omega
 generalize (if G = true then q + 1 else q) = x at *
 cases N with
 | true =>
  rw [if_pos rfl]
  by_cases hx : 1125899906842624 < x
  ·rw [if_pos hx, if_pos (by omega)]
  ·rw [if_neg hx, if_neg (by omega)]
 | false =>
  rw [if_neg (show ¬ (false = true) from by simp)]
  by_cases hx : 1125899906842624 < x
  ·rw [if_pos hx, if_pos (by omega)]
  ·rw [if_neg hx, if_neg (by omega)]
end Go.Proofs.Ytgbjlcaanagfnaa.P

namespace Go.Proofs.Ytgbjlcaanagfnaa.P
open Go.RowKit Go.Proofs.YtgbjlcaanagfnaaW.PrintWords Go.Proofs.YtgbjlcaanagfnaaW.PrintLast Go.Proofs.YtgbjlcaanagfnaaW.PrintMore Go.Proofs.Ytgbjlcaanagfnaa.Math
set_option linter.unusedVariables false
set_option linter.unusedSimpArgs false

set_option maxHeartbeats 4000000 in
set_option maxRecDepth 100000 in
theorem mulDiv_out (a0 a1 a2 a3 : Int) (w : World) (y110 : List Int) (hy110 : y110 = ([a0, a1, a2] : List Int)) (a5 : num_in.f 4 y110 = some false) :
  Calls Try.prog 55 #[.int .i64 a0, .int .i64 a1, .int .i64 a2, .int .i64 a3] w fun e w' => e = .returned (.tuple #[.int .i64 0, .int .i64 1]) ∧ Below w.heap.size w w' := by
 have HB := Aside0.mk (Below.refl w.heap.size w)
 have Ny110 := Aside0.mk hy110
 have A5 := Aside0.mk a5
 clear hy110 a5
 go_enter Try.func55, Try.ntmps55
 go_wp2_with (first | ((with_reducible refine gate_dst (N := 19) rfl ?_); refine Kd.R_lit (Kd.int .i64) _ 3 ?hg (N := 19) ?hd (xs := ([a0, a1, a2] : List Int)) (inner := [.int .i64 a0, .int .i64 a1, .int .i64 a2]) (ok := fun _ => True) (okp := fun _ => True) ?hr ?hp (fun _ hk => hk) trivial (Below.refl _ _) (Nat.le_refl _) (by simp) ?_; (case hd => rfl); (case hg => rfl); (case hr => first | (go_simp; done) | (go_simp; rfl)); (case hp => exact (Reps.one (show Kd.M (Kd.int .i64) _ _ _ a0 [.int .i64 a0] from rfl) (Reps.one (show Kd.M (Kd.int .i64) _ _ _ a1 [.int .i64 a1] from rfl) (Reps.one (show Kd.M (Kd.int .i64) _ _ _ a2 [.int .i64 a2] from rfl) (Reps.none _ _))))); intro v111 w26 ho27 hb hg_ hnew_; clear hg_ hnew_; (first | rw [← Ny110.out] at ho27 | (simp only [Int.reduceToNat] at ho27; rw [← Ny110.out] at ho27)); have n0_ := Aside0.mk ho27; have n1_ := Aside0.mk (below_step (by repeat (first | (with_reducible first | exact HB.out | apply below_alloc | apply pw_below_drewN | apply below_drew1) | exact HB.out)) hb); clear HB; have HO112 := n0_; have HB := n1_; clear n0_ n1_; clear hb ho27; obtain ⟨Ao28, co28, eo28⟩ := Kd.R_slice HO112.out; subst eo28) | ((with_reducible refine gate_callee (f := 59) rfl ?_); refine goesL_ (some 20) rfl rfl Try.func59 (by kernel_rfl) rfl #[.slice Ao28 y110.length co28] rfl (by (try simp only [List.map_toArray, List.map_cons, List.map_nil]); first | done | rfl | (simp only [List.length_drop, List.length_take]; rfl)) ?_; (with_reducible refine (num_in.calls 4 _ _ y110 false _ ?side1 ?side2 A5.out).mono ?_); (case side1 => repeat (first | exact (Kd.R_reads' HO112.out).2.2 | (with_reducible refine Kd.C_alloc ?_ _) | (with_reducible refine Kd.C_drewN ?_ _) | (with_reducible refine Kd.C_drew ?_))); (case side2 => exact (Kd.R_reads' HO112.out).2.1); rintro e w' ⟨rfl, ⟨nd, rfl⟩⟩; refine ⟨_, rfl, ?_⟩))
 go_ret2
 exact ⟨rfl, (by repeat (first | (with_reducible first | exact HB.out | apply below_alloc | apply pw_below_drewN | apply below_drew1) | exact HB.out))⟩

set_option maxHeartbeats 4000000 in
set_option maxRecDepth 100000 in
theorem mulDiv_zero (a0 a1 a2 a3 : Int) (w : World) (y110 : List Int) (hy110 : y110 = ([a0, a1, a2] : List Int)) (a5 : num_in.f 4 y110 = some true) (c7 : a2 = 0) :
  Calls Try.prog 55 #[.int .i64 a0, .int .i64 a1, .int .i64 a2, .int .i64 a3] w fun e w' => e = .returned (.tuple #[.int .i64 0, .int .i64 16]) ∧ Below w.heap.size w w' := by
 have HB := Aside0.mk (Below.refl w.heap.size w)
 have Ny110 := Aside0.mk hy110
 have A5 := Aside0.mk a5
 clear hy110 a5
 have c7b0 : (a2 == 0) = true := beq_iff_eq.mpr c7
 have c7b1 : (a2 != 0) = false := bne_eq_false_iff_eq.mpr c7
 clear c7
 go_enter Try.func55, Try.ntmps55
 go_wp2_with (first | ((with_reducible refine gate_dst (N := 19) rfl ?_); refine Kd.R_lit (Kd.int .i64) _ 3 ?hg (N := 19) ?hd (xs := ([a0, a1, a2] : List Int)) (inner := [.int .i64 a0, .int .i64 a1, .int .i64 a2]) (ok := fun _ => True) (okp := fun _ => True) ?hr ?hp (fun _ hk => hk) trivial (Below.refl _ _) (Nat.le_refl _) (by simp) ?_; (case hd => rfl); (case hg => rfl); (case hr => first | (go_simp; done) | (go_simp; rfl)); (case hp => exact (Reps.one (show Kd.M (Kd.int .i64) _ _ _ a0 [.int .i64 a0] from rfl) (Reps.one (show Kd.M (Kd.int .i64) _ _ _ a1 [.int .i64 a1] from rfl) (Reps.one (show Kd.M (Kd.int .i64) _ _ _ a2 [.int .i64 a2] from rfl) (Reps.none _ _))))); intro v111 w26 ho27 hb hg_ hnew_; clear hg_ hnew_; (first | rw [← Ny110.out] at ho27 | (simp only [Int.reduceToNat] at ho27; rw [← Ny110.out] at ho27)); have n0_ := Aside0.mk ho27; have n1_ := Aside0.mk (below_step (by repeat (first | (with_reducible first | exact HB.out | apply below_alloc | apply pw_below_drewN | apply below_drew1) | exact HB.out)) hb); clear HB; have HO112 := n0_; have HB := n1_; clear n0_ n1_; clear hb ho27; obtain ⟨Ao28, co28, eo28⟩ := Kd.R_slice HO112.out; subst eo28) | ((with_reducible refine gate_callee (f := 59) rfl ?_); refine goesL_ (some 20) rfl rfl Try.func59 (by kernel_rfl) rfl #[.slice Ao28 y110.length co28] rfl (by (try simp only [List.map_toArray, List.map_cons, List.map_nil]); first | done | rfl | (simp only [List.length_drop, List.length_take]; rfl)) ?_; (with_reducible refine (num_in.calls 4 _ _ y110 true _ ?side1 ?side2 A5.out).mono ?_); (case side1 => repeat (first | exact (Kd.R_reads' HO112.out).2.2 | (with_reducible refine Kd.C_alloc ?_ _) | (with_reducible refine Kd.C_drewN ?_ _) | (with_reducible refine Kd.C_drew ?_))); (case side2 => exact (Kd.R_reads' HO112.out).2.1); rintro e w' ⟨rfl, ⟨nd, rfl⟩⟩; refine ⟨_, rfl, ?_⟩))
 go_ret2
 exact ⟨rfl, (by repeat (first | (with_reducible first | exact HB.out | apply below_alloc | apply pw_below_drewN | apply below_drew1) | exact HB.out))⟩

set_option maxHeartbeats 4000000 in
set_option maxRecDepth 100000 in
theorem mulDiv_low (a0 a1 a2 a3 : Int) (w : World) (y110 : List Int) (hy110 : y110 = ([a0, a1, a2] : List Int)) (a5 : num_in.f 4 y110 = some true) (c7 : a2 ≠ 0) (c8 : a3 < 0) :
  Calls Try.prog 55 #[.int .i64 a0, .int .i64 a1, .int .i64 a2, .int .i64 a3] w fun e w' => e = .returned (.tuple #[.int .i64 0, .int .i64 17]) ∧ Below w.heap.size w w' := by
 have HB := Aside0.mk (Below.refl w.heap.size w)
 have Ny110 := Aside0.mk hy110
 have A5 := Aside0.mk a5
 clear hy110 a5
 have c7b0 : (a2 == 0) = false := beq_eq_false_iff_ne.mpr c7
 have c7b1 : (a2 != 0) = true := bne_iff_ne.mpr c7
 clear c7
 have c8b0 : decide (a3 < 0) = true := decide_eq_true c8
 clear c8
 go_enter Try.func55, Try.ntmps55
 go_wp2_with (first | ((with_reducible refine gate_dst (N := 19) rfl ?_); refine Kd.R_lit (Kd.int .i64) _ 3 ?hg (N := 19) ?hd (xs := ([a0, a1, a2] : List Int)) (inner := [.int .i64 a0, .int .i64 a1, .int .i64 a2]) (ok := fun _ => True) (okp := fun _ => True) ?hr ?hp (fun _ hk => hk) trivial (Below.refl _ _) (Nat.le_refl _) (by simp) ?_; (case hd => rfl); (case hg => rfl); (case hr => first | (go_simp; done) | (go_simp; rfl)); (case hp => exact (Reps.one (show Kd.M (Kd.int .i64) _ _ _ a0 [.int .i64 a0] from rfl) (Reps.one (show Kd.M (Kd.int .i64) _ _ _ a1 [.int .i64 a1] from rfl) (Reps.one (show Kd.M (Kd.int .i64) _ _ _ a2 [.int .i64 a2] from rfl) (Reps.none _ _))))); intro v111 w26 ho27 hb hg_ hnew_; clear hg_ hnew_; (first | rw [← Ny110.out] at ho27 | (simp only [Int.reduceToNat] at ho27; rw [← Ny110.out] at ho27)); have n0_ := Aside0.mk ho27; have n1_ := Aside0.mk (below_step (by repeat (first | (with_reducible first | exact HB.out | apply below_alloc | apply pw_below_drewN | apply below_drew1) | exact HB.out)) hb); clear HB; have HO112 := n0_; have HB := n1_; clear n0_ n1_; clear hb ho27; obtain ⟨Ao28, co28, eo28⟩ := Kd.R_slice HO112.out; subst eo28) | ((with_reducible refine gate_callee (f := 59) rfl ?_); refine goesL_ (some 20) rfl rfl Try.func59 (by kernel_rfl) rfl #[.slice Ao28 y110.length co28] rfl (by (try simp only [List.map_toArray, List.map_cons, List.map_nil]); first | done | rfl | (simp only [List.length_drop, List.length_take]; rfl)) ?_; (with_reducible refine (num_in.calls 4 _ _ y110 true _ ?side1 ?side2 A5.out).mono ?_); (case side1 => repeat (first | exact (Kd.R_reads' HO112.out).2.2 | (with_reducible refine Kd.C_alloc ?_ _) | (with_reducible refine Kd.C_drewN ?_ _) | (with_reducible refine Kd.C_drew ?_))); (case side2 => exact (Kd.R_reads' HO112.out).2.1); rintro e w' ⟨rfl, ⟨nd, rfl⟩⟩; refine ⟨_, rfl, ?_⟩))
 go_ret2
 exact ⟨rfl, (by repeat (first | (with_reducible first | exact HB.out | apply below_alloc | apply pw_below_drewN | apply below_drew1) | exact HB.out))⟩

set_option maxHeartbeats 4000000 in
set_option maxRecDepth 100000 in
theorem mulDiv_high (a0 a1 a2 a3 : Int) (w : World) (y110 : List Int) (hy110 : y110 = ([a0, a1, a2] : List Int)) (a5 : num_in.f 4 y110 = some true) (c7 : a2 ≠ 0) (c8 : ¬ a3 < 0) (c9 : 3 ≤ a3) :
  Calls Try.prog 55 #[.int .i64 a0, .int .i64 a1, .int .i64 a2, .int .i64 a3] w fun e w' => e = .returned (.tuple #[.int .i64 0, .int .i64 17]) ∧ Below w.heap.size w w' := by
 have HB := Aside0.mk (Below.refl w.heap.size w)
 have Ny110 := Aside0.mk hy110
 have A5 := Aside0.mk a5
 clear hy110 a5
 have c7b0 : (a2 == 0) = false := beq_eq_false_iff_ne.mpr c7
 have c7b1 : (a2 != 0) = true := bne_iff_ne.mpr c7
 clear c7
 have c8b0 : decide (a3 < 0) = false := decide_eq_false c8
 have c9b0 : decide (3 ≤ a3) = true := decide_eq_true c9
 clear c8 c9
 go_enter Try.func55, Try.ntmps55
 go_wp2_with (first | ((with_reducible refine gate_dst (N := 19) rfl ?_); refine Kd.R_lit (Kd.int .i64) _ 3 ?hg (N := 19) ?hd (xs := ([a0, a1, a2] : List Int)) (inner := [.int .i64 a0, .int .i64 a1, .int .i64 a2]) (ok := fun _ => True) (okp := fun _ => True) ?hr ?hp (fun _ hk => hk) trivial (Below.refl _ _) (Nat.le_refl _) (by simp) ?_; (case hd => rfl); (case hg => rfl); (case hr => first | (go_simp; done) | (go_simp; rfl)); (case hp => exact (Reps.one (show Kd.M (Kd.int .i64) _ _ _ a0 [.int .i64 a0] from rfl) (Reps.one (show Kd.M (Kd.int .i64) _ _ _ a1 [.int .i64 a1] from rfl) (Reps.one (show Kd.M (Kd.int .i64) _ _ _ a2 [.int .i64 a2] from rfl) (Reps.none _ _))))); intro v111 w26 ho27 hb hg_ hnew_; clear hg_ hnew_; (first | rw [← Ny110.out] at ho27 | (simp only [Int.reduceToNat] at ho27; rw [← Ny110.out] at ho27)); have n0_ := Aside0.mk ho27; have n1_ := Aside0.mk (below_step (by repeat (first | (with_reducible first | exact HB.out | apply below_alloc | apply pw_below_drewN | apply below_drew1) | exact HB.out)) hb); clear HB; have HO112 := n0_; have HB := n1_; clear n0_ n1_; clear hb ho27; obtain ⟨Ao28, co28, eo28⟩ := Kd.R_slice HO112.out; subst eo28) | ((with_reducible refine gate_callee (f := 59) rfl ?_); refine goesL_ (some 20) rfl rfl Try.func59 (by kernel_rfl) rfl #[.slice Ao28 y110.length co28] rfl (by (try simp only [List.map_toArray, List.map_cons, List.map_nil]); first | done | rfl | (simp only [List.length_drop, List.length_take]; rfl)) ?_; (with_reducible refine (num_in.calls 4 _ _ y110 true _ ?side1 ?side2 A5.out).mono ?_); (case side1 => repeat (first | exact (Kd.R_reads' HO112.out).2.2 | (with_reducible refine Kd.C_alloc ?_ _) | (with_reducible refine Kd.C_drewN ?_ _) | (with_reducible refine Kd.C_drew ?_))); (case side2 => exact (Kd.R_reads' HO112.out).2.1); rintro e w' ⟨rfl, ⟨nd, rfl⟩⟩; refine ⟨_, rfl, ?_⟩))
 go_ret2
 exact ⟨rfl, (by repeat (first | (with_reducible first | exact HB.out | apply below_alloc | apply pw_below_drewN | apply below_drew1) | exact HB.out))⟩

set_option maxHeartbeats 4000000 in
set_option maxRecDepth 100000 in
theorem mulDiv_wide (a0 a1 a2 a3 : Int) (w : World) (y110 : List Int) (hy110 : y110 = ([a0, a1, a2] : List Int)) (a5 : num_in.f 4 y110 = some true) (c7 : a2 ≠ 0) (c8 : ¬ a3 < 0) (c9 : ¬ 3 ≤ a3) (t114 t115 t116 t117 t118 t119 t120 : Int) (a19 : num_size.f a0 = some t114) (a20 : num_size.f a1 = some t115) (a21 : num_product.f t114 t115 = some (t116, t117)) (a22 : num_size.f a2 = some t118) (a23 : num_wide_divide.f t116 t117 t118 = some (t119, t120, false)) :
  Calls Try.prog 55 #[.int .i64 a0, .int .i64 a1, .int .i64 a2, .int .i64 a3] w fun e w' => e = .returned (.tuple #[.int .i64 0, .int .i64 2]) ∧ Below w.heap.size w w' := by
 have HB := Aside0.mk (Below.refl w.heap.size w)
 have Ny110 := Aside0.mk hy110
 have A5 := Aside0.mk a5
 clear hy110 a5
 have c7b0 : (a2 == 0) = false := beq_eq_false_iff_ne.mpr c7
 have c7b1 : (a2 != 0) = true := bne_iff_ne.mpr c7
 clear c7
 have c8b0 : decide (a3 < 0) = false := decide_eq_false c8
 have c9b0 : decide (3 ≤ a3) = false := decide_eq_false c9
 clear c8 c9
 have A19 := Aside0.mk a19
 have A20 := Aside0.mk a20
 have A21 := Aside0.mk a21
 have A22 := Aside0.mk a22
 have A23 := Aside0.mk a23
 clear a19 a20 a21 a22 a23
 go_enter Try.func55, Try.ntmps55
 go_wp2_with (first | ((with_reducible refine gate_dst (N := 19) rfl ?_); refine Kd.R_lit (Kd.int .i64) _ 3 ?hg (N := 19) ?hd (xs := ([a0, a1, a2] : List Int)) (inner := [.int .i64 a0, .int .i64 a1, .int .i64 a2]) (ok := fun _ => True) (okp := fun _ => True) ?hr ?hp (fun _ hk => hk) trivial (Below.refl _ _) (Nat.le_refl _) (by simp) ?_; (case hd => rfl); (case hg => rfl); (case hr => first | (go_simp; done) | (go_simp; rfl)); (case hp => exact (Reps.one (show Kd.M (Kd.int .i64) _ _ _ a0 [.int .i64 a0] from rfl) (Reps.one (show Kd.M (Kd.int .i64) _ _ _ a1 [.int .i64 a1] from rfl) (Reps.one (show Kd.M (Kd.int .i64) _ _ _ a2 [.int .i64 a2] from rfl) (Reps.none _ _))))); intro v111 w26 ho27 hb hg_ hnew_; clear hg_ hnew_; (first | rw [← Ny110.out] at ho27 | (simp only [Int.reduceToNat] at ho27; rw [← Ny110.out] at ho27)); have n0_ := Aside0.mk ho27; have n1_ := Aside0.mk (below_step (by repeat (first | (with_reducible first | exact HB.out | apply below_alloc | apply pw_below_drewN | apply below_drew1) | exact HB.out)) hb); clear HB; have HO112 := n0_; have HB := n1_; clear n0_ n1_; clear hb ho27; obtain ⟨Ao28, co28, eo28⟩ := Kd.R_slice HO112.out; subst eo28) | ((with_reducible refine gate_callee (f := 59) rfl ?_); refine goesL_ (some 20) rfl rfl Try.func59 (by kernel_rfl) rfl #[.slice Ao28 y110.length co28] rfl (by (try simp only [List.map_toArray, List.map_cons, List.map_nil]); first | done | rfl | (simp only [List.length_drop, List.length_take]; rfl)) ?_; (with_reducible refine (num_in.calls 4 _ _ y110 true _ ?side1 ?side2 A5.out).mono ?_); (case side1 => repeat (first | exact (Kd.R_reads' HO112.out).2.2 | (with_reducible refine Kd.C_alloc ?_ _) | (with_reducible refine Kd.C_drewN ?_ _) | (with_reducible refine Kd.C_drew ?_))); (case side2 => exact (Kd.R_reads' HO112.out).2.1); rintro e w' ⟨rfl, ⟨nd, rfl⟩⟩; refine ⟨_, rfl, ?_⟩) | ((with_reducible refine gate_callee (f := 62) rfl ?_); refine goesL_ (some 34) rfl rfl Try.func62 (by kernel_rfl) rfl #[.int .i64 a0] rfl (by (try simp only [List.map_toArray, List.map_cons, List.map_nil]); first | done | rfl | (simp only [List.length_drop, List.length_take]; rfl)) ?_; (with_reducible refine (num_size.calls a0 t114 _ A19.out).mono ?_); rintro e w' ⟨rfl, ⟨nd, rfl⟩⟩; refine ⟨_, rfl, ?_⟩) | ((with_reducible refine gate_callee (f := 62) rfl ?_); refine goesL_ (some 36) rfl rfl Try.func62 (by kernel_rfl) rfl #[.int .i64 a1] rfl (by (try simp only [List.map_toArray, List.map_cons, List.map_nil]); first | done | rfl | (simp only [List.length_drop, List.length_take]; rfl)) ?_; (with_reducible refine (num_size.calls a1 t115 _ A20.out).mono ?_); rintro e w' ⟨rfl, ⟨nd, rfl⟩⟩; refine ⟨_, rfl, ?_⟩) | ((with_reducible refine gate_callee (f := 61) rfl ?_); refine goesL_ (some 37) rfl rfl Try.func61 (by kernel_rfl) rfl #[.int .u64 t114, .int .u64 t115] rfl (by (try simp only [List.map_toArray, List.map_cons, List.map_nil]); first | done | rfl | (simp only [List.length_drop, List.length_take]; rfl)) ?_; (with_reducible refine (num_product.calls t114 t115 t116 t117 _ A21.out).mono ?_); rintro e w29 ⟨rfl, hb⟩; refine ⟨_, rfl, ?_⟩; have n1_ := Aside0.mk (below_step (by repeat (first | (with_reducible first | exact HB.out | apply below_alloc | apply pw_below_drewN | apply below_drew1) | exact HB.out)) hb); clear HB; have HB := n1_; clear n1_; clear hb) | ((with_reducible refine gate_callee (f := 62) rfl ?_); refine goesL_ (some 39) rfl rfl Try.func62 (by kernel_rfl) rfl #[.int .i64 a2] rfl (by (try simp only [List.map_toArray, List.map_cons, List.map_nil]); first | done | rfl | (simp only [List.length_drop, List.length_take]; rfl)) ?_; (with_reducible refine (num_size.calls a2 t118 _ A22.out).mono ?_); rintro e w' ⟨rfl, ⟨nd, rfl⟩⟩; refine ⟨_, rfl, ?_⟩) | ((with_reducible refine gate_callee (f := 63) rfl ?_); refine goesL_ (some 40) rfl rfl Try.func63 (by kernel_rfl) rfl #[.agg #[.int .u64 t116, .int .u64 t117], .int .u64 t118] rfl (by (try simp only [List.map_toArray, List.map_cons, List.map_nil]); first | done | rfl | (simp only [List.length_drop, List.length_take]; rfl)) ?_; (with_reducible refine (num_wide_divide.calls t116 t117 t118 t119 t120 false _ A23.out).mono ?_); rintro e w30 ⟨rfl, hb⟩; refine ⟨_, rfl, ?_⟩; have n1_ := Aside0.mk (below_step (by repeat (first | (with_reducible first | exact HB.out | apply below_alloc | apply pw_below_drewN | apply below_drew1) | exact HB.out)) hb); clear HB; have HB := n1_; clear n1_; clear hb))
 go_ret2
 exact ⟨rfl, (by repeat (first | (with_reducible first | exact HB.out | apply below_alloc | apply pw_below_drewN | apply below_drew1) | exact HB.out))⟩

set_option maxHeartbeats 4000000 in
set_option maxRecDepth 100000 in
theorem mulDiv_main (a0 a1 a2 a3 : Int) (w : World) (y110 : List Int) (hy110 : y110 = ([a0, a1, a2] : List Int)) (a5 : num_in.f 4 y110 = some true) (c7 : a2 ≠ 0) (c8 : ¬ a3 < 0) (c9 : ¬ 3 ≤ a3) (t114 t115 t116 t117 t118 t119 t120 : Int) (a19 : num_size.f a0 = some t114) (a20 : num_size.f a1 = some t115) (a21 : num_product.f t114 t115 = some (t116, t117)) (a22 : num_size.f a2 = some t118) (a23 : num_wide_divide.f t116 t117 t118 = some (t119, t120, true)) (N G : Bool) (hN : N = ((decide (a0 < 0) != decide (a1 < 0)) != decide (a2 < 0))) (hG : G = (if a3 = 0 then N && decide (0 < t120) else if a3 = 1 then !N && decide (0 < t120) else decide (t118 < 2 * t120) || (decide (2 * t120 = t118) && decide (t119 % 2 = 1)))) (hq0 : 0 ≤ t119) (hq1 : t119 < 4611686018427387904) (hr0 : 0 ≤ t120) (hr1 : t120 < 1125899906842624) :
  Calls Try.prog 55 #[.int .i64 a0, .int .i64 a1, .int .i64 a2, .int .i64 a3] w fun e w' => e = .returned (.tuple #[.int .i64 (if 1125899906842624 < (if G = true then t119 + 1 else t119) then (0, 2) else (if N = true then -(if G = true then t119 + 1 else t119) else (if G = true then t119 + 1 else t119), 0) : Int × Int).1, .int .i64 (if 1125899906842624 < (if G = true then t119 + 1 else t119) then (0, 2) else (if N = true then -(if G = true then t119 + 1 else t119) else (if G = true then t119 + 1 else t119), 0) : Int × Int).2]) ∧ Below w.heap.size w w' := by
 have HB := Aside0.mk (Below.refl w.heap.size w)
 have Ny110 := Aside0.mk hy110
 have A5 := Aside0.mk a5
 clear hy110 a5
 have c7b0 : (a2 == 0) = false := beq_eq_false_iff_ne.mpr c7
 have c7b1 : (a2 != 0) = true := bne_iff_ne.mpr c7
 clear c7
 have c8b0 : decide (a3 < 0) = false := decide_eq_false c8
 have c9b0 : decide (3 ≤ a3) = false := decide_eq_false c9
 have C8 := Aside0.mk c8
 have C9 := Aside0.mk c9
 clear c8 c9
 have A19 := Aside0.mk a19
 have A20 := Aside0.mk a20
 have A21 := Aside0.mk a21
 have A22 := Aside0.mk a22
 have A23 := Aside0.mk a23
 clear a19 a20 a21 a22 a23
 have HN := Aside0.mk hN
 have HG := Aside0.mk hG
 have HQ := Aside0.mk (And.intro hq0 (And.intro hq1 (And.intro hr0 hr1)))
 clear hN hG hq0 hq1 hr0 hr1
 go_enter Try.func55, Try.ntmps55
 go_upto_region 10 with (first | ((with_reducible refine gate_dst (N := 19) rfl ?_); refine Kd.R_lit (Kd.int .i64) _ 3 ?hg (N := 19) ?hd (xs := ([a0, a1, a2] : List Int)) (inner := [.int .i64 a0, .int .i64 a1, .int .i64 a2]) (ok := fun _ => True) (okp := fun _ => True) ?hr ?hp (fun _ hk => hk) trivial (Below.refl _ _) (Nat.le_refl _) (by simp) ?_; (case hd => rfl); (case hg => rfl); (case hr => first | (go_simp; done) | (go_simp; rfl)); (case hp => exact (Reps.one (show Kd.M (Kd.int .i64) _ _ _ a0 [.int .i64 a0] from rfl) (Reps.one (show Kd.M (Kd.int .i64) _ _ _ a1 [.int .i64 a1] from rfl) (Reps.one (show Kd.M (Kd.int .i64) _ _ _ a2 [.int .i64 a2] from rfl) (Reps.none _ _))))); intro v111 w26 ho27 hb hg_ hnew_; clear hg_ hnew_; (first | rw [← Ny110.out] at ho27 | (simp only [Int.reduceToNat] at ho27; rw [← Ny110.out] at ho27)); have n0_ := Aside0.mk ho27; have n1_ := Aside0.mk (below_step (by repeat (first | (with_reducible first | exact HB.out | apply below_alloc | apply pw_below_drewN | apply below_drew1) | exact HB.out)) hb); clear HB; have HO112 := n0_; have HB := n1_; clear n0_ n1_; clear hb ho27; obtain ⟨Ao28, co28, eo28⟩ := Kd.R_slice HO112.out; subst eo28) | ((with_reducible refine gate_callee (f := 59) rfl ?_); refine goesL_ (some 20) rfl rfl Try.func59 (by kernel_rfl) rfl #[.slice Ao28 y110.length co28] rfl (by (try simp only [List.map_toArray, List.map_cons, List.map_nil]); first | done | rfl | (simp only [List.length_drop, List.length_take]; rfl)) ?_; (with_reducible refine (num_in.calls 4 _ _ y110 true _ ?side1 ?side2 A5.out).mono ?_); (case side1 => repeat (first | exact (Kd.R_reads' HO112.out).2.2 | (with_reducible refine Kd.C_alloc ?_ _) | (with_reducible refine Kd.C_drewN ?_ _) | (with_reducible refine Kd.C_drew ?_))); (case side2 => exact (Kd.R_reads' HO112.out).2.1); rintro e w' ⟨rfl, ⟨nd, rfl⟩⟩; refine ⟨_, rfl, ?_⟩) | ((with_reducible refine gate_callee (f := 62) rfl ?_); refine goesL_ (some 34) rfl rfl Try.func62 (by kernel_rfl) rfl #[.int .i64 a0] rfl (by (try simp only [List.map_toArray, List.map_cons, List.map_nil]); first | done | rfl | (simp only [List.length_drop, List.length_take]; rfl)) ?_; (with_reducible refine (num_size.calls a0 t114 _ A19.out).mono ?_); rintro e w' ⟨rfl, ⟨nd, rfl⟩⟩; refine ⟨_, rfl, ?_⟩) | ((with_reducible refine gate_callee (f := 62) rfl ?_); refine goesL_ (some 36) rfl rfl Try.func62 (by kernel_rfl) rfl #[.int .i64 a1] rfl (by (try simp only [List.map_toArray, List.map_cons, List.map_nil]); first | done | rfl | (simp only [List.length_drop, List.length_take]; rfl)) ?_; (with_reducible refine (num_size.calls a1 t115 _ A20.out).mono ?_); rintro e w' ⟨rfl, ⟨nd, rfl⟩⟩; refine ⟨_, rfl, ?_⟩) | ((with_reducible refine gate_callee (f := 61) rfl ?_); refine goesL_ (some 37) rfl rfl Try.func61 (by kernel_rfl) rfl #[.int .u64 t114, .int .u64 t115] rfl (by (try simp only [List.map_toArray, List.map_cons, List.map_nil]); first | done | rfl | (simp only [List.length_drop, List.length_take]; rfl)) ?_; (with_reducible refine (num_product.calls t114 t115 t116 t117 _ A21.out).mono ?_); rintro e w29 ⟨rfl, hb⟩; refine ⟨_, rfl, ?_⟩; have n1_ := Aside0.mk (below_step (by repeat (first | (with_reducible first | exact HB.out | apply below_alloc | apply pw_below_drewN | apply below_drew1) | exact HB.out)) hb); clear HB; have HB := n1_; clear n1_; clear hb) | ((with_reducible refine gate_callee (f := 62) rfl ?_); refine goesL_ (some 39) rfl rfl Try.func62 (by kernel_rfl) rfl #[.int .i64 a2] rfl (by (try simp only [List.map_toArray, List.map_cons, List.map_nil]); first | done | rfl | (simp only [List.length_drop, List.length_take]; rfl)) ?_; (with_reducible refine (num_size.calls a2 t118 _ A22.out).mono ?_); rintro e w' ⟨rfl, ⟨nd, rfl⟩⟩; refine ⟨_, rfl, ?_⟩) | ((with_reducible refine gate_callee (f := 63) rfl ?_); refine goesL_ (some 40) rfl rfl Try.func63 (by kernel_rfl) rfl #[.agg #[.int .u64 t116, .int .u64 t117], .int .u64 t118] rfl (by (try simp only [List.map_toArray, List.map_cons, List.map_nil]); first | done | rfl | (simp only [List.length_drop, List.length_take]; rfl)) ?_; (with_reducible refine (num_wide_divide.calls t116 t117 t118 t119 t120 true _ A23.out).mono ?_); rintro e w30 ⟨rfl, hb⟩; refine ⟨_, rfl, ?_⟩; have n1_ := Aside0.mk (below_step (by repeat (first | (with_reducible first | exact HB.out | apply below_alloc | apply pw_below_drewN | apply below_drew1) | exact HB.out)) hb); clear HB; have HB := n1_; clear n1_; clear hb))
 (try simp only [Act.put, List.setIfInBounds_toArray, List.set_cons_zero, List.set_cons_succ])
 go_cut [13] (fun v13 wc => v13 = .bool N ∧ Aside0 (Below w.heap.size w wc))
 case first =>
  by_cases c0 : a0 < 0 <;> by_cases c1 : a1 < 0 <;> by_cases c2 : a2 < 0
  all_goals
   go_wp2
   go_meet
   case rel => exact ⟨by rw [HN.out]; (first | rw [decide_eq_true c0] | rw [decide_eq_false (show ¬ a0 < 0 by omega)]); (first | rw [decide_eq_true c1] | rw [decide_eq_false (show ¬ a1 < 0 by omega)]); (first | rw [decide_eq_true c2] | rw [decide_eq_false (show ¬ a2 < 0 by omega)]); rfl, ⟨(by repeat (first | (with_reducible first | exact HB.out | apply below_alloc | apply pw_below_drewN | apply below_drew1) | exact HB.out))⟩⟩
 case rest =>
  obtain ⟨rfl, HB⟩ := hcut
  go_upto_block 1 with (fail)
  (try simp only [Act.put, List.setIfInBounds_toArray, List.set_cons_zero, List.set_cons_succ])
  go_cut [14] (fun v14 wc => v14 = .bool G ∧ Aside0 (Below w.heap.size w wc))
  case first =>
   obtain ⟨hq0, hq1, hr0, hr1⟩ := HQ.out
   by_cases m0 : a3 = 0
   ·have M0 := Aside0.mk m0
    have m0b : (a3 == 0) = true := beq_iff_eq.mpr m0
    clear m0
    cases N with
    | true =>
     go_wp2
     go_meet
     case rel => exact ⟨by rw [HG.out, if_pos M0.out]; simp, ⟨(by repeat (first | (with_reducible first | exact HB.out | apply below_alloc | apply pw_below_drewN | apply below_drew1) | exact HB.out))⟩⟩
    | false =>
     go_wp2
     go_meet
     case rel => exact ⟨by rw [HG.out, if_pos M0.out]; simp, ⟨(by repeat (first | (with_reducible first | exact HB.out | apply below_alloc | apply pw_below_drewN | apply below_drew1) | exact HB.out))⟩⟩
   ·have M0 := Aside0.mk m0
    have m0b : (a3 == 0) = false := beq_eq_false_iff_ne.mpr m0
    clear m0
    by_cases m1 : a3 = 1
    ·have M1 := Aside0.mk m1
     have m1b : (a3 == 1) = true := beq_iff_eq.mpr m1
     clear m1
     cases N with
     | true =>
      go_wp2
      go_meet
      case rel => exact ⟨by rw [HG.out, if_neg M0.out, if_pos M1.out]; simp, ⟨(by repeat (first | (with_reducible first | exact HB.out | apply below_alloc | apply pw_below_drewN | apply below_drew1) | exact HB.out))⟩⟩
     | false =>
      go_wp2
      go_meet
      case rel => exact ⟨by rw [HG.out, if_neg M0.out, if_pos M1.out]; simp, ⟨(by repeat (first | (with_reducible first | exact HB.out | apply below_alloc | apply pw_below_drewN | apply below_drew1) | exact HB.out))⟩⟩
    ·have M1 := Aside0.mk m1
     have m1b : (a3 == 1) = false := beq_eq_false_iff_ne.mpr m1
     clear m1
     by_cases g1 : t118 < 2 * t120
     ·have g1b : decide (t118 < 2 * t120) = true := decide_eq_true g1
      go_wp2_with (first | ((with_reducible refine gate_callee (f := 62) rfl ?_); refine goesL_ (some 58) rfl rfl Try.func62 (by kernel_rfl) rfl #[.int .i64 a2] rfl (by (try simp only [List.map_toArray, List.map_cons, List.map_nil]); first | done | rfl | (simp only [List.length_drop, List.length_take]; rfl)) ?_; (with_reducible refine (num_size.calls a2 t118 _ A22.out).mono ?_); rintro e w' ⟨rfl, ⟨nd, rfl⟩⟩; refine ⟨_, rfl, ?_⟩) | ((with_reducible refine gate_callee (f := 62) rfl ?_); refine goesL_ (some 64) rfl rfl Try.func62 (by kernel_rfl) rfl #[.int .i64 a2] rfl (by (try simp only [List.map_toArray, List.map_cons, List.map_nil]); first | done | rfl | (simp only [List.length_drop, List.length_take]; rfl)) ?_; (with_reducible refine (num_size.calls a2 t118 _ A22.out).mono ?_); rintro e w' ⟨rfl, ⟨nd, rfl⟩⟩; refine ⟨_, rfl, ?_⟩) | (go_at_call 62; (with_reducible refine (num_size.calls a2 t118 _ A22.out).mono ?_); rintro e w' ⟨rfl, ⟨nd2, rfl⟩⟩))
      go_meet
      case rel => exact ⟨by rw [HG.out, if_neg M0.out, if_neg M1.out, decide_eq_true g1]; rfl, ⟨(by repeat (first | (with_reducible first | exact HB.out | apply below_alloc | apply pw_below_drewN | apply below_drew1) | exact HB.out))⟩⟩
     ·have g1b : decide (t118 < 2 * t120) = false := decide_eq_false g1
      by_cases g2 : 2 * t120 = t118
      ·have g2b : (2 * t120 == t118) = true := beq_iff_eq.mpr g2
       have G2 := Aside0.mk g2
       clear g2
       by_cases g3 : t119 % 2 = 1
       ·have g3b : (t119 % 2 == 1) = true := beq_iff_eq.mpr g3
        have G3 := Aside0.mk g3
        clear g3
        go_wp2_with (first | ((with_reducible refine gate_callee (f := 62) rfl ?_); refine goesL_ (some 58) rfl rfl Try.func62 (by kernel_rfl) rfl #[.int .i64 a2] rfl (by (try simp only [List.map_toArray, List.map_cons, List.map_nil]); first | done | rfl | (simp only [List.length_drop, List.length_take]; rfl)) ?_; (with_reducible refine (num_size.calls a2 t118 _ A22.out).mono ?_); rintro e w' ⟨rfl, ⟨nd, rfl⟩⟩; refine ⟨_, rfl, ?_⟩) | ((with_reducible refine gate_callee (f := 62) rfl ?_); refine goesL_ (some 64) rfl rfl Try.func62 (by kernel_rfl) rfl #[.int .i64 a2] rfl (by (try simp only [List.map_toArray, List.map_cons, List.map_nil]); first | done | rfl | (simp only [List.length_drop, List.length_take]; rfl)) ?_; (with_reducible refine (num_size.calls a2 t118 _ A22.out).mono ?_); rintro e w' ⟨rfl, ⟨nd, rfl⟩⟩; refine ⟨_, rfl, ?_⟩) | (go_at_call 62; (with_reducible refine (num_size.calls a2 t118 _ A22.out).mono ?_); rintro e w' ⟨rfl, ⟨nd2, rfl⟩⟩))
        go_meet
        case rel => exact ⟨by rw [HG.out, if_neg M0.out, if_neg M1.out, decide_eq_false (show ¬ t118 < 2 * t120 by omega), decide_eq_true G2.out, decide_eq_true G3.out]; rfl, ⟨(by repeat (first | (with_reducible first | exact HB.out | apply below_alloc | apply pw_below_drewN | apply below_drew1) | exact HB.out))⟩⟩
       ·have g3b : (t119 % 2 == 1) = false := beq_eq_false_iff_ne.mpr g3
        have G3 := Aside0.mk g3
        clear g3
        go_wp2_with (first | ((with_reducible refine gate_callee (f := 62) rfl ?_); refine goesL_ (some 58) rfl rfl Try.func62 (by kernel_rfl) rfl #[.int .i64 a2] rfl (by (try simp only [List.map_toArray, List.map_cons, List.map_nil]); first | done | rfl | (simp only [List.length_drop, List.length_take]; rfl)) ?_; (with_reducible refine (num_size.calls a2 t118 _ A22.out).mono ?_); rintro e w' ⟨rfl, ⟨nd, rfl⟩⟩; refine ⟨_, rfl, ?_⟩) | ((with_reducible refine gate_callee (f := 62) rfl ?_); refine goesL_ (some 64) rfl rfl Try.func62 (by kernel_rfl) rfl #[.int .i64 a2] rfl (by (try simp only [List.map_toArray, List.map_cons, List.map_nil]); first | done | rfl | (simp only [List.length_drop, List.length_take]; rfl)) ?_; (with_reducible refine (num_size.calls a2 t118 _ A22.out).mono ?_); rintro e w' ⟨rfl, ⟨nd, rfl⟩⟩; refine ⟨_, rfl, ?_⟩) | (go_at_call 62; (with_reducible refine (num_size.calls a2 t118 _ A22.out).mono ?_); rintro e w' ⟨rfl, ⟨nd2, rfl⟩⟩))
        go_meet
        case rel => exact ⟨by rw [HG.out, if_neg M0.out, if_neg M1.out, decide_eq_false (show ¬ t118 < 2 * t120 by omega), decide_eq_true G2.out, decide_eq_false G3.out]; rfl, ⟨(by repeat (first | (with_reducible first | exact HB.out | apply below_alloc | apply pw_below_drewN | apply below_drew1) | exact HB.out))⟩⟩
      ·have g2b : (2 * t120 == t118) = false := beq_eq_false_iff_ne.mpr g2
       have G2 := Aside0.mk g2
       clear g2
       go_wp2_with (first | ((with_reducible refine gate_callee (f := 62) rfl ?_); refine goesL_ (some 58) rfl rfl Try.func62 (by kernel_rfl) rfl #[.int .i64 a2] rfl (by (try simp only [List.map_toArray, List.map_cons, List.map_nil]); first | done | rfl | (simp only [List.length_drop, List.length_take]; rfl)) ?_; (with_reducible refine (num_size.calls a2 t118 _ A22.out).mono ?_); rintro e w' ⟨rfl, ⟨nd, rfl⟩⟩; refine ⟨_, rfl, ?_⟩) | ((with_reducible refine gate_callee (f := 62) rfl ?_); refine goesL_ (some 64) rfl rfl Try.func62 (by kernel_rfl) rfl #[.int .i64 a2] rfl (by (try simp only [List.map_toArray, List.map_cons, List.map_nil]); first | done | rfl | (simp only [List.length_drop, List.length_take]; rfl)) ?_; (with_reducible refine (num_size.calls a2 t118 _ A22.out).mono ?_); rintro e w' ⟨rfl, ⟨nd, rfl⟩⟩; refine ⟨_, rfl, ?_⟩) | (go_at_call 62; (with_reducible refine (num_size.calls a2 t118 _ A22.out).mono ?_); rintro e w' ⟨rfl, ⟨nd2, rfl⟩⟩))
       go_meet
       case rel => exact ⟨by rw [HG.out, if_neg M0.out, if_neg M1.out, decide_eq_false (show ¬ t118 < 2 * t120 by omega), decide_eq_false G2.out]; rfl, ⟨(by repeat (first | (with_reducible first | exact HB.out | apply below_alloc | apply pw_below_drewN | apply below_drew1) | exact HB.out))⟩⟩
  case rest =>
   obtain ⟨rfl, HB⟩ := hcut
   obtain ⟨hq0, hq1, hr0, hr1⟩ := HQ.out
   clear HN HG
   cases G with
   | true =>
    by_cases ov : 1125899906842624 < t119 + 1
    ·have ovb : decide (1125899906842624 < t119 + 1) = true := decide_eq_true ov
     go_wp2
     go_ret2
     exact ⟨by simp [ov], (by repeat (first | (with_reducible first | exact HB.out | apply below_alloc | apply pw_below_drewN | apply below_drew1) | exact HB.out))⟩
    ·have ovb : decide (1125899906842624 < t119 + 1) = false := decide_eq_false ov
     cases N with
     | true =>
      go_wp2
      go_ret2
      exact ⟨by simp [ov], (by repeat (first | (with_reducible first | exact HB.out | apply below_alloc | apply pw_below_drewN | apply below_drew1) | exact HB.out))⟩
     | false =>
      go_wp2
      go_ret2
      exact ⟨by simp [ov], (by repeat (first | (with_reducible first | exact HB.out | apply below_alloc | apply pw_below_drewN | apply below_drew1) | exact HB.out))⟩
   | false =>
    by_cases ov : 1125899906842624 < t119
    ·have ovb : decide (1125899906842624 < t119) = true := decide_eq_true ov
     go_wp2
     go_ret2
     exact ⟨by simp [ov], (by repeat (first | (with_reducible first | exact HB.out | apply below_alloc | apply pw_below_drewN | apply below_drew1) | exact HB.out))⟩
    ·have ovb : decide (1125899906842624 < t119) = false := decide_eq_false ov
     cases N with
     | true =>
      go_wp2
      go_ret2
      exact ⟨by simp [ov], (by repeat (first | (with_reducible first | exact HB.out | apply below_alloc | apply pw_below_drewN | apply below_drew1) | exact HB.out))⟩
     | false =>
      go_wp2
      go_ret2
      exact ⟨by simp [ov], (by repeat (first | (with_reducible first | exact HB.out | apply below_alloc | apply pw_below_drewN | apply below_drew1) | exact HB.out))⟩


def num_MulDiv.f (a0 a1 a2 a3 : Int) : Option (Int × Int) := some (md a0 a1 a2 a3)

theorem num_MulDiv.calls (a0 a1 a2 a3 r1 r2 : Int) (w : World) (h : num_MulDiv.f a0 a1 a2 a3 = some (r1, r2)) :
  Calls Try.prog 55 #[.int .i64 a0, .int .i64 a1, .int .i64 a2, .int .i64 a3] w fun e w' => e = .returned (.tuple #[.int .i64 r1, .int .i64 r2]) ∧ Below w.heap.size w w' := by
 have hmd : md a0 a1 a2 a3 = (r1, r2) := Option.some.inj h
 have hin := num_in_eq ([a0, a1, a2] : List Int) (by simp) 4 (by simp)
 have hall : ([a0, a1, a2] : List Int).all inR = (inR a0 && (inR a1 && inR a2)) := by simp
 rw [hall] at hin
 by_cases hr : -1125899906842624 ≤ a0 ∧ a0 ≤ 1125899906842624 ∧ -1125899906842624 ≤ a1 ∧ a1 ≤ 1125899906842624 ∧ -1125899906842624 ≤ a2 ∧ a2 ≤ 1125899906842624
 ·have ht : (inR a0 && (inR a1 && inR a2)) = true := by unfold inR; simp; omega
  rw [ht] at hin
  obtain ⟨x1, x2, x3, x4, x5, x6⟩ := hr
  by_cases hz : a2 = 0
  ·have e : md a0 a1 a2 a3 = (0, 16) := by unfold md; rw [if_neg (by omega), if_pos hz]
   rw [e] at hmd; obtain ⟨rfl, rfl⟩ := Prod.mk.inj hmd
   exact mulDiv_zero a0 a1 a2 a3 w _ rfl hin hz
  ·by_cases hl : a3 < 0
   ·have e : md a0 a1 a2 a3 = (0, 17) := by unfold md; rw [if_neg (by omega), if_neg hz, if_pos (by omega)]
    rw [e] at hmd; obtain ⟨rfl, rfl⟩ := Prod.mk.inj hmd
    exact mulDiv_low a0 a1 a2 a3 w _ rfl hin hz hl
   ·by_cases hh : 3 ≤ a3
    ·have e : md a0 a1 a2 a3 = (0, 17) := by unfold md; rw [if_neg (by omega), if_neg hz, if_pos (by omega)]
     rw [e] at hmd; obtain ⟨rfl, rfl⟩ := Prod.mk.inj hmd
     exact mulDiv_high a0 a1 a2 a3 w _ rfl hin hz hl hh
    ·have s0 := num_size_eq a0 x1 x2
     have s1 := num_size_eq a1 x3 x4
     have s2 := num_size_eq a2 x5 x6
     have p0 := num_product_eq (if a0 < 0 then -a0 else a0) (if a1 < 0 then -a1 else a1) (by split <;> omega) (by split <;> omega) (by split <;> omega) (by split <;> omega)
     have hC : 0 < (if a2 < 0 then -a2 else a2) := by split <;> omega
     have hC' : (if a2 < 0 then -a2 else a2) ≤ 1125899906842624 := by split <;> omega
     have hAB : 0 ≤ (if a0 < 0 then -a0 else a0) * (if a1 < 0 then -a1 else a1) := Int.mul_nonneg (by split <;> omega) (by split <;> omega)
     have d0 := num_wide_divide_eq (if a0 < 0 then -a0 else a0) (if a1 < 0 then -a1 else a1) (if a2 < 0 then -a2 else a2) (by split <;> omega) (by split <;> omega) (by split <;> omega) (by split <;> omega) hC hC'
     have key := fun (N G : Bool) (q r : Int) => md_abs a0 a1 a2 a3 q r ⟨x1, x2⟩ ⟨x3, x4⟩ ⟨x5, x6⟩ hz (by omega) (by omega)
     generalize hP : ((if a0 < 0 then -a0 else a0) * (if a1 < 0 then -a1 else a1)).toNat = P at *
     generalize hCN : (if a2 < 0 then -a2 else a2).toNat = C at *
     have eP : (if a0 < 0 then -a0 else a0) * (if a1 < 0 then -a1 else a1) = (P : Int) := by omega
     have eC : (if a2 < 0 then -a2 else a2) = (C : Int) := by omega
     rw [eC] at hC hC'
     have hdm := Nat.div_add_mod P C
     have hml := Nat.mod_lt P (show 0 < C by omega)
     have n1 : (0 : Int) ≤ ((P / C : Nat) : Int) := Int.natCast_nonneg _
     have n2 : (0 : Int) ≤ ((P % C : Nat) : Int) := Int.natCast_nonneg _
     have n3 : ((P % C : Nat) : Int) < (C : Int) := by omega
     have key2 := fun (N G : Bool) (hN : N = ((decide (a0 < 0) != decide (a1 < 0)) != decide (a2 < 0))) hG => key N G ((P / C : Nat) : Int) ((P % C : Nat) : Int) (by rw [eP, eC, ← Int.natCast_mul, ← Int.natCast_add, hdm]) (by omega) (by rw [eC]; omega) (by omega) N G hN hG
     clear key
     by_cases hf : P / C < 4611686018427387904
     ·have e1 : dB P C = true := decide_eq_true hf
      have e2 : dQ P C = ((P / C : Nat) : Int) := if_pos hf
      have e3 : dR P C = ((P % C : Nat) : Int) := if_pos hf
      rw [e1, e2, e3] at d0
      have hm := key2 _ _ rfl rfl
      rw [hm] at hmd
      have hw := mulDiv_main a0 a1 a2 a3 w _ rfl hin hz hl hh _ _ _ _ _ _ _ s0 s1 p0 s2 d0 _ _ rfl rfl (by omega) (by omega) (by omega) (by omega)
      rw [hmd] at hw
      exact hw
     ·have e1 : dB P C = false := decide_eq_false hf
      rw [e1] at d0
      have hm := key2 _ _ rfl rfl
      rw [hm, if_pos (by split <;> omega)] at hmd
      obtain ⟨rfl, rfl⟩ := Prod.mk.inj hmd
      exact mulDiv_wide a0 a1 a2 a3 w _ rfl hin hz hl hh _ _ _ _ _ _ _ s0 s1 p0 s2 d0
 ·have ht : (inR a0 && (inR a1 && inR a2)) = false := by
   unfold inR
   rw [Bool.eq_false_iff]
   intro hh
   simp at hh
   omega
  rw [ht] at hin
  have e : md a0 a1 a2 a3 = (0, 1) := by unfold md; rw [if_pos (by omega)]
  rw [e] at hmd; obtain ⟨rfl, rfl⟩ := Prod.mk.inj hmd
  exact mulDiv_out a0 a1 a2 a3 w _ rfl hin
end Go.Proofs.Ytgbjlcaanagfnaa.P

namespace Go.Proofs.Ytgbjlcaanagfnaa.P
open Go.RowKit Go.Proofs.YtgbjlcaanagfnaaW.PrintWords Go.Proofs.YtgbjlcaanagfnaaW.PrintLast Go.Proofs.Ytgbjlcaanagfnaa.Math
set_option linter.unusedVariables false

theorem tdm (x d : Int) (hd : 0 < d) : d * x.tdiv d + x.tmod d = x ∧ -d < x.tmod d ∧ x.tmod d < d ∧ (0 ≤ x → 0 ≤ x.tmod d) ∧ (x ≤ 0 → x.tmod d ≤ 0) := by
 refine ⟨Int.mul_tdiv_add_tmod x d, ?_⟩
 rcases Int.le_total 0 x with h | h
 ·rw [Int.tmod_eq_emod_of_nonneg h]
  have h1 := Int.emod_nonneg x (show d ≠ 0 by omega)
  have h2 := Int.emod_lt_of_pos x hd
  refine ⟨by omega, h2, fun _ => h1, fun h3 => ?_⟩
  have : x = 0 := by omega
  rw [this]; simp
 ·have e : x.tmod d = -((-x).tmod d) := by rw [Int.neg_tmod, Int.neg_neg]
  rw [e, Int.tmod_eq_emod_of_nonneg (show 0 ≤ -x by omega)]
  have h1 := Int.emod_nonneg (-x) (show d ≠ 0 by omega)
  have h2 := Int.emod_lt_of_pos (-x) hd
  refine ⟨by omega, by omega, fun h3 => ?_, fun _ => by omega⟩
  have : x = 0 := by omega
  rw [this]; simp

theorem tdiv_le (x d B : Int) (hd : 0 < d) (hB : 0 ≤ B) (h1 : -(d * B) ≤ x) (h2 : x ≤ d * B) : -B ≤ x.tdiv d ∧ x.tdiv d ≤ B := by
 obtain ⟨e, g1, g2, g3, g4⟩ := tdm x d hd
 generalize x.tdiv d = q at *
 generalize x.tmod d = r at *
 have e1 : d * (B + 1) = d * B + d := by grind
 have e2 : d * (-B - 1) = -(d * B) - d := by grind
 constructor
 ·rcases Int.lt_or_le q (-B) with h | h
  ·have : d * q ≤ d * (-B - 1) := Int.mul_le_mul_of_nonneg_left (by omega) (by omega)
   omega
  ·exact h
 ·rcases Int.lt_or_le B q with h | h
  ·have : d * (B + 1) ≤ d * q := Int.mul_le_mul_of_nonneg_left (by omega) (by omega)
   omega
  ·exact h

theorem rInR_iff (x : Int) : inR x = true ↔ -1125899906842624 ≤ x ∧ x ≤ 1125899906842624 := by unfold inR; simp

/-- What Sum answers. -/
def sumSpec (l : List Int) : Int × Int :=
 if 65536 < l.length then (0, 8) else if l.all inR = false then (0, 1) else if l.sum < -1125899906842624 ∨ 1125899906842624 < l.sum then (0, 2) else (l.sum, 0)

theorem num_result_eq (x : Int) (k : Nat) (hk : 1 < k) : num_result.f k x = some (if x < -1125899906842624 ∨ 1125899906842624 < x then (0, 2) else (x, 0)) := by
 unfold num_result.f
 rw [num_in_eq [x] (by simp) k (by simpa using hk)]
 simp only [Option.bind_some]
 by_cases h : -1125899906842624 ≤ x ∧ x ≤ 1125899906842624
 ·have : ([x] : List Int).all inR = true := by simp [rInR_iff, h]
  rw [if_pos this, if_neg (by omega)]
 ·have : ¬ ([x] : List Int).all inR = true := by simp [rInR_iff]; omega
  rw [if_neg this, if_pos (by omega)]

theorem sum_take_succ (l : List Int) (i : Nat) (h : i < l.length) : (l.take (i + 1)).sum = (l.take i).sum + l[i] := by
 rw [List.take_succ_eq_append_getElem h, List.sum_append]; simp

theorem num_Sum_l0 (l : List Int) (hl : l.length ≤ 65536) (hr : l.all inR = true) (d : Nat) : ∀ (k : Nat) (i : Nat) (hi lo : Int), l.length - i = d → i ≤ l.length → d + 2 < k →
  33554432 * hi + lo = (l.take i).sum → -(33554432 * i) ≤ hi → hi ≤ 33554432 * i → -(33554432 * i) ≤ lo → lo ≤ 33554432 * i →
  num_Sum.l0 k hi lo l (l.length : Int) i = some (if l.sum < -1125899906842624 ∨ 1125899906842624 < l.sum then (0, 2) else (l.sum, 0)) := by
 induction d with
 | zero =>
  intro k i hi lo hd hile hk hs h1 h2 h3 h4
  obtain ⟨k, rfl⟩ : ∃ m, k = m + 1 := ⟨k - 1, by omega⟩
  have hi' : i = l.length := by omega
  rw [hi', List.take_length] at hs
  simp only [num_Sum.l0]
  rw [if_neg (by omega)]
  obtain ⟨e, g1, g2, g3, g4⟩ := tdm lo 33554432 (by omega)
  obtain ⟨b1, b2⟩ := tdiv_le lo 33554432 i (by omega) (by omega) (by omega) (by omega)
  generalize lo.tdiv 33554432 = q at *
  generalize lo.tmod 33554432 = r at *
  rw [wrap64_id (x := q) (by omega) (by omega), wrap64_id (x := hi + q) (by omega) (by omega)]
  by_cases c1 : hi + q > 33554433
  ·rw [if_pos c1, if_pos (by omega)]
  ·rw [if_neg c1]
   by_cases c2 : hi + q < -33554433
   ·rw [if_pos c2, if_pos (by omega)]
   ·rw [if_neg c2, wrap64_id (x := (hi + q) * 33554432) (by omega) (by omega), wrap64_id (by omega) (by omega), num_result_eq _ _ (by omega)]
    have : (hi + q) * 33554432 + r = l.sum := by omega
    rw [this]; rfl
 | succ d ih =>
  intro k i hi lo hd hile hk hs h1 h2 h3 h4
  obtain ⟨k, rfl⟩ : ∃ m, k = m + 1 := ⟨k - 1, by omega⟩
  have hlt : i < l.length := by omega
  have e : rd l (i : Int) = l[i] := by simp [rd, hlt]
  have hx := (rInR_iff _).1 (List.all_eq_true.1 hr l[i] (List.getElem_mem hlt))
  simp only [num_Sum.l0]
  rw [if_pos (by omega), if_pos (by omega), if_pos (by omega), e]
  have hst := sum_take_succ l i hlt
  generalize l[i] = x at *
  obtain ⟨e0, g1, g2, g3, g4⟩ := tdm x 33554432 (by omega)
  obtain ⟨b1, b2⟩ := tdiv_le x 33554432 33554432 (by omega) (by omega) (by omega) (by omega)
  generalize x.tdiv 33554432 = q at *
  generalize x.tmod 33554432 = r at *
  rw [wrap64_id (x := q) (by omega) (by omega), wrap64_id (x := hi + q) (by omega) (by omega), wrap64_id (x := lo + r) (by omega) (by omega), wrap64_id (x := (i : Int) + 1) (by omega) (by omega)]
  have := ih k (i + 1) (hi + q) (lo + r) (by omega) (by omega) (by omega) (by rw [hst]; omega) (by omega) (by omega) (by omega) (by omega)
  rwa [show ((i + 1 : Nat) : Int) = (i : Int) + 1 from by omega] at this

theorem num_Sum_eq (l : List Int) (hl : l.length ≤ 9223372036854775806) (k : Nat) (hk : l.length + 2 < k) : num_Sum.f k l = some (sumSpec l) := by
 unfold num_Sum.f sumSpec
 by_cases c : 65536 < l.length
 ·rw [if_pos (by omega), if_pos c]
 ·rw [if_neg (by omega), if_neg c, num_in_eq l (by omega) k (by omega)]
  simp only [Option.bind_some]
  cases h : l.all inR with
  | false => simp
  | true =>
   rw [if_pos rfl, if_neg (by simp)]
   exact num_Sum_l0 l (by omega) h l.length k 0 0 0 (by omega) (by omega) (by omega) (by simp) (by omega) (by omega) (by omega) (by omega)
end Go.Proofs.Ytgbjlcaanagfnaa.P

namespace Go.Proofs.Ytgbjlcaanagfnaa.P
open Go.RowKit Go.Proofs.YtgbjlcaanagfnaaW.PrintWords Go.Proofs.YtgbjlcaanagfnaaW.PrintLast Go.Proofs.YtgbjlcaanagfnaaW.PrintMore
set_option linter.unusedVariables false
set_option linter.unusedSimpArgs false

theorem weight_closure (x : Int) (W : World) :
  Calls Try.prog 53 (#[.int .i64 x] ++ #[]) W fun e w' => e = .returned (.bool (decide (x < 0 ∨ 1125899906842624 < x))) ∧ Below W.heap.size W w' := by
 by_cases h0 : x < 0
 ·have d0 : decide (x < 0) = true := decide_eq_true h0
  go_enter Try.func53, Try.ntmps53
  go_wp2
  go_ret
  refine ⟨by simp [h0], ?_⟩
  first | exact Below.refl _ _ | exact pw_below_drewN (Below.refl _ _) _
 ·have d0 : decide (x < 0) = false := decide_eq_false h0
  go_enter Try.func53, Try.ntmps53
  go_wp2
  go_ret
  refine ⟨by simp [h0], ?_⟩
  first | exact Below.refl _ _ | exact pw_below_drewN (Below.refl _ _) _

/-- What a division asks of its amount and its weights. -/
def goodW (total : Int) (l : List Int) : Prop := 0 ≤ total ∧ total ≤ 1125899906842624 ∧ 1 ≤ l.length ∧ l.length ≤ 19 ∧ (∀ x ∈ l, 0 ≤ x ∧ x ≤ 1125899906842624) ∧ l.sum ≤ 1125899906842624 ∧ (l.sum = 0 → total = 0)
theorem sum_nonneg : ∀ l : List Int, (∀ x ∈ l, 0 ≤ x) → 0 ≤ l.sum
 | [], _ => by simp
 | x :: l, h => by
  have := h x (by simp); have := sum_nonneg l (fun y hy => h y (by simp [hy]))
  simp only [List.sum_cons]; omega

set_option maxHeartbeats 1000000 in
set_option maxRecDepth 100000 in
theorem check_good (total : Int) (A0 : Option Addr) (c0 : Nat) (l : List Int) (w : World) (hr0 : Kd.C (Kd.int .i64) w A0 l.length l) (hc0 : l.length ≤ c0) (h : goodW total l) :
  Calls Try.prog 35 #[.int .i64 total, .slice A0 l.length c0] w fun e w' => e = .returned (.tuple #[.int .i64 l.sum, .int .i64 0]) ∧ Below w.heap.size w w' := by
 obtain ⟨h1, h2, h3, h4, h5, h6, h7⟩ := h
 have hs0 := sum_nonneg l (fun x hx => (h5 x hx).1)
 have hsum : num_Sum.f 100 l = some (l.sum, 0) := by
  rw [num_Sum_eq l (by omega) 100 (by omega)]
  unfold sumSpec
  have : l.all inR = true := List.all_eq_true.2 fun x hx => (rInR_iff x).2 (by have := h5 x hx; omega)
  rw [if_neg (by omega), if_neg (by rw [this]; simp), if_neg (by omega)]
 have hany : l.any (fun x => decide (x < 0 ∨ 1125899906842624 < x)) = false := by
  rw [List.any_eq_false]; intro x hx; have := h5 x hx; simp; omega
 have hc := contains_calls 53 #[] A0 c0 l (fun x => decide (x < 0 ∨ 1125899906842624 < x)) w (Go.Proofs.enters_of Try.func53 (by kernel_rfl) rfl) hr0 (fun W x hB => weight_closure x W)
 rw [hany] at hc
 have HC := Aside0.mk hc
 have HS := Aside0.mk hsum
 have HR := Aside0.mk hr0
 have HB := Aside0.mk (Below.refl w.heap.size w)
 have d1 : decide (total < 0) = false := decide_eq_false (by omega)
 have d2 : decide (1125899906842624 < total) = false := decide_eq_false (by omega)
 have d3 : ((l.length : Int) == 0) = false := beq_eq_false_iff_ne.mpr (by omega)
 have d4 : decide (512 < (l.length : Int)) = false := decide_eq_false (by omega)
 have d5 : (l.sum == 0 && decide (0 < total)) = false := by
  by_cases c : l.sum = 0
  ·rw [h7 c]; simp
  ·simp [c]
 generalize l.sum = s at *
 clear hc hsum hany h5 hr0
 by_cases c : s = 0
 ·have e7 : total = 0 := h7 c
  subst e7
  subst c
  clear h7 d5
  go_enter Try.func35, Try.ntmps35
  go_wp2_with (first
   | (go_at_call 26; refine HC.out.mono ?_; rintro e w1 ⟨rfl, hb⟩; have n0_ := Aside0.mk (below_step HB.out hb); clear HB; have HB := n0_; clear n0_ hb) | (go_at_call 54; (with_reducible refine (num_Sum.calls 100 A0 c0 l 0 0 _ (Kd.C_below HR.out HB.out) hc0 HS.out).mono ?_); rintro e w2 ⟨rfl, hb⟩; have n0_ := Aside0.mk (below_step HB.out hb); clear HB; have HB := n0_; clear n0_ hb))
  go_ret2
  exact ⟨rfl, HB.out⟩
 ·have d6 : (s == 0) = false := beq_eq_false_iff_ne.mpr c
  go_enter Try.func35, Try.ntmps35
  go_wp2_with (first
   | (go_at_call 26; refine HC.out.mono ?_; rintro e w1 ⟨rfl, hb⟩; have n0_ := Aside0.mk (below_step HB.out hb); clear HB; have HB := n0_; clear n0_ hb) | (go_at_call 54; (with_reducible refine (num_Sum.calls 100 A0 c0 l s 0 _ (Kd.C_below HR.out HB.out) hc0 HS.out).mono ?_); rintro e w2 ⟨rfl, hb⟩; have n0_ := Aside0.mk (below_step HB.out hb); clear HB; have HB := n0_; clear n0_ hb))
  go_ret2
  exact ⟨rfl, HB.out⟩
end Go.Proofs.Ytgbjlcaanagfnaa.P
