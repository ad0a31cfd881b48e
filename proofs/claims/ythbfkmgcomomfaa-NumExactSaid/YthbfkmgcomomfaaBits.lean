/- Words of 64 bits: masks, joins, and the two words of a product as the walk spells them. -/
import Derived.Laws.BitsAllLaws
import Derived.Laws.Bits64
import Derived.Laws.BitsLemmas
import Derived.Test.YthbfkmgcomomfaaMath
namespace Go.Proofs.Ythbfkmgcomomfaa.Math

theorem and_mask32 (x : Int) (h0 : 0 ≤ x) (h1 : x < 18446744073709551616) : bits .and .u64 x 4294967295 = x % 4294967296 := by
  rw [u64_and x _ h0 h1 (by omega) (by omega)]
  show ((x.toNat &&& 4294967295 : Nat) : Int) = _
  have : x.toNat &&& 4294967295 = x.toNat % 4294967296 := Nat.and_two_pow_sub_one_eq_mod x.toNat 32
  rw [this]; omega

theorem and_one (x : Int) (h0 : 0 ≤ x) (h1 : x < 18446744073709551616) : bits .and .u64 x 1 = x % 2 := by
  rw [u64_and x _ h0 h1 (by omega) (by omega)]
  show ((x.toNat &&& 1 : Nat) : Int) = _
  have : x.toNat &&& 1 = x.toNat % 2 := Nat.and_two_pow_sub_one_eq_mod x.toNat 1
  rw [this]; omega

theorem or_join32 (y z : Int) (h0 : 0 ≤ y) (h1 : y < 18446744073709551616) (hy : y % 4294967296 = 0) (h2 : 0 ≤ z) (h3 : z < 4294967296) : bits .or .u64 y z = y + z := by
  rw [u64_or y z h0 h1 h2 (by omega)]
  have : y.toNat ||| z.toNat = y.toNat + z.toNat := nat_join 32 _ _ (by show y.toNat % 4294967296 = 0; omega) (by show z.toNat < 4294967296; omega)
  rw [this]; omega

theorem or_one (y z : Int) (h0 : 0 ≤ y) (h1 : y < 18446744073709551616) (hy : y % 2 = 0) (h2 : 0 ≤ z) (h3 : z < 2) : bits .or .u64 y z = y + z := by
  rw [u64_or y z h0 h1 h2 (by omega)]
  have : y.toNat ||| z.toNat = y.toNat + z.toNat := nat_join 1 _ _ (by show y.toNat % 2 = 0; omega) (by show z.toNat < 2; omega)
  rw [this]; omega

def pLow (a b : Int) : Int := IntKind.u64.wrap (bits .and .u64 a 4294967295 * bits .and .u64 b 4294967295)
def pMid (a b : Int) : Int := IntKind.u64.wrap (IntKind.u64.wrap (a / 4294967296 * bits .and .u64 b 4294967295) + IntKind.u64.wrap (bits .and .u64 a 4294967295 * bits .and .u64 b 4294967295) / 4294967296)
def pMore (a b : Int) : Int := IntKind.u64.wrap (IntKind.u64.wrap (bits .and .u64 a 4294967295 * (b / 4294967296)) + bits .and .u64 (pMid a b) 4294967295)
def pHi (a b : Int) : Int := IntKind.u64.wrap (IntKind.u64.wrap (IntKind.u64.wrap (a / 4294967296 * (b / 4294967296)) + pMid a b / 4294967296) + pMore a b / 4294967296)
def pLo (a b : Int) : Int := bits .or .u64 (IntKind.u64.wrap (pMore a b * 4294967296)) (bits .and .u64 (pLow a b) 4294967295)

theorem p_words (a b : Int) (ha : 0 ≤ a) (ha' : a ≤ 1125899906842624) (hb : 0 ≤ b) (hb' : b ≤ 1125899906842624) :
    pHi a b * 18446744073709551616 + pLo a b = a * b ∧ 0 ≤ pHi a b ∧ pHi a b < 18446744073709551616 ∧ 0 ≤ pLo a b ∧ pLo a b < 18446744073709551616 := by
  have e := prod_words a b
  have b11 := mul_le (x := a / 4294967296) (y := b / 4294967296) (X := 262144) (Y := 262144) (by omega) (by omega) (by omega) (by omega)
  have b10 := mul_le (x := a / 4294967296) (y := b % 4294967296) (X := 262144) (Y := 4294967295) (by omega) (by omega) (by omega) (by omega)
  have b01 := mul_le (x := a % 4294967296) (y := b / 4294967296) (X := 4294967295) (Y := 262144) (by omega) (by omega) (by omega) (by omega)
  have b00 := mul_le (x := a % 4294967296) (y := b % 4294967296) (X := 4294967295) (Y := 4294967295) (by omega) (by omega) (by omega) (by omega)
  have c11 : 0 ≤ a / 4294967296 * (b / 4294967296) := Int.mul_nonneg (by omega) (by omega)
  have c10 : 0 ≤ a / 4294967296 * (b % 4294967296) := Int.mul_nonneg (by omega) (by omega)
  have c01 : 0 ≤ a % 4294967296 * (b / 4294967296) := Int.mul_nonneg (by omega) (by omega)
  have c00 : 0 ≤ a % 4294967296 * (b % 4294967296) := Int.mul_nonneg (by omega) (by omega)
  have ea : bits .and .u64 a 4294967295 = a % 4294967296 := and_mask32 a ha (by omega)
  have eb : bits .and .u64 b 4294967295 = b % 4294967296 := and_mask32 b hb (by omega)
  have elow : pLow a b = a % 4294967296 * (b % 4294967296) := by unfold pLow; rw [ea, eb, IntKind.wrap_u64]; omega
  have emid : pMid a b = a / 4294967296 * (b % 4294967296) + a % 4294967296 * (b % 4294967296) / 4294967296 := by
    unfold pMid; rw [ea, eb]; simp only [IntKind.wrap_u64]; omega
  have emore : pMore a b = a % 4294967296 * (b / 4294967296) + (a / 4294967296 * (b % 4294967296) + a % 4294967296 * (b % 4294967296) / 4294967296) % 4294967296 := by
    unfold pMore; rw [ea, emid, and_mask32 _ (by omega) (by omega)]; simp only [IntKind.wrap_u64]; omega
  have ehi : pHi a b = a / 4294967296 * (b / 4294967296) + (a / 4294967296 * (b % 4294967296) + a % 4294967296 * (b % 4294967296) / 4294967296) / 4294967296 + pMore a b / 4294967296 := by
    unfold pHi; rw [emid, emore]; simp only [IntKind.wrap_u64]; omega
  have elo : pLo a b = pMore a b % 4294967296 * 4294967296 + a % 4294967296 * (b % 4294967296) % 4294967296 := by
    unfold pLo
    rw [elow, and_mask32 _ (by omega) (by omega), or_join32 _ _ (by rw [IntKind.wrap_u64]; omega) (by rw [IntKind.wrap_u64]; omega) (by rw [IntKind.wrap_u64]; omega) (by omega) (by omega), IntKind.wrap_u64]
    omega
  rw [ehi, elo, emore]
  refine ⟨e, ?_⟩
  generalize a / 4294967296 * (b / 4294967296) = t11 at *
  generalize a / 4294967296 * (b % 4294967296) = t10 at *
  generalize a % 4294967296 * (b / 4294967296) = t01 at *
  generalize a % 4294967296 * (b % 4294967296) = t00 at *
  omega
end Go.Proofs.Ythbfkmgcomomfaa.Math
