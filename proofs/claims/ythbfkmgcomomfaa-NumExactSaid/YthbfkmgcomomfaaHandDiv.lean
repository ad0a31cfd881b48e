/- (num.wide).divide: long division of a number of 128 bits by one of at most 2^50, bit by bit. -/
import Derived.Test.YthbfkmgcomomfaaPx0
import Derived.Test.YthbfkmgcomomfaaBits
namespace Go.Proofs.Ythbfkmgcomomfaa.P
open Go.RowKit Go.Proofs.YthbfkmgcomomfaaW.PrintWords Go.Proofs.YthbfkmgcomomfaaW.PrintLast Go.Proofs.YthbfkmgcomomfaaW.PrintMore Go.Proofs.Ythbfkmgcomomfaa.Math
set_option linter.unusedVariables false

def dQ (P c : Nat) : Int := if P / c < 4611686018427387904 then ((P / c : Nat) : Int) else 0
def dR (P c : Nat) : Int := if P / c < 4611686018427387904 then ((P % c : Nat) : Int) else 0
def dB (P c : Nat) : Bool := decide (P / c < 4611686018427387904)

theorem or_bit (r W j : Nat) (hr : r < 1125899906842624) (hW : W < 18446744073709551616) :
    bits .or .u64 ((r : Int) * 2) (bits .and .u64 ((W : Int) / 2 ^ j) 1) = ((2 * r + W / 2 ^ j % 2 : Nat) : Int) := by
  have e : (W : Int) / 2 ^ j = ((W / 2 ^ j : Nat) : Int) := by rw [Int.natCast_ediv, Int.natCast_pow]; rfl
  have hle : W / 2 ^ j ≤ W := Nat.div_le_self _ _
  rw [e]
  generalize W / 2 ^ j = v at *
  rw [and_one _ (by omega) (by omega), or_one _ _ (by omega) (by omega) (by omega) (by omega) (by omega)]
  omega

/-- The next bit of the dividend, out of its word. -/
theorem next_bit (x y i : Nat) (hy : y < 18446744073709551616) (hi : i < 128) :
    (if i < 64 then x else y) / 2 ^ (63 - i % 64) % 2 = (x * 18446744073709551616 + y) / 2 ^ (127 - i) % 2 := by
  by_cases h : i < 64
  · rw [if_pos h, show i % 64 = i from Nat.mod_eq_of_lt h, bit_high x y i hy h]
  · rw [if_neg h, bit_low x y i (by omega) hi, show 63 - i % 64 = 127 - i from by omega]

theorem round_more (P c i q r b : Nat) (hc : 0 < c) (hi : i < 128) (hq : q = P / 2 ^ (128 - i) / c) (hr : r = P / 2 ^ (128 - i) % c) (hb : b = P / 2 ^ (127 - i) % 2) (h : c ≤ 2 * r + b) :
    2 * q + 1 = P / 2 ^ (128 - (i + 1)) / c ∧ 2 * r + b - c = P / 2 ^ (128 - (i + 1)) % c := by
  obtain ⟨h1, h2⟩ := step_divmod (x := P / 2 ^ (128 - i)) (c := c) (b := b) hc (by omega)
  rw [pre_succ P i hi, ← hb, h1, h2, ← hq, ← hr, if_pos h, if_pos h]
  exact ⟨rfl, rfl⟩
theorem round_same (P c i q r b : Nat) (hc : 0 < c) (hi : i < 128) (hq : q = P / 2 ^ (128 - i) / c) (hr : r = P / 2 ^ (128 - i) % c) (hb : b = P / 2 ^ (127 - i) % 2) (h : ¬ c ≤ 2 * r + b) :
    2 * q = P / 2 ^ (128 - (i + 1)) / c ∧ 2 * r + b = P / 2 ^ (128 - (i + 1)) % c := by
  obtain ⟨h1, h2⟩ := step_divmod (x := P / 2 ^ (128 - i)) (c := c) (b := b) hc (by omega)
  rw [pre_succ P i hi, ← hb, h1, h2, ← hq, ← hr, if_neg h, if_neg h]
  exact ⟨rfl, rfl⟩

theorem too_long (P c i q : Nat) (hi : i < 128) (hq : q = P / 2 ^ (128 - i) / c) (h : ¬ q < 2305843009213693952) : ¬ P / c < 4611686018427387904 := by
  have h1 : P / 2 ^ (128 - i) ≤ P / 2 := by
    rw [show 128 - i = (127 - i) + 1 from by omega, Nat.pow_succ, Nat.mul_comm, ← Nat.div_div_eq_div_mul]
    exact Nat.div_le_self _ _
  have h2 : P / 2 ^ (128 - i) / c ≤ P / 2 / c := Nat.div_le_div_right h1
  have h3 : P / 2 / c = P / c / 2 := by rw [Nat.div_div_eq_div_mul, Nat.mul_comm, ← Nat.div_div_eq_div_mul]
  rw [h3] at h2
  omega

theorem int_of {a b : Int} {k : IntKind} (h : a = b) : Value.int k a = Value.int k b := by rw [h]

set_option maxHeartbeats 1000000 in
set_option maxRecDepth 100000 in
theorem divide_calls (x y c : Nat) (w : World) (hx : x < 18446744073709551616) (hy : y < 18446744073709551616) (hc : 0 < c) (hc' : c ≤ 1125899906842624) :
    Calls Try.prog 13 #[.agg #[.int .u64 x, .int .u64 y], .int .u64 c] w fun e w' => e = .returned (.tuple #[.int .u64 (dQ (x * 18446744073709551616 + y) c), .int .u64 (dR (x * 18446744073709551616 + y) c), .bool (dB (x * 18446744073709551616 + y) c)]) ∧ Below w.heap.size w w' := by
  have NB := fun i (hi : i < 128) => next_bit x y i hy hi
  have HNB := Aside0.mk NB
  clear NB
  have HP0 : Aside0 (x * 18446744073709551616 + y < 2 ^ 128) := ⟨by omega⟩
  go_enter Try.func13, Try.ntmps13
  go_wp2
  go_loopg [7, 8, 12] 128 (fun kq v7 v8 v12 w' => ∃ (i q r : Nat), v7 = .int .u64 q ∧ v8 = .int .u64 r ∧ v12 = .int .i64 i ∧ i + kq = 128 ∧ Aside0 (q = (x * 18446744073709551616 + y) / 2 ^ (128 - i) / c ∧ r = (x * 18446744073709551616 + y) / 2 ^ (128 - i) % c) ∧ r < c ∧ q < 4611686018427387904 ∧ Drawn0 (w.alloc (.cells #[.int .u64 x, .int .u64 y] 33)) w')
  case atStart =>
    refine ⟨0, 0, 0, rfl, rfl, rfl, rfl, ⟨?_⟩, hc, by omega, Drawn0.refl _⟩
    rw [show (x * 18446744073709551616 + y) / 2 ^ (128 - 0) = 0 from Nat.div_eq_of_lt HP0.out]
    exact ⟨by simp, by simp⟩
  case round =>
    obtain ⟨i, q, r, rfl, rfl, rfl, hi, HS, hr, hq, ⟨m1, rfl⟩⟩ := hrel
    by_cases hlt : i < 128
    · by_cases h64 : i < 64
      · have e0 : (i : Int) / 64 = 0 := by omega
        have hb0 := HNB.out i hlt
        rw [if_pos h64] at hb0
        have HB0 := Aside0.mk hb0
        clear hb0
        by_cases hb : q < 2305843009213693952
        · go_wp2
          · have ht : (c : Int) ≤ bits .or .u64 ((r : Int) * 2) (bits .and .u64 ((x : Int) / 2 ^ (63 - i % 64)) 1) := by assumption
            rw [or_bit r x _ (by omega) hx] at ht ⊢
            obtain ⟨g1, g2⟩ := round_more _ c i q r _ hc hlt HS.out.1 HS.out.2 HB0.out (by omega)
            go_roundg (128 - (i + 1))
            case measure => omega
            case rel => exact ⟨i + 1, 2 * q + 1, 2 * r + x / 2 ^ (63 - i % 64) % 2 - c, int_of (by rw [or_one _ _ (by omega) (by omega) (by omega) (by omega) (by omega)]; omega), int_of (by rw [IntKind.wrap_u64]; omega), int_of (by omega), by omega, ⟨g1, g2⟩, by omega, by omega, ⟨⟨m1, rfl⟩⟩⟩
          · have ht : bits .or .u64 ((r : Int) * 2) (bits .and .u64 ((x : Int) / 2 ^ (63 - i % 64)) 1) < (c : Int) := by assumption
            rw [or_bit r x _ (by omega) hx] at ht ⊢
            obtain ⟨g1, g2⟩ := round_same _ c i q r _ hc hlt HS.out.1 HS.out.2 HB0.out (by omega)
            go_roundg (128 - (i + 1))
            case measure => omega
            case rel => exact ⟨i + 1, 2 * q, 2 * r + x / 2 ^ (63 - i % 64) % 2, int_of (by omega), rfl, int_of (by omega), by omega, ⟨g1, g2⟩, by omega, by omega, ⟨⟨m1, rfl⟩⟩⟩
        · have HL := too_long _ c i q hlt HS.out.1 hb
          have H1 : Aside0 (dQ (x * 18446744073709551616 + y) c = 0 ∧ dR (x * 18446744073709551616 + y) c = 0 ∧ dB (x * 18446744073709551616 + y) c = false) := ⟨by unfold dQ dR dB; rw [if_neg HL, if_neg HL]; exact ⟨rfl, rfl, decide_eq_false HL⟩⟩
          clear HL
          have hb1 : ((q : Int) / 2305843009213693952 != 0) = true := by rw [bne_iff_ne]; omega
          go_wp2
          refine bodyPost_ret (results_tmp3 rfl _ _ _) rfl ?_
          exact ⟨by rw [H1.out.1, H1.out.2.1, H1.out.2.2]; rfl, pw_below_drewN (below_alloc (Below.refl _ _) _) _⟩
      · have e0 : (i : Int) / 64 = 1 := by omega
        have hb0 := HNB.out i hlt
        rw [if_neg h64] at hb0
        have HB0 := Aside0.mk hb0
        clear hb0
        by_cases hb : q < 2305843009213693952
        · go_wp2
          · have ht : (c : Int) ≤ bits .or .u64 ((r : Int) * 2) (bits .and .u64 ((y : Int) / 2 ^ (63 - i % 64)) 1) := by assumption
            rw [or_bit r y _ (by omega) hy] at ht ⊢
            obtain ⟨g1, g2⟩ := round_more _ c i q r _ hc hlt HS.out.1 HS.out.2 HB0.out (by omega)
            go_roundg (128 - (i + 1))
            case measure => omega
            case rel => exact ⟨i + 1, 2 * q + 1, 2 * r + y / 2 ^ (63 - i % 64) % 2 - c, int_of (by rw [or_one _ _ (by omega) (by omega) (by omega) (by omega) (by omega)]; omega), int_of (by rw [IntKind.wrap_u64]; omega), int_of (by omega), by omega, ⟨g1, g2⟩, by omega, by omega, ⟨⟨m1, rfl⟩⟩⟩
          · have ht : bits .or .u64 ((r : Int) * 2) (bits .and .u64 ((y : Int) / 2 ^ (63 - i % 64)) 1) < (c : Int) := by assumption
            rw [or_bit r y _ (by omega) hy] at ht ⊢
            obtain ⟨g1, g2⟩ := round_same _ c i q r _ hc hlt HS.out.1 HS.out.2 HB0.out (by omega)
            go_roundg (128 - (i + 1))
            case measure => omega
            case rel => exact ⟨i + 1, 2 * q, 2 * r + y / 2 ^ (63 - i % 64) % 2, int_of (by omega), rfl, int_of (by omega), by omega, ⟨g1, g2⟩, by omega, by omega, ⟨⟨m1, rfl⟩⟩⟩
        · have HL := too_long _ c i q hlt HS.out.1 hb
          have H1 : Aside0 (dQ (x * 18446744073709551616 + y) c = 0 ∧ dR (x * 18446744073709551616 + y) c = 0 ∧ dB (x * 18446744073709551616 + y) c = false) := ⟨by unfold dQ dR dB; rw [if_neg HL, if_neg HL]; exact ⟨rfl, rfl, decide_eq_false HL⟩⟩
          clear HL
          have hb1 : ((q : Int) / 2305843009213693952 != 0) = true := by rw [bne_iff_ne]; omega
          go_wp2
          refine bodyPost_ret (results_tmp3 rfl _ _ _) rfl ?_
          exact ⟨by rw [H1.out.1, H1.out.2.1, H1.out.2.2]; rfl, pw_below_drewN (below_alloc (Below.refl _ _) _) _⟩
    · have h128 : i = 128 := by omega
      have hq1 := HS.out.1
      have hr1 := HS.out.2
      rw [h128, show 128 - 128 = 0 from rfl, Nat.pow_zero, Nat.div_one] at hq1 hr1
      have H1 : Aside0 (dQ (x * 18446744073709551616 + y) c = q ∧ dR (x * 18446744073709551616 + y) c = r ∧ dB (x * 18446744073709551616 + y) c = true) := ⟨by unfold dQ dR dB; rw [← hq1, ← hr1, if_pos hq, if_pos hq]; exact ⟨rfl, rfl, decide_eq_true hq⟩⟩
      clear hq1 hr1 h128
      go_wp2
      refine bodyPost_ret (results_tmp3 rfl _ _ _) rfl ?_
      exact ⟨by rw [H1.out.1, H1.out.2.1, H1.out.2.2]; rfl, pw_below_drewN (below_alloc (Below.refl _ _) _) _⟩

def num_wide_divide.f (a0_0 a0_1 a1 : Int) : Option (Int × Int × Bool) :=
  if 0 ≤ a0_0 ∧ a0_0 < 18446744073709551616 ∧ 0 ≤ a0_1 ∧ a0_1 < 18446744073709551616 ∧ 0 < a1 ∧ a1 ≤ 1125899906842624 then
    some (dQ (a0_0.toNat * 18446744073709551616 + a0_1.toNat) a1.toNat, dR (a0_0.toNat * 18446744073709551616 + a0_1.toNat) a1.toNat, dB (a0_0.toNat * 18446744073709551616 + a0_1.toNat) a1.toNat) else none

theorem num_wide_divide.calls (a0_0 a0_1 a1 r1 r2 : Int) (r3 : Bool) (w : World) (h : num_wide_divide.f a0_0 a0_1 a1 = some (r1, r2, r3)) :
    Calls Try.prog 13 #[.agg #[.int .u64 a0_0, .int .u64 a0_1], .int .u64 a1] w fun e w' => e = .returned (.tuple #[.int .u64 r1, .int .u64 r2, .bool r3]) ∧ Below w.heap.size w w' := by
  unfold num_wide_divide.f at h
  split at h
  · rename_i hc
    obtain ⟨h1, h2, h3, h4, h5, h6⟩ := hc
    obtain ⟨rfl, g⟩ := Prod.mk.inj (Option.some.inj h)
    obtain ⟨rfl, rfl⟩ := Prod.mk.inj g
    clear h g
    obtain ⟨x, rfl⟩ := Int.eq_ofNat_of_zero_le h1
    obtain ⟨y, rfl⟩ := Int.eq_ofNat_of_zero_le h3
    obtain ⟨c, rfl⟩ := Int.eq_ofNat_of_zero_le (Int.le_of_lt h5)
    simp only [Int.toNat_natCast]
    exact divide_calls x y c w (by omega) (by omega) (by omega) (by omega)
  · cases h
end Go.Proofs.Ythbfkmgcomomfaa.P
