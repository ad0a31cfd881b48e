/- The reference's MulDiv answers Math.md, for any four integers. -/
import Derived.Test.YtpmopomiadaonaaRefBase
import Derived.Test.YtpmopomiadaonaaPx6
import Derived.Test.YtpmopomiadaonaaPx5
namespace Go.Proofs.Ytpmopomiadaonaa.P
open Go.RowKit Go.Proofs.YtpmopomiadaonaaW.PrintWords Go.Proofs.YtpmopomiadaonaaW.PrintLast Go.Proofs.YtpmopomiadaonaaW.PrintMore Go.Proofs.Ytpmopomiadaonaa.Math
set_option linter.unusedVariables false

theorem i64_and_one (x : Int) (h0 : 0 ≤ x) (h1 : x < 9223372036854775808) : bits .and .i64 x 1 = x % 2 := by
  obtain ⟨n, rfl⟩ := Int.eq_ofNat_of_zero_le h0
  have e1 : (BitVec.ofInt 64 (n : Int)).toNat = n := by rw [BitVec.ofInt_natCast, BitVec.toNat_ofNat]; exact Nat.mod_eq_of_lt (by omega)
  show IntKind.i64.wrap ((BitVec.ofInt 64 (n : Int) &&& BitVec.ofInt 64 1).toNat : Int) = _
  rw [BitVec.toNat_and, e1, show (BitVec.ofInt 64 1).toNat = 1 from rfl, Nat.and_one_is_mod, IntKind.wrap_i64]
  omega

theorem tdiv_pos {x d : Int} (h0 : 0 ≤ x) : x.tdiv d = x / d := Int.tdiv_eq_ediv_of_nonneg h0
theorem tmod_pos {x d : Int} (h0 : 0 ≤ x) : x.tmod d = x % d := Int.tmod_eq_emod_of_nonneg h0

/-- One more bit of the factor: quotient (cut off at 2^52) and remainder. -/
theorem ref_step (X y c q r : Int) (hc : 0 < c) (hX : 0 ≤ X) (hy : 0 ≤ y) (hq : q = min (X / c) 4503599627370496) (hr : r = X % c) :
    mn (2 * q + (2 * r + y) / c) 4503599627370496 = min ((2 * X + y) / c) 4503599627370496 ∧ (2 * r + y) % c = (2 * X + y) % c ∧ 0 ≤ (2 * r + y) / c := by
  have h1 := Int.mul_ediv_add_emod X c
  have h2 := Int.emod_nonneg X (show c ≠ 0 by omega)
  have e : 2 * X + y = (2 * r + y) + c * (2 * (X / c)) := by rw [hr]; grind
  have hdiv : (2 * X + y) / c = 2 * (X / c) + (2 * r + y) / c := by rw [e, Int.add_mul_ediv_left _ _ (show c ≠ 0 by omega)]; omega
  have hmod : (2 * X + y) % c = (2 * r + y) % c := by rw [e, Int.add_mul_emod_self_left]
  have hn : 0 ≤ (2 * r + y) / c := Int.ediv_nonneg (by omega) (by omega)
  refine ⟨?_, hmod.symm, hn⟩
  rw [hdiv]
  unfold mn
  generalize (2 * r + y) / c = z at *
  generalize X / c = Q at *
  split <;> omega

theorem ref_divide_l0 (a b c : Nat) (ha : a ≤ 1125899906842624) (hb : b ≤ 1125899906842624) (hc : 0 < c) (hc' : c ≤ 1125899906842624) (j : Nat) : ∀ (k : Nat) (q r : Int), j ≤ 51 → j < k →
    q = min (((a / 2 ^ j * b : Nat) : Int) / (c : Int)) 4503599627370496 → r = ((a / 2 ^ j * b : Nat) : Int) % (c : Int) →
    papermillref01_divide.l0 k (a : Int) (b : Int) (c : Int) q r ((j : Int) - 1) = some (min (((a * b : Nat) : Int) / (c : Int)) 4503599627370496, ((a * b : Nat) : Int) % (c : Int)) := by
  induction j with
  | zero =>
    intro k q r hj hk hq hr
    obtain ⟨k, rfl⟩ : ∃ m, k = m + 1 := ⟨k - 1, by omega⟩
    simp only [papermillref01_divide.l0]
    rw [if_neg (by omega), hq, hr]
    simp
  | succ j ih =>
    intro k q r hj hk hq hr
    obtain ⟨k, rfl⟩ : ∃ m, k = m + 1 := ⟨k - 1, by omega⟩
    have hcz : (0 : Int) < (c : Int) := by omega
    have hXn : (0 : Int) ≤ ((a / 2 ^ (j + 1) * b : Nat) : Int) := Int.natCast_nonneg _
    have hr0 : 0 ≤ r := by rw [hr]; exact Int.emod_nonneg _ (by omega)
    have hr1 : r < (c : Int) := by rw [hr]; exact Int.emod_lt_of_pos _ hcz
    have hq0 : 0 ≤ q := by rw [hq]; have := Int.ediv_nonneg hXn (show (0 : Int) ≤ (c : Int) by omega); omega
    have hq1 : q ≤ 4503599627370496 := by rw [hq]; omega
    have hbit : a / 2 ^ j = 2 * (a / 2 ^ (j + 1)) + a / 2 ^ j % 2 := by rw [Nat.pow_succ, ← Nat.div_div_eq_div_mul]; omega
    have hshr : shr .i64 (a : Int) (((j + 1 : Nat) : Int) - 1) = ((a / 2 ^ j : Nat) : Int) := by
      unfold shr
      rw [show (((j + 1 : Nat) : Int) - 1).toNat = j from by omega, show min j IntKind.i64.bits = j from by simp [IntKind.bits]; omega, Int.natCast_ediv, Int.natCast_pow]
      rfl
    have hle : a / 2 ^ j ≤ a := Nat.div_le_self _ _
    have hand : bits .and .i64 ((a / 2 ^ j : Nat) : Int) 1 = ((a / 2 ^ j % 2 : Nat) : Int) := by rw [i64_and_one _ (by omega) (by omega)]; omega
    simp only [papermillref01_divide.l0]
    rw [if_pos (by omega), if_pos (by omega), hshr, hand, if_neg (show ¬ (c : Int) = 0 by omega), if_neg (show ¬ (c : Int) = 0 by omega)]
    rw [wrap64_id (x := 2 * q) (by omega) (by omega), wrap64_id (x := 2 * r) (by omega) (by omega), wrap64_id (x := 2 * r + (b : Int)) (by omega) (by omega), wrap64_id (x := ((j + 1 : Nat) : Int) - 1 - 1) (by omega) (by omega)]
    have hz : ∀ y : Int, 0 ≤ y → y ≤ 1125899906842624 → 0 ≤ (2 * r + y) / (c : Int) ∧ (2 * r + y) / (c : Int) ≤ 3377699720527872 := fun y h0 h1 => by
      have g1 := Int.ediv_nonneg (show 0 ≤ 2 * r + y by omega) (show (0 : Int) ≤ (c : Int) by omega)
      have g2 := Int.ediv_le_self (c : Int) (show 0 ≤ 2 * r + y by omega)
      exact ⟨g1, by omega⟩
    rw [tdiv_pos (show 0 ≤ 2 * r + (b : Int) by omega), tdiv_pos (show 0 ≤ 2 * r by omega), tmod_pos (show 0 ≤ 2 * r + (b : Int) by omega), tmod_pos (show 0 ≤ 2 * r by omega)]
    have z1 := hz b (by omega) (by omega)
    have z0 := hz 0 (by omega) (by omega)
    rw [Int.add_zero] at z0
    rw [wrap64_id (x := (2 * r + (b : Int)) / (c : Int)) (by omega) (by omega), wrap64_id (x := 2 * r / (c : Int)) (by omega) (by omega), wrap64_id (x := 2 * q + (2 * r + (b : Int)) / (c : Int)) (by omega) (by omega), wrap64_id (x := 2 * q + 2 * r / (c : Int)) (by omega) (by omega)]
    have hidx : (((j + 1 : Nat) : Int) - 1 - 1) = ((j : Int) - 1) := by omega
    rw [hidx]
    by_cases hb1 : a / 2 ^ j % 2 = 1
    · rw [if_pos (by omega)]
      obtain ⟨s1, s2, _⟩ := ref_step ((a / 2 ^ (j + 1) * b : Nat) : Int) b c q r hcz hXn (by omega) hq hr
      have e : 2 * ((a / 2 ^ (j + 1) * b : Nat) : Int) + (b : Int) = ((a / 2 ^ j * b : Nat) : Int) := by
        rw [hbit, hb1, Nat.add_mul]
        simp only [Int.natCast_mul, Int.natCast_add]
        grind
      rw [e] at s1 s2
      exact ih k _ _ (by omega) (by omega) s1 s2
    · rw [if_neg (by omega)]
      obtain ⟨s1, s2, _⟩ := ref_step ((a / 2 ^ (j + 1) * b : Nat) : Int) 0 c q r hcz hXn (by omega) hq hr
      have hb0 : a / 2 ^ j % 2 = 0 := by omega
      have e : 2 * ((a / 2 ^ (j + 1) * b : Nat) : Int) + 0 = ((a / 2 ^ j * b : Nat) : Int) := by
        rw [hbit, hb0, Nat.add_mul]
        simp only [Int.natCast_mul, Int.natCast_add]
        grind
      rw [e, Int.add_zero] at s1 s2
      exact ih k _ _ (by omega) (by omega) s1 s2

theorem ref_divide_eq (a b c : Int) (ha : 0 ≤ a) (ha' : a ≤ 1125899906842624) (hb : 0 ≤ b) (hb' : b ≤ 1125899906842624) (hc : 0 < c) (hc' : c ≤ 1125899906842624) (k : Nat) (hk : 52 ≤ k) :
    papermillref01_divide.f k a b c = some (min (a * b / c) 4503599627370496, a * b % c) := by
  obtain ⟨a, rfl⟩ := Int.eq_ofNat_of_zero_le ha
  obtain ⟨b, rfl⟩ := Int.eq_ofNat_of_zero_le hb
  obtain ⟨c, rfl⟩ := Int.eq_ofNat_of_zero_le (Int.le_of_lt hc)
  unfold papermillref01_divide.f
  have hz : a / 2 ^ 51 = 0 := Nat.div_eq_of_lt (by omega)
  have := ref_divide_l0 a b c (by omega) (by omega) (by omega) (by omega) 51 k 0 0 (by omega) (by omega) (by rw [hz]; simp; omega) (by rw [hz]; simp)
  rw [show ((51 : Nat) : Int) - 1 = 50 from rfl] at this
  rw [this]
  simp only [Int.natCast_mul]

theorem ref_MulDiv_eq (a b c m : Int) (k : Nat) (hk : 60 ≤ k) : papermillref01_MulDiv.f k a b c m = some (md a b c m) := by
  obtain ⟨k, rfl⟩ : ∃ n, k = n + 7 := ⟨k - 7, by omega⟩
  unfold papermillref01_MulDiv.f
  rw [rIn_eq, rIn_eq, rIn_eq]
  simp only [Option.bind_some]
  by_cases hr : -1125899906842624 ≤ a ∧ a ≤ 1125899906842624 ∧ -1125899906842624 ≤ b ∧ b ≤ 1125899906842624 ∧ -1125899906842624 ≤ c ∧ c ≤ 1125899906842624
  · obtain ⟨x1, x2, x3, x4, x5, x6⟩ := hr
    rw [if_pos ((rInR_iff a).2 ⟨x1, x2⟩), if_pos ((rInR_iff b).2 ⟨x3, x4⟩), (rInR_iff c).2 ⟨x5, x6⟩]
    simp only [papermillref01_MulDiv.j0, Bool.not_true]
    rw [if_neg (by simp)]
    by_cases hz : c = 0
    · rw [if_pos hz]; congr 1; unfold md; rw [if_neg (by omega), if_pos hz]
    · rw [if_neg hz]
      by_cases hm : m < 0 ∨ 3 ≤ m
      · have e : md a b c m = (0, 17) := by unfold md; rw [if_neg (by omega), if_neg hz, if_pos hm]
        rw [e]
        by_cases hm0 : m < 0
        · rw [if_pos hm0]; simp only [papermillref01_MulDiv.j1, if_true]
        · rw [if_neg hm0, decide_eq_true (by omega)]; simp only [papermillref01_MulDiv.j1, if_true]
      · rw [if_neg (by omega), decide_eq_false (by omega)]
        simp only [papermillref01_MulDiv.j1]
        rw [if_neg (by simp), rabs_eq a (by omega) (by omega), rabs_eq b (by omega) (by omega), rabs_eq c (by omega) (by omega)]
        simp only [Option.bind_some]
        have key := fun (N G : Bool) (q r : Int) => md_abs a b c m q r ⟨x1, x2⟩ ⟨x3, x4⟩ ⟨x5, x6⟩ hz (by omega) (by omega)
        have hC : 0 < (if c < 0 then -c else c) := by split <;> omega
        have hC' : (if c < 0 then -c else c) ≤ 1125899906842624 := by split <;> omega
        have hA : 0 ≤ (if a < 0 then -a else a) := by split <;> omega
        have hA' : (if a < 0 then -a else a) ≤ 1125899906842624 := by split <;> omega
        have hB : 0 ≤ (if b < 0 then -b else b) := by split <;> omega
        have hB' : (if b < 0 then -b else b) ≤ 1125899906842624 := by split <;> omega
        have hc5 := rabs_eq c (by omega) (by omega)
        rw [ref_divide_eq _ _ _ hA hA' hB hB' hC hC' _ (by omega)]
        simp only [Option.bind_some]
        generalize hCC : (if c < 0 then -c else c) = C at *
        generalize (if a < 0 then -a else a) = A at *
        generalize (if b < 0 then -b else b) = B at *
        have hAB : 0 ≤ A * B := Int.mul_nonneg hA hB
        have h1 := Int.mul_ediv_add_emod (A * B) C
        have h2 := Int.emod_nonneg (A * B) (show C ≠ 0 by omega)
        have h3 := Int.emod_lt_of_pos (A * B) hC
        have h4 := Int.ediv_nonneg hAB (show (0 : Int) ≤ C by omega)
        have key2 := fun (N G : Bool) hN hG => key N G (A * B / C) (A * B % C) h1.symm h2 h3 h4 N G hN hG
        clear key h1
        generalize A * B / C = Q at *
        generalize A * B % C = r at *
        -- the last steps, for a sign N that is known
        have tail : ∀ (N : Bool), N = ((decide (a < 0) != decide (b < 0)) != decide (c < 0)) → papermillref01_MulDiv.j3 (k + 4) c m (min Q 4503599627370496) r N = some (md a b c m) := fun N hN => by
          have fin : ∀ (G : Bool), (Q < 4503599627370496 → G = (if m = 0 then N && decide (0 < r) else if m = 1 then !N && decide (0 < r) else decide (C < 2 * r) || (decide (2 * r = C) && decide (Q % 2 = 1)))) → papermillref01_MulDiv.j6 (k + 1) (min Q 4503599627370496) N G = some (md a b c m) := fun G hG => by
            by_cases hQ : Q < 4503599627370496
            · rw [key2 N G hN (hG hQ), show min Q 4503599627370496 = Q from by omega]
              simp only [papermillref01_MulDiv.j6]
              cases G <;> cases N <;> simp only [if_true, if_neg (show ¬ (false = true) from by simp)]
              · rw [rresult_eq]; simp only [Option.bind_some]; congr 1; split <;> split <;> first | rfl | omega
              · rw [wrap64_id (by omega) (by omega), rresult_eq]; simp only [Option.bind_some]; congr 1; split <;> split <;> first | rfl | omega
              · rw [wrap64_id (by omega) (by omega), rresult_eq]; simp only [Option.bind_some]; congr 1; split <;> split <;> first | rfl | omega
              · rw [wrap64_id (x := Q + 1) (by omega) (by omega), wrap64_id (by omega) (by omega), rresult_eq]; simp only [Option.bind_some]; congr 1; split <;> split <;> first | rfl | omega
            · have e : md a b c m = (0, 2) := by rw [key2 N _ hN rfl, if_pos (by split <;> omega)]
              rw [e, show min Q 4503599627370496 = 4503599627370496 from by omega]
              simp only [papermillref01_MulDiv.j6]
              cases G <;> cases N <;> simp only [if_true, if_neg (show ¬ (false = true) from by simp)]
              · rw [rresult_eq]; rfl
              · rw [wrap64_id (by omega) (by omega), rresult_eq]; rfl
              · rw [wrap64_id (by omega) (by omega), rresult_eq]; rfl
              · rw [wrap64_id (x := 4503599627370496 + 1) (by omega) (by omega), wrap64_id (by omega) (by omega), rresult_eq]; rfl
          have fin5 : ∀ (G : Bool), (Q < 4503599627370496 → 0 < r → G = (if m = 0 then N else if m = 1 then !N else decide (C < 2 * r) || (decide (2 * r = C) && decide (Q % 2 = 1)))) → papermillref01_MulDiv.j5 (k + 2) (min Q 4503599627370496) r N G = some (md a b c m) := fun G hG => by
            simp only [papermillref01_MulDiv.j5]
            by_cases hr0 : r > 0
            · rw [if_pos hr0]
              refine fin G (fun hQ => ?_)
              rw [hG hQ hr0, decide_eq_true (show 0 < r from hr0)]
              simp
            · rw [if_neg hr0]
              refine fin false (fun hQ => ?_)
              have : r = 0 := by omega
              rw [this]
              have e1 : decide (C < 2 * 0) = false := decide_eq_false (by omega)
              have e2 : decide (2 * 0 = C) = false := decide_eq_false (by omega)
              rw [e1, e2]
              simp
          have fin4 : ∀ (G : Bool), (m ≠ 2 → G = (if m = 0 then N else !N)) → papermillref01_MulDiv.j4 (k + 3) c m (min Q 4503599627370496) r N G = some (md a b c m) := fun G hG => by
            simp only [papermillref01_MulDiv.j4]
            by_cases m2 : m = 2
            · rw [if_pos m2, hc5]
              simp only [Option.bind_some]
              rw [wrap64_id (by omega) (by omega)]
              have hm0 : ¬ m = 0 := by omega
              have hm1 : ¬ m = 1 := by omega
              by_cases g1 : 2 * r > C
              · rw [if_pos g1]
                refine fin5 true (fun _ _ => ?_)
                rw [if_neg hm0, if_neg hm1, decide_eq_true (show C < 2 * r from g1)]; rfl
              · rw [if_neg g1]
                by_cases g2 : 2 * r = C
                · rw [if_pos g2]
                  refine fin5 _ (fun hQ _ => ?_)
                  rw [if_neg hm0, if_neg hm1, decide_eq_false (show ¬ C < 2 * r from g1), decide_eq_true g2, show min Q 4503599627370496 = Q from by omega, tmod_pos h4]
                  rw [Bool.false_or, Bool.true_and]
                  rfl
                · rw [if_neg g2]
                  refine fin5 false (fun _ _ => ?_)
                  rw [if_neg hm0, if_neg hm1, decide_eq_false (show ¬ C < 2 * r from g1), decide_eq_false g2]; rfl
            · rw [if_neg m2]
              refine fin5 G (fun _ _ => ?_)
              rw [hG m2]
              by_cases m0 : m = 0
              · rw [if_pos m0, if_pos m0]
              · rw [if_neg m0, if_neg m0, if_pos (by omega)]
          simp only [papermillref01_MulDiv.j3]
          by_cases m0 : m = 0
          · rw [if_pos m0]
            cases N with
            | true => rw [if_pos rfl]; exact fin4 true (fun _ => by rw [if_pos m0])
            | false => rw [if_neg (by simp), if_neg (by omega)]; exact fin4 false (fun _ => by rw [if_pos m0])
          · rw [if_neg m0]
            by_cases m1 : m = 1
            · rw [if_pos m1]; exact fin4 _ (fun _ => by rw [if_neg m0])
            · rw [if_neg m1]; exact fin4 false (fun h => by omega)
        by_cases b0 : b < 0
        · rw [if_pos b0]
          simp only [papermillref01_MulDiv.j2]
          by_cases c0 : c < 0
          · rw [if_pos c0]; refine tail _ ?_; rw [decide_eq_true b0, decide_eq_true c0]; cases decide (a < 0) <;> rfl
          · rw [if_neg c0]; refine tail _ ?_; rw [decide_eq_true b0, decide_eq_false c0]; cases decide (a < 0) <;> rfl
        · rw [if_neg b0]
          simp only [papermillref01_MulDiv.j2]
          by_cases c0 : c < 0
          · rw [if_pos c0]; refine tail _ ?_; rw [decide_eq_false b0, decide_eq_true c0]; cases decide (a < 0) <;> rfl
          · rw [if_neg c0]; refine tail _ ?_; rw [decide_eq_false b0, decide_eq_false c0]; cases decide (a < 0) <;> rfl
  · have e : md a b c m = (0, 1) := by unfold md; rw [if_pos (by omega)]
    rw [e]
    by_cases ha : inR a = true
    · rw [if_pos ha]
      by_cases hb : inR b = true
      · rw [if_pos hb]
        have hc : inR c = false := by
          rw [Bool.eq_false_iff]; intro hc
          have h1 := (rInR_iff a).1 ha; have h2 := (rInR_iff b).1 hb; have h3 := (rInR_iff c).1 hc
          omega
        rw [hc]
        simp only [papermillref01_MulDiv.j0, Bool.not_false, if_true]
      · rw [if_neg hb]
        simp only [papermillref01_MulDiv.j0, if_true]
    · rw [if_neg ha]
      simp only [papermillref01_MulDiv.j0, if_true]
end Go.Proofs.Ytpmopomiadaonaa.P
