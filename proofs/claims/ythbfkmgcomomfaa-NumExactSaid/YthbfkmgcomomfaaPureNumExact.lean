/- The statement NumExact over numbers alone: the three quotients enclose the exact one. -/
import Derived.Test.YthbfkmgcomomfaaPx7
import Derived.Test.YthbfkmgcomomfaaPx6
import Derived.Test.YthbfkmgcomomfaaPx3
import Derived.Test.YthbfkmgcomomfaaHandMulDiv
namespace Go.Proofs.Ythbfkmgcomomfaa.Pure
open Go.RowKit Go.Proofs.Ythbfkmgcomomfaa.P Go.Proofs.YthbfkmgcomomfaaW.PrintWords Go.Proofs.YthbfkmgcomomfaaW.PrintLast Go.Proofs.Ythbfkmgcomomfaa.Math
set_option linter.unusedVariables false

theorem w64x {x : Int} (h0 : -9223372036854775808 ≤ x) (h1 : x ≤ 9223372036854775807) : wrap64 x = x := by unfold wrap64; omega

theorem tdmx (a d : Int) (hd : 0 < d) : -d < a.tmod d ∧ a.tmod d < d := by
  have h := Int.natAbs_tmod a d
  have h2 := Nat.mod_lt a.natAbs (show 0 < d.natAbs by omega)
  omega

theorem mul_bound25 (x y : Int) (hx : -33554431 ≤ x ∧ x ≤ 33554431) (hy : -33554431 ≤ y ∧ y ≤ 33554431) : -1125899839733761 ≤ x * y ∧ x * y ≤ 1125899839733761 := by
  have h1 := Int.mul_nonneg (show 0 ≤ 33554431 - x by omega) (show 0 ≤ 33554431 - y by omega)
  have h2 := Int.mul_nonneg (show 0 ≤ 33554431 + x by omega) (show 0 ≤ 33554431 + y by omega)
  have h3 := Int.mul_nonneg (show 0 ≤ 33554431 - x by omega) (show 0 ≤ 33554431 + y by omega)
  have h4 := Int.mul_nonneg (show 0 ≤ 33554431 + x by omega) (show 0 ≤ 33554431 - y by omega)
  simp only [Int.sub_mul, Int.add_mul, Int.mul_sub, Int.mul_add] at h1 h2 h3 h4
  omega

/-- The three quotients. -/
theorem three (N C : Int) (hC : 0 < C) (hC' : C ≤ 1125899906842624) (hN : -1125899839733761 ≤ N ∧ N ≤ 1125899839733761) :
    ∃ lo hi near L, rnd N C 0 = lo ∧ rnd N C 1 = hi ∧ rnd N C 2 = near ∧ N = C * lo + L ∧ 0 ≤ L ∧ L < C ∧ (L = 0 → hi = lo) ∧ (0 < L → hi = lo + 1) ∧ (2 * L < C → near = lo) ∧ (C < 2 * L → near = lo + 1) ∧ (2 * L = C → near % 2 = 0) ∧ (near = lo ∨ near = lo + 1) ∧ -1125899839733761 ≤ lo ∧ lo ≤ 1125899839733761 ∧ (hi ≤ 1125899839733761) ∧ near ≤ 1125899839733761 + 1 := by
  have h1 := Int.mul_ediv_add_emod N C
  have h2 := Int.emod_nonneg N (show C ≠ 0 by omega)
  have h3 := Int.emod_lt_of_pos N hC
  have g1 := Int.mul_ediv_add_emod (-N) C
  have g2 := Int.emod_nonneg (-N) (show C ≠ 0 by omega)
  have g3 := Int.emod_lt_of_pos (-N) hC
  have b1 : -1125899839733761 ≤ N / C := by
    rw [Int.le_ediv_iff_mul_le hC]
    have := Int.mul_le_mul_of_nonneg_left (show (1 : Int) ≤ C by omega) (show (0 : Int) ≤ 1125899839733761 by omega)
    omega
  have b2 : N / C ≤ 1125899839733761 := by
    rcases Int.lt_or_le 1125899839733761 (N / C) with c | c
    · have := Int.mul_le_mul_of_nonneg_left (show 1125899839733762 ≤ N / C by omega) (Int.le_of_lt hC); omega
    · exact c
  have c1 : N % C = 0 → -(-N / C) = N / C := fun e => by
    have e1 : (-N) / C = -(N / C) := div_unique hC (by rw [Int.mul_neg]; omega) (by rw [Int.mul_neg]; omega)
    omega
  have c2 : 0 < N % C → -(-N / C) = N / C + 1 := fun e => by
    have e1 : (-N) / C = -(N / C) - 1 := div_unique hC (by rw [Int.mul_sub, Int.mul_neg, Int.mul_one]; omega) (by rw [Int.mul_sub, Int.mul_neg, Int.mul_one]; omega)
    omega
  have r0 : rnd N C 0 = N / C := by unfold rnd; rw [if_pos rfl]
  have r1 : rnd N C 1 = -(-N / C) := by unfold rnd; rw [if_neg (by omega), if_pos rfl]
  have r2 : rnd N C 2 = if 2 * (N % C) < C then N / C else if C < 2 * (N % C) then N / C + 1 else if N / C % 2 = 0 then N / C else N / C + 1 := by unfold rnd; rw [if_neg (by omega), if_neg (by omega)]
  have hhi : -(-N / C) ≤ 1125899839733761 := by
    rcases Int.lt_or_le 1125899839733761 (-(-N / C)) with c | c
    · have := Int.mul_le_mul_of_nonneg_left (show 1125899839733762 ≤ -(-N / C) by omega) (Int.le_of_lt hC)
      rw [Int.mul_neg] at this
      omega
    · exact c
  refine ⟨N / C, -(-N / C), _, N % C, r0, r1, r2, by omega, h2, h3, c1, c2, ?_, ?_, ?_, ?_, b1, b2, hhi, ?_⟩
  · intro h; rw [if_pos h]
  · intro h; rw [if_neg (by omega), if_pos h]
  · intro h; rw [if_neg (by omega), if_neg (by omega)]; split <;> omega
  · split
    · exact .inl rfl
    · split
      · exact .inr rfl
      · split
        · exact .inl rfl
        · exact .inr rfl
  · split
    · omega
    · split
      · omega
      · split <;> omega

theorem exact_awake_at : papermilllaw01_awake.f 100 = some true := by decide +kernel
theorem exact_awake (k : Nat) (hk : 100 ≤ k) : papermilllaw01_awake.f k = some true := at_rounds papermilllaw01_awake.mono hk exact_awake_at

theorem result_ok (x : Int) (k : Nat) (hk : 1 < k) (h : -1125899906842624 ≤ x ∧ x ≤ 1125899906842624) : num_result.f k x = some (x, 0) := by
  unfold num_result.f
  rw [num_in_eq [x] (by simp) k (by simpa using hk)]
  have : ([x] : List Int).all inR = true := by unfold inR; simp; omega
  simp only [Option.bind_some]
  rw [if_pos this]

theorem two_inR (a b : Int) (ha : -1125899906842624 ≤ a ∧ a ≤ 1125899906842624) (hb : -1125899906842624 ≤ b ∧ b ≤ 1125899906842624) : ([a, b] : List Int).all inR = true := by unfold inR; simp; omega

theorem add_ok (a b : Int) (k : Nat) (hk : 5 ≤ k) (ha : -1125899906842624 ≤ a ∧ a ≤ 1125899906842624) (hb : -1125899906842624 ≤ b ∧ b ≤ 1125899906842624) (hab : -1125899906842624 ≤ a + b ∧ a + b ≤ 1125899906842624) : num_Add.f k a b = some (a + b, 0) := by
  unfold num_Add.f
  rw [num_in_eq ([a, b] : List Int) (by simp) k (by simp; omega), two_inR a b ha hb]
  simp only [Option.bind_some, if_true]
  rw [wrap64_id (by omega) (by omega), result_ok _ k (by omega) hab]
  rfl

theorem sub_ok (a b : Int) (k : Nat) (hk : 5 ≤ k) (ha : -1125899906842624 ≤ a ∧ a ≤ 1125899906842624) (hb : -1125899906842624 ≤ b ∧ b ≤ 1125899906842624) (hab : -1125899906842624 ≤ a - b ∧ a - b ≤ 1125899906842624) : num_Sub.f k a b = some (a - b, 0) := by
  unfold num_Sub.f
  rw [num_in_eq ([a, b] : List Int) (by simp) k (by simp; omega), two_inR a b ha hb]
  simp only [Option.bind_some, if_true]
  rw [wrap64_id (by omega) (by omega), result_ok _ k (by omega) hab]
  rfl

theorem mul_ok (a b : Int) (ha : -33554431 ≤ a ∧ a ≤ 33554431) (hb : -33554431 ≤ b ∧ b ≤ 33554431) : num_Mul.f a b = some (a * b, 0) := by
  have hp := mul_bound25 a b ha hb
  have e : md a b 1 0 = (a * b, 0) := by
    unfold md
    have r : rnd (if (1 : Int) < 0 then -(a * b) else a * b) (if (1 : Int) < 0 then -1 else 1) 0 = a * b := by unfold rnd; simp
    rw [r, if_neg (by omega), if_neg (show ¬ (1 : Int) = 0 by omega), if_neg (show ¬ ((0 : Int) < 0 ∨ (3 : Int) ≤ 0) by omega), if_neg (by omega)]
  unfold num_Mul.f num_MulDiv.f
  rw [e]; rfl

theorem md_of (x y z m q : Int) (hx : -33554431 ≤ x ∧ x ≤ 33554431) (hy : -33554431 ≤ y ∧ y ≤ 33554431) (hz : -1125899906842624 ≤ z ∧ z ≤ 1125899906842624) (h0 : z ≠ 0) (hm : 0 ≤ m ∧ m < 3) (hq : rnd (if z < 0 then -(x * y) else x * y) (if z < 0 then -z else z) m = q) (hb : -1125899906842624 ≤ q ∧ q ≤ 1125899906842624) : num_MulDiv.f x y z m = some (q, 0) := by
  unfold num_MulDiv.f md
  rw [if_neg (by omega), if_neg h0, if_neg (by omega), hq, if_neg (by omega)]

theorem exact_j1 (k : Nat) (hk : 200 ≤ k) (z p lo hi near N C L : Int) (hC0 : 0 < C) (hC : C ≤ 1125899906842624) (hN : -1125899839733761 ≤ N ∧ N ≤ 1125899839733761) (hz : (z < 0 ∧ C = -z ∧ N = -p) ∨ (0 < z ∧ C = z ∧ N = p)) (f4 : N = C * lo + L) (f5 : 0 ≤ L) (f6 : L < C) (f7 : L = 0 → hi = lo) (f8 : 0 < L → hi = lo + 1) (f9 : 2 * L < C → near = lo) (f10 : C < 2 * L → near = lo + 1) (f11 : 2 * L = C → near % 2 = 0) (f12 : near = lo ∨ near = lo + 1) :
    papermilllaw01_NumExact.j1 k z p lo hi near false = some true := by
  obtain ⟨k, rfl⟩ : ∃ m, k = m + 1 := ⟨k - 1, by omega⟩
  have hev : 2 * L = C → Int.tmod near 2 = 0 := fun e => Int.tmod_eq_zero_of_dvd (Int.dvd_of_emod_eq_zero (f11 e))
  have q2 : 2 * L ≤ C → 2 * L ≥ C → 2 * L = C := fun a b => by omega
  simp only [papermilllaw01_NumExact.j1]
  rw [if_neg (by simp), exact_awake _ (by omega)]
  have e1 : ∀ (a b c d : Int), (a = b ↔ c = d) → ((a == b) != (c == d)) = false := by
    intro a b c d h
    have e : (a == b) = (c == d) := by rw [Bool.eq_iff_iff]; simpa using h
    rw [e]; simp
  rcases hz with ⟨hz, hc, hn⟩ | ⟨hz, hc, hn⟩
  · have hlz : lo * z = p + L := by
      have : C * lo = -(lo * z) := by rw [hc, Int.neg_mul, Int.mul_comm]
      omega
    rw [hlz, if_pos hz, w64x (x := p + L) (by omega) (by omega), w64x (x := p - (p + L)) (by omega) (by omega), w64x (x := -(p - (p + L))) (by omega) (by omega), w64x (x := -z) (by omega) (by omega), show -(p - (p + L)) = L by omega, w64x (x := 2 * L) (by omega) (by omega)]
    rw [if_neg (by omega), if_neg (by omega), e1 L 0 lo hi (by constructor <;> intro h <;> omega), if_neg (by simp), e1 L 0 (p + L) p (by constructor <;> intro h <;> omega), if_neg (by simp)]
    rw [← hc]
    simp only [Option.bind_some]
    by_cases c1 : 2 * L ≥ C
    · rw [if_pos c1]
      by_cases c2 : 2 * L ≤ C
      · rw [if_pos c2, if_pos (by omega), if_pos (hev (by omega))]
      · rw [if_neg c2, if_pos (by omega), if_neg (by omega)]
    · rw [if_neg c1, if_pos (by omega), if_pos (by omega), if_neg (by omega)]
  · have hlz : lo * z = p - L := by
      have : C * lo = lo * z := by rw [hc, Int.mul_comm]
      omega
    rw [hlz, if_neg (by omega), w64x (x := p - L) (by omega) (by omega), w64x (x := p - (p - L)) (by omega) (by omega), show p - (p - L) = L by omega, w64x (x := 2 * L) (by omega) (by omega)]
    rw [if_neg (by omega), if_neg (by omega), e1 L 0 lo hi (by constructor <;> intro h <;> omega), if_neg (by simp), e1 L 0 (p - L) p (by constructor <;> intro h <;> omega), if_neg (by simp)]
    rw [← hc]
    simp only [Option.bind_some]
    by_cases c1 : 2 * L ≥ C
    · rw [if_pos c1]
      by_cases c2 : 2 * L ≤ C
      · rw [if_pos c2, if_pos (by omega), if_pos (hev (by omega))]
      · rw [if_neg c2, if_pos (by omega), if_neg (by omega)]
    · rw [if_neg c1, if_pos (by omega), if_pos (by omega), if_neg (by omega)]

theorem NumExact : papermilllaw01_NumExact.Pure := by
  intro a b c wa wb wc
  have ha : -2147483648 ≤ a ∧ a ≤ 2147483647 := by simp [Lit.wf, IntKind.min, IntKind.max, IntKind.signed, IntKind.bits] at wa; omega
  have hb : -2147483648 ≤ b ∧ b ≤ 2147483647 := by simp [Lit.wf, IntKind.min, IntKind.max, IntKind.signed, IntKind.bits] at wb; omega
  refine ⟨300, ?_⟩
  unfold papermilllaw01_NumExact.f
  rw [w64x (x := a) (by omega) (by omega), w64x (x := b) (by omega) (by omega)]
  have h1 := tdmx a 33554432 (by omega)
  have h2 := tdmx b 33554432 (by omega)
  have h3 := tdmx c 1125899906842625 (by omega)
  generalize a.tmod 33554432 = x at *
  generalize b.tmod 33554432 = y at *
  generalize c.tmod 1125899906842625 = z at *
  have hp := mul_bound25 x y (by omega) (by omega)
  rw [mul_ok x y (by omega) (by omega), add_ok x y _ (by omega) (by omega) (by omega) (by omega)]
  simp only [Option.bind_some, if_true]
  rw [sub_ok (x + y) y _ (by omega) (by omega) (by omega) (by omega), w64x (x := x * y) (by omega) (by omega)]
  simp only [Option.bind_some, if_true]
  rw [show (x + y - y != x) = false from bne_eq_false_iff_eq.2 (by omega)]
  simp only [papermilllaw01_NumExact.j0]
  rw [if_neg (by simp)]
  by_cases hz : z = 0
  · subst hz
    have e : ∀ m, 0 ≤ m → m < 3 → num_MulDiv.f x y 0 m = some (0, 16) := fun m _ _ => by
      unfold num_MulDiv.f md
      rw [if_neg (by omega), if_pos rfl]
    rw [e 0 (by omega) (by omega), e 1 (by omega) (by omega), e 2 (by omega) (by omega), exact_awake _ (by omega)]
    rfl
  · obtain ⟨lo, hi, near, L, f1, f2, f3, f4, f5, f6, f7, f8, f9, f10, f11, f12, f13, f14, f15, f16⟩ := three (if z < 0 then -(x * y) else x * y) (if z < 0 then -z else z) (by split <;> omega) (by split <;> omega) (by split <;> omega)
    rw [md_of x y z 0 lo (by omega) (by omega) (by omega) hz (by omega) f1 (by omega), md_of x y z 1 hi (by omega) (by omega) (by omega) hz (by omega) f2 (by omega), md_of x y z 2 near (by omega) (by omega) (by omega) hz (by omega) f3 (by omega)]
    simp only [Option.bind_some, if_true]
    have J := fun k hk => exact_j1 k hk z (x * y) lo hi near _ _ L (by split <;> omega) (by split <;> omega) (by split <;> omega) (by
      by_cases c : z < 0
      · left; rw [if_pos c, if_pos c]; exact ⟨c, rfl, rfl⟩
      · right; rw [if_neg c, if_neg c]; exact ⟨by omega, rfl, rfl⟩) f4 f5 f6 f7 f8 f9 f10 f11 f12
    rw [if_neg hz, if_neg (by omega), if_neg (by omega), w64x (x := hi - lo) (by omega) (by omega), if_neg (by omega), if_neg (by omega)]
    by_cases c1 : near = lo
    · rw [if_pos c1]; exact J 299 (by omega)
    · rw [if_neg c1, show (near != hi) = false from bne_eq_false_iff_eq.2 (by
        by_cases cl : L = 0
        · have := f9 (by omega); omega
        · have := f8 (by omega); omega)]
      exact J 299 (by omega)
end Go.Proofs.Ythbfkmgcomomfaa.Pure
