/- nat.divide in values: two limbs by two, where the quotient has one limb. -/
import Derived.Test.YtnkmeocccbkdkaaNatProg
import Derived.Test.YtnkmeocccbkdkaaHandDivide2
namespace Go.Proofs.Ytnkmeocccbkdkaa.Pure
open Go.RowKit Go.Proofs.Ytnkmeocccbkdkaa.P Go.Proofs.YtnkmeocccbkdkaaW.PrintWords Go.Proofs.YtnkmeocccbkdkaaW.PrintLast
set_option linter.unusedVariables false
set_option linter.unusedSimpArgs false

theorem scaled2 (a0 a1 m : Int) (hd : Dig [a0, a1]) (h4 : 0 ≤ m) (h5 : m < 1000000000) (k : Nat) (hk : 4 ≤ k) : nat_scaled.f k [a0, a1] m = some (tmul m 0 [a0, a1]) := by
  obtain ⟨k, rfl⟩ : ∃ j, k = j + 3 := ⟨k - 3, by omega⟩
  have B0 := mul_bnd (c := 0) (by omega) (by omega) hd.1 hd.2.1 h4 h5
  have B1 := mul_bnd (c := (0 + a0 * m) / 1000000000) B0.2.2.2.2.2 B0.2.2.2.2.1 hd.2.2.1 hd.2.2.2.1 h4 h5
  have r0 : rd [a0, a1] 0 = a0 := by simp [rd]
  have r1 : rd [a0, a1] 1 = a1 := by simp [rd]
  have w1 : wrap64 (0 + 1) = 1 := by unfold wrap64; omega
  have w2 : wrap64 (1 + 1) = 2 := by unfold wrap64; omega
  unfold nat_scaled.f
  rw [show wrap64 ((([a0, a1] : List Int).length : Int) + 1) = 3 from by simp; unfold wrap64; omega, if_pos (by omega), if_pos (by decide)]
  have e0 : wrap64 (wrap64 (a0 * m) + 0) = a0 * m := by rw [w64 (x := a0 * m) (by omega) (by omega), w64 (by omega) (by omega)]; omega
  have e0' : 0 + a0 * m = a0 * m := by omega
  rw [e0'] at B0 B1
  have e1 : wrap64 (Int.tdiv (a0 * m) 1000000000) = a0 * m / 1000000000 := by rw [td_nn B0.1, w64 (by omega) (by omega)]
  have e2 : wrap64 (wrap64 (a1 * m) + a0 * m / 1000000000) = a0 * m / 1000000000 + a1 * m := by rw [w64 (x := a1 * m) (by omega) (by omega), w64 (by omega) (by omega)]; omega
  have e3 : wrap64 (Int.tdiv (a0 * m / 1000000000 + a1 * m) 1000000000) = (a0 * m / 1000000000 + a1 * m) / 1000000000 := by rw [td_nn B1.2.2.1, w64 (by omega) (by omega)]
  simp only [nat_scaled.l0, List.length_cons, List.length_nil, r0, r1, w1, w2, e0, e1, e2, e3]
  simp [tmul, tm_nn B0.1, tm_nn B1.2.2.1, e0', List.replicate, show (3 : Int).toNat = 3 from rfl, show (2 : Int).toNat = 2 from rfl, show (1 : Int).toNat = 1 from rfl]

/-- The digit's loop from a guess that is not too small. -/
theorem digit_loop (u0 u1 u2 z0 z1 h Q : Int) (hu0 : 0 ≤ u0) (hu0' : u0 < 1000000000) (hz0 : 0 ≤ z0) (hz0' : z0 < 1000000000) (hz1 : 500000000 ≤ z1) (hz1' : z1 < 1000000000)
    (hQ0 : 0 ≤ Q) (hQ : Q < 1000000000) (hQ1 : Q * z1 * 1000000000 + Q * z0 ≤ h * 1000000000 + u0) (hQ2 : h * 1000000000 + u0 < Q * z1 * 1000000000 + Q * z0 + z1 * 1000000000 + z0) :
    ∀ (j k : Nat) (q r : Int), q * z1 + r = h → Q ≤ q → q ≤ 1000000001 → 0 ≤ r → r < 1000000000 → 1000000000 ≤ r + j * z1 → 2 * j + 4 ≤ k →
    nat_digit.l0 k [u0, u1, u2] [z0, z1] 2 1 q r = some Q := by
  intro j
  induction j with
  | zero => intro k q r _ _ _ _ h1 h2; simp at h2; omega
  | succ j ih =>
    intro k q r h1 h2 h3 h4 h5 h6 hk
    obtain ⟨k, rfl⟩ : ∃ j, k = j + 2 := ⟨k - 2, by omega⟩
    have r0 : rd [z0, z1] 0 = z0 := by simp [rd]
    have r1 : rd [z0, z1] 1 = z1 := by simp [rd]
    have r2 : rd [u0, u1, u2] 0 = u0 := by simp [rd]
    have w1 : wrap64 (1 - 1) = 0 := by unfold wrap64; omega
    have w2 : wrap64 (2 - 2) = 0 := by unfold wrap64; omega
    have p0 : 0 ≤ q * z0 := Int.mul_nonneg (by omega) hz0
    have p1 : q * z0 ≤ 1000000001 * 999999999 := Int.mul_le_mul h3 (by omega) hz0 (by omega)
    -- q - Q in products
    obtain ⟨d, rfl⟩ : ∃ d, q = Q + d := ⟨q - Q, by omega⟩
    have hd : 0 ≤ d := by omega
    have x1 : (Q + d) * z1 = Q * z1 + d * z1 := Int.add_mul _ _ _
    have x0 : (Q + d) * z0 = Q * z0 + d * z0 := Int.add_mul _ _ _
    have n1 : 0 ≤ d * z1 := Int.mul_nonneg hd (by omega)
    have n0 : 0 ≤ d * z0 := Int.mul_nonneg hd (by omega)
    -- the test is: the guess is too great
    have test : ∀ b : Bool, (b = true ↔ 0 < d) → nat_digit.j1 (k + 1) [u0, u1, u2] [z0, z1] 2 1 (Q + d) r b = some Q := by
      intro b hb
      simp only [nat_digit.j1]
      by_cases c : 0 < d
      · rw [if_pos (hb.2 c), if_pos (by omega), if_pos (by simp), r1, w64 (x := r + z1) (by omega) (by omega), w64 (x := Q + d - 1) (by omega) (by omega)]
        by_cases c2 : r + z1 ≥ 1000000000
        · rw [if_pos c2]
          -- the guess less 1 is exact
          have : d = 1 := by
            rcases Int.lt_or_le 1 d with c3 | c3
            · exfalso
              have m1 : 2 * z1 ≤ d * z1 := Int.mul_le_mul_of_nonneg_right (by omega) (by omega)
              have t1 : (Q + d - 1) * z0 ≤ 1000000000 * 999999999 := Int.mul_le_mul (by omega) (by omega) hz0 (by omega)
              have t2 : (Q + d - 1) * z0 = Q * z0 + d * z0 - z0 := by rw [Int.sub_mul, Int.add_mul, Int.one_mul]
              have m0 : 2 * z0 ≤ d * z0 := Int.mul_le_mul_of_nonneg_right (by omega) (by omega)
              omega
            · omega
          rw [show Q + d - 1 = Q by omega]
        · rw [if_neg c2]
          have e : (Q + d - 1) * z1 = Q * z1 + d * z1 - z1 := by rw [Int.sub_mul, Int.add_mul, Int.one_mul]
          refine ih k (Q + d - 1) (r + z1) (by omega) (by omega) (by omega) (by omega) (by omega) ?_ (by omega)
          have : ((j + 1 : Nat) : Int) * z1 = j * z1 + z1 := by rw [Int.natCast_add, Int.add_mul, Int.natCast_one, Int.one_mul]
          omega
      · have : d = 0 := by omega
        subst this
        rw [if_neg (by intro h; exact c (hb.1 h))]
        simp
    simp only [nat_digit.l0]
    by_cases c : Q + d ≥ 1000000000
    · rw [if_pos c]
      exact test true ⟨fun _ => by omega, fun _ => rfl⟩
    · rw [if_neg c, w1, w2, if_pos (by omega), if_pos (by simp), if_pos (by omega), if_pos (by simp), r0, r2, w64 (x := (Q + d) * z0) (by omega) (by omega), w64 (x := r * 1000000000) (by omega) (by omega), w64 (x := r * 1000000000 + u0) (by omega) (by omega)]
      apply test
      rw [decide_eq_true_iff]
      constructor
      · intro hgt
        rcases Int.lt_or_le 0 d with c3 | c3
        · exact c3
        · have : d = 0 := by omega
          subst this
          omega
      · intro hgt
        have m1 : z1 ≤ d * z1 := by have := Int.mul_le_mul_of_nonneg_right (show 1 ≤ d by omega) (show 0 ≤ z1 by omega); omega
        have m0 : z0 ≤ d * z0 := by have := Int.mul_le_mul_of_nonneg_right (show 1 ≤ d by omega) (show 0 ≤ z0 by omega); omega
        omega

theorem digit2_eq (u0 u1 u2 z0 z1 Q : Int) (hu : Dig [u0, u1, u2]) (hz : Dig [z0, z1]) (hz1 : 500000000 ≤ z1)
    (hQ0 : 0 ≤ Q) (hQ : Q < 1000000000) (hQ1 : Q * val [z0, z1] ≤ val [u0, u1, u2]) (hQ2 : val [u0, u1, u2] < Q * val [z0, z1] + val [z0, z1]) (k : Nat) (hk : 20 ≤ k) :
    nat_digit.f k [u0, u1, u2] [z0, z1] = some Q := by
  have a0 := hu.1; have a1 := hu.2.1; have a2 := hu.2.2.1; have a3 := hu.2.2.2.1; have a4 := hu.2.2.2.2.1; have a5 := hu.2.2.2.2.2.1
  have b0 := hz.1; have b1 := hz.2.1; have b2 := hz.2.2.1; have b3 := hz.2.2.2.1
  simp only [val] at hQ1 hQ2
  have e : Q * (z0 + 1000000000 * (z1 + 1000000000 * 0)) = Q * z1 * 1000000000 + Q * z0 := by
    rw [show z0 + 1000000000 * (z1 + 1000000000 * 0) = z1 * 1000000000 + z0 by omega, Int.mul_add, ← Int.mul_assoc]
  rw [e] at hQ1 hQ2
  have q0 : 0 ≤ Q * z0 := Int.mul_nonneg hQ0 b0
  have q0' : Q * z0 ≤ 999999999 * 999999999 := Int.mul_le_mul (by omega) (by omega) b0 (by omega)
  have q1 : 0 ≤ Q * z1 := Int.mul_nonneg hQ0 b2
  have q1' : Q * z1 ≤ 999999999 * z1 := Int.mul_le_mul_of_nonneg_right (by omega) b2
  have r0 : rd [z0, z1] 1 = z1 := by simp [rd]
  have r1 : rd [u0, u1, u2] 1 = u1 := by simp [rd]
  have r2 : rd [u0, u1, u2] 2 = u2 := by simp [rd]
  have w1 : wrap64 ((([u0, u1, u2] : List Int).length : Int) - 1) = 2 := by simp; unfold wrap64; omega
  have w2 : wrap64 (2 - 1) = 1 := by unfold wrap64; omega
  have w3 : wrap64 ((([z0, z1] : List Int).length : Int) - 1) = 1 := by simp; unfold wrap64; omega
  have hh : 0 ≤ u2 * 1000000000 + u1 := by omega
  have dm := Int.mul_ediv_add_emod (u2 * 1000000000 + u1) z1
  have m0 := Int.emod_nonneg (u2 * 1000000000 + u1) (show z1 ≠ 0 by omega)
  have m1 := Int.emod_lt_of_pos (u2 * 1000000000 + u1) (show 0 < z1 by omega)
  have d0 : 0 ≤ (u2 * 1000000000 + u1) / z1 := Int.ediv_nonneg hh (by omega)
  have d1 : (u2 * 1000000000 + u1) / z1 ≤ 1000000001 := by
    have : (u2 * 1000000000 + u1) / z1 < 1000000002 := Int.ediv_lt_of_lt_mul (by omega) (by omega)
    omega
  have d2 : Q ≤ (u2 * 1000000000 + u1) / z1 := (Int.le_ediv_iff_mul_le (by omega)).2 (by omega)
  unfold nat_digit.f
  rw [w1, w2, w3, if_pos (by omega), if_pos (by simp), if_pos (by omega), if_pos (by simp), if_pos (by omega), if_pos (by simp), r0, r1, r2, if_neg (by omega), w64 (x := u2 * 1000000000) (by omega) (by omega), w64 (x := u2 * 1000000000 + u1) (by omega) (by omega), td_nn hh, tm_nn hh, w64 (x := (u2 * 1000000000 + u1) / z1) (by omega) (by omega)]
  exact digit_loop u0 u1 u2 z0 z1 (u2 * 1000000000 + u1) Q a0 a1 b0 b1 hz1 b3 hQ0 hQ (by omega) (by omega) 2 k _ _ (by rw [Int.mul_comm]; exact dm) d2 d1 m0 (by omega) (by omega) (by omega)

/-- A digit of the difference, and what is borrowed. -/
theorem red_num (s br p x : Int) (hs : s = x - br - p) (hx0 : 0 ≤ x) (hx1 : x < 1000000000) (hb0 : 0 ≤ br) (hb1 : br ≤ 1000000000) (hp0 : 0 ≤ p) (hp1 : p ≤ 999999998000000001) :
    0 ≤ s % 1000000000 ∧ s % 1000000000 < 1000000000 ∧ 0 ≤ -(s / 1000000000) ∧ -(s / 1000000000) ≤ 1000000000 ∧ s = s % 1000000000 - 1000000000 * (-(s / 1000000000)) := by omega

theorem reduce_step (l v : List Int) (q br n : Int) (i : Nat) (p : Int) (hd : Dig l) (hi : i < l.length) (hl : l.length ≤ 40) (hn : n = l.length)
    (hp : p = if i < v.length then q * rd v (i : Int) else 0) (hp0 : 0 ≤ p) (hp1 : p ≤ 999999998000000001) (hb0 : 0 ≤ br) (hb1 : br ≤ 1000000000) (k : Nat) :
    nat_reduce.l0 (k + 1) l v q br n (i : Int) = nat_reduce.l0 k (l.set i ((rd l (i : Int) - br - p) % 1000000000)) v q (-((rd l (i : Int) - br - p) / 1000000000)) n ((i + 1 : Nat) : Int) := by
  have hr := dig_rd l hd i hi
  have N := red_num _ br p (rd l (i : Int)) rfl hr.1 hr.2 hb0 hb1 hp0 hp1
  generalize hx : rd l (i : Int) = x at *
  have e1 : wrap64 (x - br) = x - br := w64 (by omega) (by omega)
  have tail : ∀ s : Int, s = x - br - p → (if s < 0 then (nat_reduce.l0 k (l.set (i : Int).toNat (wrap64 (s + (wrap64 ((wrap64 (Int.tdiv (wrap64 ((wrap64 ((wrap64 (-s)) + 1000000000)) - 1)) 1000000000)) * 1000000000))))) v q (wrap64 (Int.tdiv (wrap64 ((wrap64 ((wrap64 (-s)) + 1000000000)) - 1)) 1000000000)) n (wrap64 ((i : Int) + 1))) else (nat_reduce.l0 k (l.set (i : Int).toNat s) v q 0 n (wrap64 ((i : Int) + 1)))) = nat_reduce.l0 k (l.set i ((x - br - p) % 1000000000)) v q (-((x - br - p) / 1000000000)) n ((i + 1 : Nat) : Int) := by
    intro s hs
    rw [← hs] at N ⊢
    rw [w64 (x := (i : Int) + 1) (by omega) (by omega), show ((i + 1 : Nat) : Int) = (i : Int) + 1 by omega, Int.toNat_natCast]
    by_cases c : s < 0
    · rw [if_pos c, w64 (x := -s) (by omega) (by omega), w64 (x := -s + 1000000000) (by omega) (by omega), w64 (x := -s + 1000000000 - 1) (by omega) (by omega), td_nn (by omega), w64 (x := (-s + 1000000000 - 1) / 1000000000) (by omega) (by omega), w64 (x := (-s + 1000000000 - 1) / 1000000000 * 1000000000) (by omega) (by omega), w64 (by omega) (by omega)]
      rw [show (-s + 1000000000 - 1) / 1000000000 = -(s / 1000000000) by omega, show s + -(s / 1000000000) * 1000000000 = s % 1000000000 by omega]
    · rw [if_neg c, show s % 1000000000 = s by omega, show -(s / 1000000000) = 0 by omega]
  simp only [nat_reduce.l0]
  rw [if_pos (by omega), if_pos (by omega), if_pos (by omega), hx, e1]
  by_cases c : i < v.length
  · rw [if_pos c] at hp
    rw [if_pos (by omega), ← hp, w64 (x := p) (by omega) (by omega), w64 (x := x - br - p) (by omega) (by omega)]
    exact tail _ rfl
  · rw [if_neg c] at hp
    rw [if_neg (by omega)]
    exact tail _ (by omega)

theorem reduce2_eq (u0 u1 u2 z0 z1 q : Int) (hu : Dig [u0, u1, u2]) (hz : Dig [z0, z1]) (hq0 : 0 ≤ q) (hq1 : q < 1000000000) (h1 : q * val [z0, z1] ≤ val [u0, u1, u2]) (h2 : val [u0, u1, u2] < q * val [z0, z1] + val [z0, z1]) (k : Nat) (hk : 10 ≤ k) :
    ∃ x0 x1, nat_reduce.f k [u0, u1, u2] [z0, z1] q = some (false, [x0, x1, 0]) ∧ Dig [x0, x1] ∧ val [x0, x1] = val [u0, u1, u2] - q * val [z0, z1] := by
  obtain ⟨k, rfl⟩ : ∃ j, k = j + 4 := ⟨k - 4, by omega⟩
  have a0 := hu.1; have a1 := hu.2.1; have a2 := hu.2.2.1; have a3 := hu.2.2.2.1; have a4 := hu.2.2.2.2.1; have a5 := hu.2.2.2.2.2.1
  have b0 := hz.1; have b1 := hz.2.1; have b2 := hz.2.2.1; have b3 := hz.2.2.2.1
  simp only [val] at h1 h2 ⊢
  have e : q * (z0 + 1000000000 * (z1 + 1000000000 * 0)) = q * z1 * 1000000000 + q * z0 := by
    rw [show z0 + 1000000000 * (z1 + 1000000000 * 0) = z1 * 1000000000 + z0 by omega, Int.mul_add, ← Int.mul_assoc]
  rw [e] at h1 h2 ⊢
  have q0 : 0 ≤ q * z0 := Int.mul_nonneg hq0 b0
  have q0' : q * z0 ≤ 999999999 * 999999999 := Int.mul_le_mul (by omega) (by omega) b0 (by omega)
  have q1 : 0 ≤ q * z1 := Int.mul_nonneg hq0 b2
  have q1' : q * z1 ≤ 999999999 * 999999999 := Int.mul_le_mul (by omega) (by omega) b2 (by omega)
  have r0 : rd [z0, z1] ((0 : Nat) : Int) = z0 := by simp [rd]
  have r1 : rd [z0, z1] ((1 : Nat) : Int) = z1 := by simp [rd]
  have N0 := red_num (u0 - 0 - q * z0) 0 (q * z0) u0 rfl a0 a1 (by omega) (by omega) q0 (by omega)
  unfold nat_reduce.f
  have S0 := reduce_step [u0, u1, u2] [z0, z1] q 0 (([u0, u1, u2] : List Int).length : Int) 0 (q * z0) hu (by simp) (by simp) rfl (by rw [if_pos (by simp), r0]) q0 (by omega) (by omega) (by omega) (k + 3)
  have x0 : rd [u0, u1, u2] ((0 : Nat) : Int) = u0 := by simp [rd]
  rw [x0] at S0
  rw [show ((0 : Nat) : Int) = 0 from rfl] at S0
  rw [S0]
  generalize (u0 - 0 - q * z0) % 1000000000 = y0 at *
  generalize -((u0 - 0 - q * z0) / 1000000000) = c0 at *
  have N1 := red_num (u1 - c0 - q * z1) c0 (q * z1) u1 rfl a2 a3 (by omega) (by omega) q1 (by omega)
  have S1 := reduce_step [y0, u1, u2] [z0, z1] q c0 (([u0, u1, u2] : List Int).length : Int) 1 (q * z1) ⟨by omega, by omega, a2, a3, a4, a5, trivial⟩ (by simp) (by simp) (by simp) (by rw [if_pos (by simp), r1]) q1 (by omega) (by omega) (by omega) (k + 2)
  have x1 : rd [y0, u1, u2] ((1 : Nat) : Int) = u1 := by simp [rd]
  rw [x1] at S1
  rw [show ([u0, u1, u2] : List Int).set 0 y0 = [y0, u1, u2] from rfl, S1]
  generalize (u1 - c0 - q * z1) % 1000000000 = y1 at *
  generalize -((u1 - c0 - q * z1) / 1000000000) = c1 at *
  have N2 := red_num (u2 - c1 - 0) c1 0 u2 rfl a4 a5 (by omega) (by omega) (by omega) (by omega)
  have S2 := reduce_step [y0, y1, u2] [z0, z1] q c1 (([u0, u1, u2] : List Int).length : Int) 2 0 ⟨by omega, by omega, by omega, by omega, a4, a5, trivial⟩ (by simp) (by simp) (by simp) (by rw [if_neg (by simp)]) (by omega) (by omega) (by omega) (by omega) (k + 1)
  have x2 : rd [y0, y1, u2] ((2 : Nat) : Int) = u2 := by simp [rd]
  rw [x2] at S2
  rw [show ([y0, u1, u2] : List Int).set 1 y1 = [y0, y1, u2] from rfl, S2]
  generalize (u2 - c1 - 0) % 1000000000 = y2 at *
  generalize -((u2 - c1 - 0) / 1000000000) = c2 at *
  rw [show ([y0, y1, u2] : List Int).set 2 y2 = [y0, y1, y2] from rfl]
  have z2 : c2 = 0 := by omega
  have zy : y2 = 0 := by omega
  subst z2 zy
  simp only [nat_reduce.l0]
  rw [if_neg (by simp)]
  exact ⟨y0, y1, rfl, ⟨by omega, by omega, by omega, by omega, trivial⟩, by omega⟩

theorem divide_eq (a0 a1 b0 b1 : Int) (ha : Dig [a0, a1]) (hb : Nrm [b0, b1]) (h2 : val [a0, a1] < 1000000000 * val [b0, b1]) (k : Nat) (hk : 400 ≤ k) :
    ∃ q r, nat_divide.f k [a0, a1] [b0, b1] = some (q, r) ∧ Nrm q ∧ Nrm r ∧ val q = val [a0, a1] / val [b0, b1] ∧ val r = val [a0, a1] % val [b0, b1] ∧ q.length ≤ 1 ∧ r.length ≤ 2 := by
  have g0 := hb.1; have g1 := hb.2.1; have g2 := hb.2.2.1.1; have g3 := hb.2.2.1.2.1; have g4 := hb.2.2.1.2.2.2 rfl
  have vb : val [b0, b1] = b0 + 1000000000 * b1 := by simp [val]
  have hA0 := val_nonneg ha
  generalize hA : val [a0, a1] = A at *
  generalize hV : val [b0, b1] = V at *
  have hV0 : 0 < V := by omega
  -- the factor
  obtain ⟨m, hm⟩ : ∃ m, 1000000000 / (b1 + 1) = m := ⟨_, rfl⟩
  have dm := Int.mul_ediv_add_emod 1000000000 (b1 + 1)
  have m0 := Int.emod_nonneg 1000000000 (show b1 + 1 ≠ 0 by omega)
  have m1 := Int.emod_lt_of_pos 1000000000 (show 0 < b1 + 1 by omega)
  rw [hm] at dm
  rw [Int.add_mul, Int.one_mul] at dm
  have m2 : 1 ≤ m := by rw [← hm]; exact (Int.le_ediv_iff_mul_le (by omega)).2 (by omega)
  have pm : 0 ≤ (b1 - 1) * (m - 1) := Int.mul_nonneg (by omega) (by omega)
  rw [Int.sub_mul, Int.mul_sub, Int.one_mul, Int.mul_one] at pm
  have p1 : 0 ≤ b1 * m := Int.mul_nonneg (by omega) (by omega)
  have m3 : m ≤ 999999999 := by omega
  -- the scaled numbers
  have DU := tmul_dig m (by omega) (by omega) [a0, a1] 0 ha (by omega) (by omega)
  have DV := tmul_dig m (by omega) (by omega) [b0, b1] 0 hb.dig (by omega) (by omega)
  have SU := scaled2 a0 a1 m ha (by omega) (by omega) k (by omega)
  have SV := scaled2 b0 b1 m hb.dig (by omega) (by omega) k (by omega)
  obtain ⟨u0, u1, u2, eu⟩ := list3 (u := tmul m 0 [a0, a1]) (by rw [DU.2.2]; rfl)
  obtain ⟨z0, z1, z2, ez⟩ := list3 (u := tmul m 0 [b0, b1]) (by rw [DV.2.2]; rfl)
  rw [eu] at DU SU
  rw [ez] at DV SV
  obtain ⟨DU1, DU2, _⟩ := DU
  obtain ⟨DV1, DV2, _⟩ := DV
  rw [hA, Int.zero_add] at DU2
  rw [hV, Int.zero_add] at DV2
  have c0 := DV1.1; have c1 := DV1.2.1; have c2 := DV1.2.2.1; have c3 := DV1.2.2.2.1; have c4 := DV1.2.2.2.2.1
  have vz : val [z0, z1, z2] = z0 + 1000000000 * (z1 + 1000000000 * z2) := by simp [val]
  have e1 : V * m = b0 * m + 1000000000 * (b1 * m) := by rw [vb, Int.add_mul, Int.mul_assoc]
  have p2 : 0 ≤ b0 * m := Int.mul_nonneg g0 (by omega)
  have p3 : b0 * m ≤ 999999999 * m := Int.mul_le_mul_of_nonneg_right (by omega) (by omega)
  have zz : z2 = 0 := by omega
  subst zz
  have DZ : Dig [z0, z1] := ⟨c0, c1, c2, c3, trivial⟩
  have vz2 : val [z0, z1] = V * m := by rw [← DV2]; simp [val]
  have hz1 : 500000000 ≤ z1 := by omega
  -- the quotient
  have d0 : 0 ≤ A / V := Int.ediv_nonneg hA0 (by omega)
  have d1 : A / V < 1000000000 := Int.ediv_lt_of_lt_mul hV0 (by omega)
  have da := Int.mul_ediv_add_emod A V
  have r0 := Int.emod_nonneg A (show V ≠ 0 by omega)
  have r1 := Int.emod_lt_of_pos A hV0
  generalize hQ : A / V = Q at *
  generalize hR : A % V = R at *
  have eQ : Q * val [z0, z1] = (V * Q) * m := by rw [vz2, Int.mul_comm V Q, Int.mul_assoc]
  have eU : val [u0, u1, u2] = (V * Q) * m + R * m := by rw [DU2, ← da, Int.add_mul]
  have rm0 : 0 ≤ R * m := Int.mul_nonneg r0 (by omega)
  have rm1 : R * m < V * m := Int.mul_lt_mul_of_pos_right r1 (by omega)
  have DG := digit2_eq u0 u1 u2 z0 z1 Q DU1 DZ hz1 d0 d1 (by omega) (by omega) k (by omega)
  obtain ⟨x0, x1, RE, DX, vX⟩ := reduce2_eq u0 u1 u2 z0 z1 Q DU1 DZ d0 d1 (by omega) (by omega) k (by omega)
  obtain ⟨t, t1, t2, t3, t4⟩ := trimmed_eq [x0, x1] DX (by simp) k (by omega)
  have lt : t.length ≤ 2 := by simpa using t4
  obtain ⟨s, s', s1, s2, _, s4, _, s6, _⟩ := short_eq t m t2.dig (by omega) (by omega) (by omega) k (by omega)
  obtain ⟨r, y1, y2, y3, y4⟩ := trimmed_eq [Q] ⟨d0, d1, trivial⟩ (by simp) k (by omega)
  refine ⟨r, s, ?_, y2, s2, by rw [y3]; simp [val], ?_, by simpa using y4, by omega⟩
  · have rb : rd [b0, b1] 1 = b1 := by simp [rd]
    unfold nat_divide.f
    rw [rb, hm, if_pos ⟨rfl, rfl, g2, g3⟩, SU, Option.bind_some, SV, Option.bind_some, if_pos ⟨rfl, rfl⟩, show ([z0, z1, 0] : List Int).take 2 = [z0, z1] from rfl, DG, Option.bind_some, RE, Option.bind_some, if_pos ⟨rfl, rfl⟩, show ([x0, x1, 0] : List Int).take 2 = [x0, x1] from rfl, t1, Option.bind_some, s1, Option.bind_some, y1, Option.bind_some]
  · rw [s4, t3, vX, eU, eQ, show V * Q * m + R * m - V * Q * m = R * m by omega, Int.mul_ediv_cancel _ (by omega)]

theorem two_limbs : ∀ {l : List Int}, l.length = 2 → ∃ x y, l = [x, y]
  | [x, y], _ => ⟨x, y, rfl⟩

theorem limbs_of : ∀ {l : List Int}, Nrm l → 0 < val l → val l < 1000000000000000000 → l.length = 1 ∨ l.length = 2
  | [], _, h, _ => by simp [val] at h
  | [x], _, _, _ => .inl rfl
  | [x, y], _, _, _ => .inr rfl
  | x :: y :: z :: zs, hn, _, h => by
    have h1 := val_pos hn.2.2.1.2.2.1; have h2 := hn.1; have h3 := hn.2.2.1.1
    simp only [val] at *; omega

theorem divided_eq2 (a b : List Int) (ha : Nrm a) (hb : Nrm b) (la : a.length ≤ 2) (hb0 : 0 < val b) (h2 : val b < 1000000000 ∨ val a < 1000000000 * val b) (k : Nat) (hk : 400 ≤ k) :
    ∃ q r, nat_divided.f k a b = some (q, r) ∧ Nrm q ∧ Nrm r ∧ val q = val a / val b ∧ val r = val a % val b := by
  by_cases l1 : b.length = 1
  · exact divided_eq a b ha hb (by omega) l1 k hk
  have a0 := val_nonneg ha.dig
  by_cases c : sgn (val a) (val b) < 0
  · have c' := sgn_lt.1 c
    unfold nat_divided.f
    rw [compare_eq a b ha hb (by omega) _ (by omega)]
    simp only [Option.bind_some]
    obtain ⟨r, e1, e2, e3, e4⟩ := trimmed_eq a ha.dig (by omega) k (by omega)
    rw [if_pos c, show nat_padded.f a (a.length : Int) = some a from by unfold nat_padded.f; rw [if_pos ⟨rfl, by omega⟩]]
    simp only [Option.bind_some]
    rw [e1]
    refine ⟨[], r, rfl, trivial, e2, ?_, ?_⟩
    · rw [Int.ediv_eq_zero_of_lt a0 c']; rfl
    · rw [e3, Int.emod_eq_of_lt a0 c']
  · have c' : ¬ val a < val b := fun h => c (sgn_lt.2 h)
    have l2 : b.length ≤ 2 := by have := len_le hb ha (by omega); omega
    have l0 : b.length ≠ 0 := by intro e; rw [List.length_eq_zero_iff] at e; subst e; simp [val] at hb0
    obtain ⟨b0, b1, rfl⟩ := two_limbs (l := b) (by omega)
    have hla : a.length = 2 := by have := len_le hb ha (by omega); simp at this; omega
    obtain ⟨x0, x1, rfl⟩ := two_limbs hla
    have hlt : val [x0, x1] < 1000000000 * val [b0, b1] := by
      rcases h2 with h2 | h2
      · exfalso
        have := hb.2.2.1.1; have := hb.2.2.1.2.2.2 rfl; have := hb.1
        simp only [val] at h2; omega
      · exact h2
    obtain ⟨q, r, e1, e2, e3, e4, e5, _⟩ := divide_eq x0 x1 b0 b1 ha.dig hb hlt k hk
    unfold nat_divided.f
    rw [compare_eq [x0, x1] [b0, b1] ha hb (by simp) _ (by omega)]
    simp only [Option.bind_some]
    rw [if_neg c, if_neg (by simp), e1]
    exact ⟨q, r, rfl, e2, e3, e4, e5⟩

theorem divmod_eq2 (a b : List Int) (ha : Nrm a) (hb : Nrm b) (la : a.length ≤ 2) (lb : b.length ≤ 2) (hb0 : 0 < val b) (h2 : val b < 1000000000 ∨ val a < 1000000000 * val b) (k : Nat) (hk : 500 ≤ k) :
    ∃ q r, nat_DivMod.f k a b = some (q, r, 0) ∧ Nrm q ∧ Nrm r ∧ val q = val a / val b ∧ val r = val a % val b := by
  obtain ⟨k, rfl⟩ : ∃ j, k = j + 1 := ⟨k - 1, by omega⟩
  obtain ⟨q, r, e1, e2, e3, e4, e5⟩ := divided_eq2 a b ha hb la hb0 h2 k (by omega)
  have l0 : b.length ≠ 0 := by intro e; rw [List.length_eq_zero_iff] at e; subst e; simp [val] at hb0
  unfold nat_DivMod.f
  rw [valid_eq a ha (by omega) _ (by omega), valid_eq b hb (by omega) _ (by omega)]
  simp only [Option.bind_some, if_true, Bool.not_true, nat_DivMod.j0]
  rw [if_neg (by simp), if_neg (by omega), e1]
  exact ⟨q, r, rfl, e2, e3, e4, e5⟩
end Go.Proofs.Ytnkmeocccbkdkaa.Pure
