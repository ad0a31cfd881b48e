/- The statement FixedNear over numbers alone: products and quotients are the nearest fixed-point numbers. -/
import Derived.Test.YtpmopomiadaonaaPx14
import Derived.Test.YtpmopomiadaonaaRnd2
import Derived.Test.YtpmopomiadaonaaFixedAwake
import Derived.Test.YtpmopomiadaonaaPureFixedMuls
import Derived.Test.YtpmopomiadaonaaPureFixedInverse
namespace Go.Proofs.Ytpmopomiadaonaa.Pure
open Go.RowKit Go.Proofs.Ytpmopomiadaonaa.P Go.Proofs.YtpmopomiadaonaaW.PrintWords Go.Proofs.YtpmopomiadaonaaW.PrintLast Go.Proofs.Ytpmopomiadaonaa.Math
set_option linter.unusedVariables false

theorem half_true (n d q : Int) (hd : 0 < d) (hd' : d ≤ 1099511627776) (hn : -1152921504606846976 ≤ n ∧ n ≤ 1152921504606846976) (h : Near n d q) : papermilllaw23_half.f n d q = some true := by
  unfold Near at h
  unfold papermilllaw23_half.f
  rw [Int.mul_comm q d]
  generalize d * q = Y at *
  rw [wrap64_id (x := Y) (by omega) (by omega), wrap64_id (x := n - Y) (by omega) (by omega), wrap64_id (x := 2 * (n - Y)) (by omega) (by omega), wrap64_id (x := -d) (by omega) (by omega)]
  have ev : (2 * (n - Y) = d ∨ 2 * (n - Y) = -d) → (q.tmod 2 == 0) = true := fun e => by
    have h2 := h.2.2 e
    rw [beq_iff_eq]
    exact Int.tmod_eq_zero_of_dvd (Int.dvd_of_emod_eq_zero h2)
  by_cases c1 : 2 * (n - Y) < d
  · rw [if_pos c1]
    by_cases c2 : 2 * (n - Y) > -d
    · rw [if_pos c2]
    · rw [if_neg c2, if_neg (by omega), if_pos (by omega), ev (by omega)]
  · rw [if_neg c1, if_pos (by omega), ev (by omega)]

theorem mul_bound28 (x y : Int) (hx : -268435455 ≤ x ∧ x ≤ 268435455) (hy : -268435455 ≤ y ∧ y ≤ 268435455) : -72057593501057025 ≤ x * y ∧ x * y ≤ 72057593501057025 := by
  have h1 := Int.mul_nonneg (show 0 ≤ 268435455 - x by omega) (show 0 ≤ 268435455 - y by omega)
  have h2 := Int.mul_nonneg (show 0 ≤ 268435455 + x by omega) (show 0 ≤ 268435455 + y by omega)
  have h3 := Int.mul_nonneg (show 0 ≤ 268435455 - x by omega) (show 0 ≤ 268435455 + y by omega)
  have h4 := Int.mul_nonneg (show 0 ≤ 268435455 + x by omega) (show 0 ≤ 268435455 - y by omega)
  simp only [Int.sub_mul, Int.add_mul, Int.mul_sub, Int.mul_add] at h1 h2 h3 h4
  omega

theorem near_small (n d q : Int) (hd : 0 < d) (h : Near n d q) (hn : -1099511627776 ≤ n ∧ n ≤ 1099511627776) : -1099511627776 ≤ q ∧ q ≤ 1099511627776 := by
  unfold Near at h
  constructor
  · rcases Int.lt_or_le q (-1099511627776) with c | c
    · have := Int.mul_le_mul_of_nonneg_left (show q ≤ -1099511627777 by omega) (Int.le_of_lt hd)
      omega
    · exact c
  · rcases Int.lt_or_le 1099511627776 q with c | c
    · have := Int.mul_le_mul_of_nonneg_left (show 1099511627777 ≤ q by omega) (Int.le_of_lt hd)
      omega
    · exact c

theorem FixedNear : papermilllaw23_FixedNear.Pure := by
  intro a b wa wb
  have ha : -2147483648 ≤ a ∧ a ≤ 2147483647 := by simp [Lit.wf, IntKind.min, IntKind.max, IntKind.signed, IntKind.bits] at wa; omega
  have hb : -2147483648 ≤ b ∧ b ≤ 2147483647 := by simp [Lit.wf, IntKind.min, IntKind.max, IntKind.signed, IntKind.bits] at wb; omega
  refine ⟨200, ?_⟩
  unfold papermilllaw23_FixedNear.f
  rw [wrap64_id (x := a) (by omega) (by omega), wrap64_id (x := b) (by omega) (by omega)]
  have h1 := tmodb a 268435456 (by omega)
  have h2 := tmodb b 268435456 (by omega)
  generalize a.tmod 268435456 = x at *
  generalize b.tmod 268435456 = y at *
  have hx : inF x = true := (inF_iff x).2 (by omega)
  have hy : inF y = true := (inF_iff y).2 (by omega)
  have hxy := mul_bound28 x y (by omega) (by omega)
  have hnear := q2_near_pos x y 65536 (by omega)
  have hq : -1099511627776 ≤ q2 x y 65536 ∧ q2 x y 65536 ≤ 1099511627776 := by unfold Near at hnear; omega
  rw [mul_eq _ _ _ (by omega), mulF_eq x y hx hy, if_pos ((inF_iff _).2 hq), wrap64_id (x := x * y) (by omega) (by omega)]
  simp only [Option.bind_some, if_true]
  rw [if_neg (by omega), if_neg (by omega), half_true (x * y) 65536 _ (by omega) (by omega) (by omega) hnear]
  simp only [Option.bind_some, Bool.not_true, papermilllaw23_FixedNear.j0]
  rw [if_neg (by simp), div_eq _ _ _ (by omega), fixed_awake _ (by omega)]
  simp only [Option.bind_some]
  by_cases hy0 : y = 0
  · subst hy0
    rw [if_pos rfl, divF_zero x hx]
    rfl
  · rw [if_neg hy0, divF_eq x y hx hy hy0, wrap64_id (x := x * 65536) (by omega) (by omega)]
    by_cases hi : inF (q2 x 65536 y) = true
    · rw [if_pos hi]
      have hib := (inF_iff _).1 hi
      simp only [if_true]
      by_cases c : y < 0
      · have hn := q2_near_neg x 65536 y c
        rw [if_pos c, if_pos (by omega), if_pos (by omega), wrap64_id (x := -(x * 65536)) (by omega) (by omega), wrap64_id (x := -y) (by omega) (by omega), half_true _ _ _ (by omega) (by omega) (by omega) hn]
        rfl
      · have hn := q2_near_pos x 65536 y (by omega)
        rw [if_neg c, if_pos (by omega), if_pos (by omega), half_true _ _ _ (by omega) (by omega) (by omega) hn]
        rfl
    · rw [if_neg hi]
      have hbig : 16777216 < x ∨ x < -16777216 := by
        rcases Int.lt_or_le 16777216 x with c | c
        · exact .inl c
        · rcases Int.lt_or_le x (-16777216) with c' | c'
          · exact .inr c'
          · exfalso
            apply hi
            rw [inF_iff]
            by_cases c3 : y < 0
            · exact near_small _ _ _ (show 0 < -y by omega) (q2_near_neg x 65536 y c3) (by omega)
            · exact near_small _ _ _ (show 0 < y by omega) (q2_near_pos x 65536 y (by omega)) (by omega)
      rw [if_neg (by decide), if_pos rfl, if_pos rfl]
      by_cases c : x > 16777216
      · rw [if_pos c]
      · rw [if_neg c, if_pos (by omega)]

end Go.Proofs.Ytpmopomiadaonaa.Pure
