/- The statement FixedBack over numbers alone: a product divided by one of its factors differs from the other one by at most One / |b|, rounded up. -/
import Derived.Test.YtpmopomiadaonaaPx17
import Derived.Test.YtpmopomiadaonaaRnd2
import Derived.Test.YtpmopomiadaonaaFixedAwake
import Derived.Test.YtpmopomiadaonaaPureFixedMuls
namespace Go.Proofs.Ytpmopomiadaonaa.Pure
open Go.RowKit Go.Proofs.Ytpmopomiadaonaa.P Go.Proofs.YtpmopomiadaonaaW.PrintWords Go.Proofs.YtpmopomiadaonaaW.PrintLast Go.Proofs.Ytpmopomiadaonaa.Math
set_option linter.unusedVariables false

theorem back_most (c t : Int) (hc : 0 < c) (h : 2 * (c * t) ≤ c + 65536) : t ≤ (65536 + c - 1) / c := by
  rw [Int.le_ediv_iff_mul_le hc, Int.mul_comm]
  omega

theorem back_dist (a c x y p : Int) (hc : 0 < c) (hx : Near p 65536 x) (hy : Near (x * 65536) c y) (hp : p = c * a) : y - a ≤ (65536 + c - 1) / c ∧ a - y ≤ (65536 + c - 1) / c := by
  unfold Near at hx hy
  subst hp
  constructor
  · apply back_most c _ hc; rw [Int.mul_sub]; omega
  · apply back_most c _ hc; rw [Int.mul_sub]; omega

theorem FixedBack : papermilllaw23_FixedBack.Pure := by
  intro a b _ _
  refine ⟨200, ?_⟩
  unfold papermilllaw23_FixedBack.f
  rw [mul_eq _ _ _ (by omega)]
  simp only [Option.bind_some]
  have triv : ∀ x, papermilllaw23_FixedBack.j0 200 a b x true = some true := fun x => by
    simp only [papermilllaw23_FixedBack.j0]; rw [if_pos trivial, fixed_awake _ (by omega)]; rfl
  by_cases hin : inF a = true ∧ inF b = true
  · obtain ⟨ha, hb⟩ := hin
    have hab := (inF_iff a).1 ha
    have hbb := (inF_iff b).1 hb
    rw [mulF_eq a b ha hb]
    by_cases hi : inF (q2 a b 65536) = true
    · rw [if_pos hi]
      have hxb := (inF_iff _).1 hi
      have hnx := q2_near_pos a b 65536 (by omega)
      generalize q2 a b 65536 = x at *
      simp only [if_true]
      by_cases hb0 : b = 0
      · subst hb0
        exact triv _
      · rw [beq_eq_false_iff_ne.2 hb0]
        simp only [papermilllaw23_FixedBack.j0]
        rw [if_neg (by simp), div_eq _ _ _ (by omega), fixed_awake _ (by omega), divF_eq x b hi hb hb0]
        simp only [Option.bind_some]
        by_cases hj : inF (q2 x 65536 b) = true
        · rw [if_pos hj]
          have hyb := (inF_iff _).1 hj
          simp only [if_true]
          by_cases c : b < 0
          · have hny := q2_near_neg x 65536 b c
            generalize q2 x 65536 b = y at *
            have hd := back_dist a (-b) (-x) y (-(a * b)) (by omega) (by
              unfold Near at hnx ⊢; rw [Int.mul_neg]; omega) (by rw [Int.neg_mul]; exact hny) (by rw [Int.neg_mul, Int.mul_comm])
            rw [if_pos c, wrap64_id (x := -b) (by omega) (by omega), if_neg (by omega), if_neg (by omega), if_neg (by omega), if_neg (by omega), if_neg (by omega), if_neg (by omega), if_neg (by omega), wrap64_id (x := y - a) (by omega) (by omega), wrap64_id (x := a - y) (by omega) (by omega),
              wrap64_id (x := 65536 + -b) (by omega) (by omega), wrap64_id (x := 65536 + -b - 1) (by omega) (by omega), Int.tdiv_eq_ediv_of_nonneg (by omega)]
            have hle := Int.ediv_le_self (-b) (show 0 ≤ 65536 + -b - 1 by omega)
            have hge := Int.ediv_nonneg (show 0 ≤ 65536 + -b - 1 by omega) (show 0 ≤ -b by omega)
            rw [wrap64_id (by omega) (by omega), if_pos hd.1, if_pos hd.2]
          · have hny := q2_near_pos x 65536 b (by omega)
            generalize q2 x 65536 b = y at *
            have hd := back_dist a b x y (a * b) (by omega) hnx hny (by rw [Int.mul_comm])
            rw [if_neg c, if_neg (by omega), if_neg (by omega), if_neg (by omega), if_neg (by omega), if_neg (by omega), if_neg (by omega), if_neg (by omega), wrap64_id (x := y - a) (by omega) (by omega), wrap64_id (x := a - y) (by omega) (by omega),
              wrap64_id (x := 65536 + b) (by omega) (by omega), wrap64_id (x := 65536 + b - 1) (by omega) (by omega), Int.tdiv_eq_ediv_of_nonneg (by omega)]
            have hle := Int.ediv_le_self b (show 0 ≤ 65536 + b - 1 by omega)
            have hge := Int.ediv_nonneg (show 0 ≤ 65536 + b - 1 by omega) (show 0 ≤ b by omega)
            rw [wrap64_id (by omega) (by omega), if_pos hd.1, if_pos hd.2]
        · rw [if_neg hj]
          rfl
    · rw [if_neg hi]
      exact triv 0
  · unfold mulF
    rw [if_neg hin]
    exact triv 0

end Go.Proofs.Ytpmopomiadaonaa.Pure
