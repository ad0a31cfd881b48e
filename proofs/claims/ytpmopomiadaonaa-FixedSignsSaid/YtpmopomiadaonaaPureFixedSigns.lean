/- The statement FixedSigns over numbers alone: Mul does not depend on the order; results do not change if both signs change. -/
import Derived.Test.YtpmopomiadaonaaPx16
import Derived.Test.YtpmopomiadaonaaRnd2
import Derived.Test.YtpmopomiadaonaaFixedAwake
import Derived.Test.YtpmopomiadaonaaPureFixedMuls
namespace Go.Proofs.Ytpmopomiadaonaa.Pure
open Go.RowKit Go.Proofs.Ytpmopomiadaonaa.P Go.Proofs.YtpmopomiadaonaaW.PrintWords Go.Proofs.YtpmopomiadaonaaW.PrintLast Go.Proofs.Ytpmopomiadaonaa.Math
set_option linter.unusedVariables false

theorem q2_comm (a b c : Int) : q2 a b c = q2 b a c := by unfold q2; rw [Int.mul_comm a b]
theorem q2_both (a b c : Int) : q2 (-a) (-b) c = q2 a b c := by unfold q2; rw [Int.neg_mul_neg]
theorem inF_neg (x : Int) : inF (-x) = inF x := by
  rw [Bool.eq_iff_iff, inF_iff, inF_iff]; omega

theorem q2_neg (a b c : Int) (hc : c ≠ 0) : q2 (-a) b c = -q2 a b c := by
  unfold q2
  by_cases h : c < 0
  · rw [if_pos h, if_pos h, if_pos h, Int.neg_mul, rnd2_neg _ _ (by omega)]
  · rw [if_neg h, if_neg h, if_neg h, Int.neg_mul, rnd2_neg _ _ (by omega)]

theorem q2_negc (a b c : Int) (hc : c ≠ 0) : q2 a b (-c) = -q2 a b c := by
  unfold q2
  by_cases h : c < 0
  · rw [if_neg (by omega), if_neg (by omega), if_pos h, if_pos h, rnd2_neg _ _ (by omega), Int.neg_neg]
  · rw [if_pos (by omega), if_pos (by omega), if_neg h, if_neg h, rnd2_neg _ _ (by omega), Int.neg_neg]

theorem mulF_comm (a b : Int) (ha : inF a = true) (hb : inF b = true) : mulF b a = mulF a b := by
  rw [mulF_eq a b ha hb, mulF_eq b a hb ha, q2_comm b a]
theorem mulF_both (a b : Int) (ha : inF a = true) (hb : inF b = true) : mulF (-a) (-b) = mulF a b := by
  rw [mulF_eq a b ha hb, mulF_eq (-a) (-b) (by rw [inF_neg]; exact ha) (by rw [inF_neg]; exact hb), q2_both]
theorem divF_negl (a b : Int) (ha : inF a = true) (hb : inF b = true) : divF (-a) b = (-(divF a b).1, (divF a b).2) := by
  have ha' : inF (-a) = true := by rw [inF_neg]; exact ha
  by_cases h0 : b = 0
  · subst h0
    rw [divF_zero a ha, divF_zero (-a) ha']; rfl
  · rw [divF_eq a b ha hb h0, divF_eq (-a) b ha' hb h0, q2_neg a 65536 b h0, inF_neg]
    split <;> rfl
theorem divF_both (a b : Int) (ha : inF a = true) (hb : inF b = true) : divF (-a) (-b) = divF a b := by
  have ha' : inF (-a) = true := by rw [inF_neg]; exact ha
  have hb' : inF (-b) = true := by rw [inF_neg]; exact hb
  by_cases h0 : b = 0
  · subst h0
    rw [show (-(0 : Int)) = 0 from rfl, divF_zero a ha, divF_zero (-a) ha']
  · rw [divF_eq a b ha hb h0, divF_eq (-a) (-b) ha' hb' (by omega), q2_negc (-a) 65536 b h0, q2_neg a 65536 b h0, Int.neg_neg]

theorem divF_bound (a b : Int) : -1125899906842624 ≤ (divF a b).1 ∧ (divF a b).1 ≤ 1125899906842624 := by
  unfold divF scl
  split
  · split
    · split
      · rename_i h
        have := (inF_iff _).1 h
        dsimp only
        omega
      · exact ⟨by decide, by decide⟩
    · exact ⟨by dsimp only; omega, by dsimp only; omega⟩
  · exact ⟨by decide, by decide⟩

theorem FixedSigns : papermilllaw23_FixedSigns.Pure := by
  intro a b _ _
  refine ⟨200, ?_⟩
  unfold papermilllaw23_FixedSigns.f
  by_cases h1 : a < -1099511627776
  · rw [if_pos h1]; simp only [papermilllaw23_FixedSigns.j0]; rw [if_pos trivial, fixed_awake _ (by omega)]; rfl
  · rw [if_neg h1]
    by_cases h2 : a > 1099511627776
    · rw [if_pos h2]; simp only [papermilllaw23_FixedSigns.j0]; rw [if_pos trivial, fixed_awake _ (by omega)]; rfl
    · rw [if_neg h2]
      by_cases h3 : b < -1099511627776
      · rw [if_pos h3]; simp only [papermilllaw23_FixedSigns.j0]; rw [if_pos trivial, fixed_awake _ (by omega)]; rfl
      · rw [if_neg h3]
        by_cases h4 : b > 1099511627776
        · rw [decide_eq_true h4]; simp only [papermilllaw23_FixedSigns.j0]; rw [if_pos trivial, fixed_awake _ (by omega)]; rfl
        · rw [decide_eq_false h4]
          simp only [papermilllaw23_FixedSigns.j0]
          have ha : inF a = true := (inF_iff a).2 (by omega)
          have hb : inF b = true := (inF_iff b).2 (by omega)
          have hbd := divF_bound a b
          rw [if_neg (by simp), wrap64_id (x := -a) (by omega) (by omega), wrap64_id (x := -b) (by omega) (by omega), mul_eq _ _ _ (by omega), mul_eq _ _ _ (by omega), mul_eq _ _ _ (by omega), div_eq _ _ _ (by omega), div_eq _ _ _ (by omega), div_eq _ _ _ (by omega), fixed_awake _ (by omega),
            mulF_comm a b ha hb, mulF_both a b ha hb, divF_both a b ha hb, divF_negl a b ha hb]
          simp only [Option.bind_some]
          rw [wrap64_id (x := -(divF a b).1) (by omega) (by omega)]
          simp

end Go.Proofs.Ytpmopomiadaonaa.Pure
