/- The statement NumWhole over numbers alone: a product divided by one of its factors is the other one. -/
import Derived.Test.YteibjgfeaimaiaaPx13
import Derived.Test.YteibjgfeaimaiaaNumSpec
import Derived.Test.YteibjgfeaimaiaaRefMd
namespace Go.Proofs.Yteibjgfeaimaiaa.Pure
open Go.RowKit Go.Proofs.Yteibjgfeaimaiaa.P Go.Proofs.YteibjgfeaimaiaaW.PrintWords Go.Proofs.YteibjgfeaimaiaaW.PrintLast Go.Proofs.Yteibjgfeaimaiaa.Math
set_option linter.unusedVariables false

theorem rnd_exact (x d m : Int) (hd : 0 < d) : rnd (x * d) d m = x := by
  have e1 : x * d / d = x := Int.mul_ediv_cancel x (by omega)
  have e2 : x * d % d = 0 := Int.mul_emod_left x d
  have e3 : -(x * d) / d = -x := by rw [← Int.neg_mul]; exact Int.mul_ediv_cancel (-x) (by omega)
  unfold rnd
  rw [e1, e2, e3]
  split
  · rfl
  · split
    · omega
    · rw [if_pos (by omega)]

theorem md_whole (x y m : Int) (hx : -1125899906842624 ≤ x ∧ x ≤ 1125899906842624) (hy : -1125899906842624 ≤ y ∧ y ≤ 1125899906842624) (h0 : y ≠ 0) (hm : 0 ≤ m) (hm3 : m < 3) : md x y y m = (x, 0) ∧ md y x y m = (x, 0) := by
  have k1 : rnd (if y < 0 then -(x * y) else x * y) (if y < 0 then -y else y) m = x := by
    by_cases c : y < 0
    · rw [if_pos c, if_pos c, ← Int.mul_neg]; exact rnd_exact x (-y) m (by omega)
    · rw [if_neg c, if_neg c]; exact rnd_exact x y m (by omega)
  have k2 : rnd (if y < 0 then -(y * x) else y * x) (if y < 0 then -y else y) m = x := by rw [Int.mul_comm y x]; exact k1
  constructor
  · unfold md; rw [if_neg (by omega), if_neg h0, if_neg (by omega), k1, if_neg (by omega)]
  · unfold md; rw [if_neg (by omega), if_neg h0, if_neg (by omega), k2, if_neg (by omega)]

theorem NumWhole : papermilllaw01_NumWhole.Pure := by
  intro a b m _ _ hm
  have hu : 0 ≤ m ∧ m ≤ 255 := by simp [Lit.wf, IntKind.min, IntKind.max, IntKind.signed, IntKind.bits] at hm; omega
  refine ⟨300, ?_⟩
  unfold papermilllaw01_NumWhole.f num_MulDiv.f
  rw [awake_true 300 (by omega)]
  have ta := tdm a 1125899906842625 (by omega)
  have tb := tdm b 1125899906842625 (by omega)
  by_cases c : b.tmod 1125899906842625 = 0
  · rw [if_pos c]; rfl
  · rw [if_neg c, Int.tmod_eq_emod_of_nonneg (a := m) (by omega), wrap64_id (by omega) (by omega)]
    obtain ⟨e1, e2⟩ := md_whole (a.tmod 1125899906842625) (b.tmod 1125899906842625) (m % 3) (by omega) (by omega) c (by omega) (by omega)
    rw [e1, e2]
    simp

end Go.Proofs.Yteibjgfeaimaiaa.Pure
