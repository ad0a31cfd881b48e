/- The statement NumAdds over numbers alone: Add, Sub, Mul and their references answer alike. -/
import Derived.Test.YteibjgfeaimaiaaPx17
import Derived.Test.YteibjgfeaimaiaaNumSpec
import Derived.Test.YteibjgfeaimaiaaHandRefMul
import Derived.Test.YteibjgfeaimaiaaPx15
import Derived.Test.YteibjgfeaimaiaaPx16
import Derived.Test.YteibjgfeaimaiaaPx16
import Derived.Test.YteibjgfeaimaiaaPx5
namespace Go.Proofs.Yteibjgfeaimaiaa.Pure
open Go.RowKit Go.Proofs.Yteibjgfeaimaiaa.P Go.Proofs.YteibjgfeaimaiaaW.PrintWords Go.Proofs.YteibjgfeaimaiaaW.PrintLast Go.Proofs.Yteibjgfeaimaiaa.Math
set_option linter.unusedVariables false

theorem ref_Add_eq (a b : Int) : papermillref01_Add.f a b = some (if inR a = true ∧ inR b = true then resSpec (a + b) else (0, 1)) := by
  unfold papermillref01_Add.f
  rw [rIn_eq, rIn_eq]
  simp only [Option.bind_some]
  cases ha : inR a with
  | false => simp
  | true =>
    cases hb : inR b with
    | false => simp
    | true =>
      have ha' := (rInR_iff a).1 ha
      have hb' := (rInR_iff b).1 hb
      rw [wrap64_id (by omega) (by omega), rresult_eq]
      simp [resSpec]

theorem ref_Sub_eq (a b : Int) : papermillref01_Sub.f a b = some (if inR a = true ∧ inR b = true then resSpec (a - b) else (0, 1)) := by
  unfold papermillref01_Sub.f
  rw [rIn_eq, rIn_eq]
  simp only [Option.bind_some]
  cases ha : inR a with
  | false => simp
  | true =>
    cases hb : inR b with
    | false => simp
    | true =>
      have ha' := (rInR_iff a).1 ha
      have hb' := (rInR_iff b).1 hb
      rw [wrap64_id (by omega) (by omega), rresult_eq]
      simp [resSpec]

theorem num_Sub_eq (a b : Int) (k : Nat) (hk : 5 ≤ k) : num_Sub.f k a b = some (if inR a = true ∧ inR b = true then resSpec (a - b) else (0, 1)) := by
  unfold num_Sub.f
  rw [num_in_eq ([a, b] : List Int) (by simp) k (by simp; omega)]
  simp only [Option.bind_some]
  by_cases h : inR a = true ∧ inR b = true
  · have ha := (rInR_iff a).1 h.1
    have hb := (rInR_iff b).1 h.2
    rw [if_pos (by simp [h.1, h.2]), if_pos h, wrap64_id (by omega) (by omega), num_result_eq _ k (by omega)]
    rfl
  · rw [if_neg (by simpa using h), if_neg h]

theorem md_one (a b : Int) : md a b 1 0 = refMul a b := by
  unfold md refMul
  by_cases h : a < -1125899906842624 ∨ 1125899906842624 < a ∨ b < -1125899906842624 ∨ 1125899906842624 < b
  · rw [if_pos (by omega), if_pos h]
  · rw [if_neg (by omega), if_neg h, if_neg (by omega), if_neg (by omega)]
    have e : rnd (if (1 : Int) < 0 then -(a * b) else a * b) (if (1 : Int) < 0 then -1 else 1) 0 = a * b := by unfold rnd; simp
    rw [e]
    have hA : 0 ≤ (if a < 0 then -a else a) := by split <;> omega
    have hB : 0 ≤ (if b < 0 then -b else b) := by split <;> omega
    have habs : (if a < 0 then -a else a) * (if b < 0 then -b else b) = if a * b < 0 then -(a * b) else a * b := by
      have hAB := Int.mul_nonneg hA hB
      by_cases c0 : a < 0 <;> by_cases c1 : b < 0 <;> simp only [c0, c1, if_true, if_false, Int.neg_mul, Int.mul_neg, Int.neg_neg] at hAB ⊢ <;> split <;> omega
    by_cases hz : a = 0
    · subst hz
      rw [if_neg (by simp), if_neg (by simp)]
      simp [wrap64_id]
    · have hA1 : 0 < (if a < 0 then -a else a) := by split <;> omega
      have hiff : 1125899906842624 / (if a < 0 then -a else a) < (if b < 0 then -b else b) ↔ 1125899906842624 < (if a < 0 then -a else a) * (if b < 0 then -b else b) := by
        rw [Int.ediv_lt_iff_lt_mul hA1, Int.mul_comm]
      rw [habs] at hiff
      by_cases c : a * b < -1125899906842624 ∨ 1125899906842624 < a * b
      · rw [if_pos c, if_pos ⟨hz, hiff.2 (by split <;> omega)⟩]
      · rw [if_neg c, if_neg (fun hh => by have := hiff.1 hh.2; split at this <;> omega), wrap64_id (by omega) (by omega)]

theorem NumAdds : papermilllaw01_NumAdds.Pure := by
  intro a b _ _
  refine ⟨300, ?_⟩
  unfold papermilllaw01_NumAdds.f num_Mul.f num_MulDiv.f papermillref01_Mul.f
  rw [num_Add_eq a b 300 (by omega), num_Sub_eq a b 300 (by omega), ref_Add_eq, ref_Sub_eq, md_one, awake_true 300 (by omega)]
  simp

end Go.Proofs.Yteibjgfeaimaiaa.Pure
