/- The statement FixedClamps over numbers alone: a clamped number lies between its limits and does not change any more. -/
import Derived.Test.YtpmopomiadaonaaPx20
import Derived.Test.YtpmopomiadaonaaFixedSpec
import Derived.Test.YtpmopomiadaonaaFixedAwake
namespace Go.Proofs.Ytpmopomiadaonaa.Pure
open Go.RowKit Go.Proofs.Ytpmopomiadaonaa.P Go.Proofs.YtpmopomiadaonaaW.PrintWords Go.Proofs.YtpmopomiadaonaaW.PrintLast Go.Proofs.Ytpmopomiadaonaa.Math
set_option linter.unusedVariables false

theorem clamp_ok (a lo hi : Int) (k : Nat) (hk : 5 ≤ k) (h : (inF a && (inF lo && inF hi)) = true) (h2 : lo ≤ hi) : fixed_Clamp.f k a lo hi = some (mx lo (mn a hi), 0) := by
  unfold fixed_Clamp.f
  rw [fixed_in_eq ([a, lo, hi] : List Int) (by simp) k (by simp; omega)]
  simp only [Option.bind_some, List.all_cons, List.all_nil, Bool.and_true]
  rw [if_pos h, if_neg (by omega)]

theorem clamp_no (a lo hi : Int) (k : Nat) (hk : 5 ≤ k) (h : ¬ ((inF a && (inF lo && inF hi)) = true ∧ lo ≤ hi)) : ∃ e, e ≠ 0 ∧ fixed_Clamp.f k a lo hi = some (0, e) := by
  unfold fixed_Clamp.f
  rw [fixed_in_eq ([a, lo, hi] : List Int) (by simp) k (by simp; omega)]
  simp only [Option.bind_some, List.all_cons, List.all_nil, Bool.and_true]
  by_cases h1 : (inF a && (inF lo && inF hi)) = true
  · have h2 : ¬ lo ≤ hi := fun g => h ⟨h1, g⟩
    rw [if_pos h1, if_pos (by omega)]; exact ⟨9, by omega, rfl⟩
  · rw [if_neg h1]; exact ⟨1, by omega, rfl⟩

theorem FixedClamps : papermilllaw23_FixedClamps.Pure := by
  intro a lo hi _ _ _
  refine ⟨200, ?_⟩
  unfold papermilllaw23_FixedClamps.f
  rw [fixed_awake 200 (by omega)]
  by_cases h : (inF a && (inF lo && inF hi)) = true ∧ lo ≤ hi
  · rw [clamp_ok a lo hi 200 (by omega) h.1 h.2]
    simp only [Option.bind_some, if_true]
    have h1 := h.1
    have h2 := h.2
    simp only [Bool.and_eq_true] at h1
    have b1 := (inF_iff a).1 h1.1
    have b2 := (inF_iff lo).1 h1.2.1
    have b3 := (inF_iff hi).1 h1.2.2
    have hx : lo ≤ mx lo (mn a hi) ∧ mx lo (mn a hi) ≤ hi ∧ (mx lo (mn a hi) = a ∨ (mx lo (mn a hi) = lo ∧ a < lo) ∨ (mx lo (mn a hi) = hi ∧ hi < a)) := by
      unfold mx mn
      split <;> split <;> omega
    generalize hX : mx lo (mn a hi) = x at *
    have hc := clamp_ok x lo hi 200 (by omega) (by simp only [Bool.and_eq_true]; exact ⟨(inF_iff x).2 ⟨by omega, by omega⟩, h1.2.1, h1.2.2⟩) h2
    have hxx : mx lo (mn x hi) = x := by unfold mx mn; split <;> split <;> omega
    rw [hxx] at hc
    rw [hc]
    simp only [Option.bind_some, if_true]
    rw [if_pos (by omega), if_pos (by omega)]
    by_cases e1 : x = a
    · rw [if_pos e1]
    · rw [if_neg e1]
      by_cases e2 : x = lo
      · rw [if_pos e2]
        by_cases e3 : a < lo
        · rw [if_pos e3]
        · rw [if_neg e3, if_pos (by omega), if_pos (by omega)]
      · rw [if_neg e2, if_pos (by omega), if_pos (by omega)]
  · obtain ⟨e, he, hc⟩ := clamp_no a lo hi 200 (by omega) h
    rw [hc]
    simp only [Option.bind_some]
    rw [if_neg he]
    rfl

end Go.Proofs.Ytpmopomiadaonaa.Pure
