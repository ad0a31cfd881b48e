/- The statement FixedRounds over numbers alone: Round and Clamp and their references answer alike, for any three integers. -/
import Derived.Test.YtpmopomiadaonaaPx19
import Derived.Test.YtpmopomiadaonaaFixedSpec
import Derived.Test.YtpmopomiadaonaaFixedAwake
namespace Go.Proofs.Ytpmopomiadaonaa.Pure
open Go.RowKit Go.Proofs.Ytpmopomiadaonaa.P Go.Proofs.YtpmopomiadaonaaW.PrintWords Go.Proofs.YtpmopomiadaonaaW.PrintLast Go.Proofs.Ytpmopomiadaonaa.Math
set_option linter.unusedVariables false

theorem ref_round_eq (a : Int) (k : Nat) (hk : 60 ≤ k) : papermillref23_Round.f k a = some (roundF a) := by
  unfold papermillref23_Round.f roundF
  rw [fIn_eq, ref_MulDiv_eq a 1 65536 2 k hk]
  simp only [Option.bind_some]
  split <;> rfl

theorem clamp_eq (a lo hi : Int) (k : Nat) (hk : 5 ≤ k) : fixed_Clamp.f k a lo hi = some (if (inF a && (inF lo && inF hi)) = true then (if lo > hi then (0, 9) else (mx lo (mn a hi), 0)) else (0, 1)) := by
  unfold fixed_Clamp.f
  rw [fixed_in_eq ([a, lo, hi] : List Int) (by simp) k (by simp; omega)]
  simp only [Option.bind_some, List.all_cons, List.all_nil, Bool.and_true]
  split
  · split <;> rfl
  · rfl

theorem ref_clamp_eq (a lo hi : Int) (k : Nat) (hk : 5 ≤ k) : papermillref23_Clamp.f k a lo hi = some (if (inF a && (inF lo && inF hi)) = true then (if lo > hi then (0, 9) else (mx lo (mn a hi), 0)) else (0, 1)) := by
  obtain ⟨k, rfl⟩ : ∃ m, k = m + 1 := ⟨k - 1, by omega⟩
  unfold papermillref23_Clamp.f
  rw [fIn_eq, fIn_eq, fIn_eq]
  simp only [Option.bind_some, papermillref23_Clamp.j0]
  cases inF a <;> cases inF lo <;> cases inF hi <;> simp <;> split <;> rfl

theorem FixedRounds : papermilllaw23_FixedRounds.Pure := by
  intro a lo hi _ _ _
  refine ⟨200, ?_⟩
  unfold papermilllaw23_FixedRounds.f
  rw [round_eq _ _ (by omega), ref_round_eq _ _ (by omega), clamp_eq _ _ _ _ (by omega), ref_clamp_eq _ _ _ _ (by omega), fixed_awake 200 (by omega)]
  simp

end Go.Proofs.Ytpmopomiadaonaa.Pure
