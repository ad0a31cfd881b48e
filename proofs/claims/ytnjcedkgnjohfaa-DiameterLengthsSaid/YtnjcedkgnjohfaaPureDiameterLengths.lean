/- The statement DiameterLengths over numbers alone: Length, Turns and Longest and their references answer alike. -/
import Derived.Test.YtnjcedkgnjohfaaPx15
import Derived.Test.YtnjcedkgnjohfaaDiaSpec
import Derived.Test.YtnjcedkgnjohfaaPx3
namespace Go.Proofs.Ytnjcedkgnjohfaa.Pure
open Go.RowKit Go.Proofs.Ytnjcedkgnjohfaa.P Go.Proofs.YtnjcedkgnjohfaaW.PrintWords Go.Proofs.YtnjcedkgnjohfaaW.PrintLast Go.Proofs.Ytnjcedkgnjohfaa.Math
set_option linter.unusedVariables false

theorem turns_alike (core dia cal : Int) (k : Nat) (hk : 5 ≤ k) : ∃ r, diameter_Turns.f k core dia cal = some r ∧ papermillref37_Turns.f k core dia cal = some r := by
  unfold diameter_Turns.f papermillref37_Turns.f
  rw [check_eq core dia cal k (by omega), refLimits_eq core dia cal k (by omega)]
  simp only [Option.bind_some]
  by_cases h : chkSpec core dia cal = 0
  · rw [if_pos h]
    have : ¬ cal = 0 := by
      intro hc
      unfold chkSpec at h
      rw [if_pos (by omega)] at h
      omega
    rw [if_neg this]
    exact ⟨_, rfl, rfl⟩
  · rw [if_neg h]
    exact ⟨_, rfl, rfl⟩

theorem DiameterLengths : papermilllaw37_DiameterLengths.Pure := by
  intro a0 a1 a2 _ _ _
  refine ⟨103, ?_⟩
  obtain ⟨r, t1, t2⟩ := turns_alike a0 a1 a2 103 (by omega)
  unfold papermilllaw37_DiameterLengths.f diameter_Longest.f papermillref37_Longest.f
  rw [length_eq _ _ _ 103 (by omega), refLength_eq _ _ _ 103 (by omega), t1, t2, dia_awake 103 (by omega)]
  simp

end Go.Proofs.Ytnjcedkgnjohfaa.Pure
