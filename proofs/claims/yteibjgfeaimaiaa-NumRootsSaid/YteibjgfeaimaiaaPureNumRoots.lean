/- The statement NumRoots over numbers alone: Gcd, Sqrt and their references answer alike. -/
import Derived.Test.YteibjgfeaimaiaaPx11
import Derived.Test.YteibjgfeaimaiaaNumSpec
import Derived.Test.YteibjgfeaimaiaaRefMd
namespace Go.Proofs.Yteibjgfeaimaiaa.Pure
open Go.RowKit Go.Proofs.Yteibjgfeaimaiaa.P Go.Proofs.YteibjgfeaimaiaaW.PrintWords Go.Proofs.YteibjgfeaimaiaaW.PrintLast Go.Proofs.Yteibjgfeaimaiaa.Math
set_option linter.unusedVariables false

theorem NumRoots : papermilllaw01_NumRoots.Pure := by
  intro a b _ _
  have hk : b.natAbs + 5 < b.natAbs + 300 := by omega
  refine ⟨b.natAbs + 300, ?_⟩
  unfold papermilllaw01_NumRoots.f
  rw [num_Gcd_eq a b _ hk, ref_Gcd_eq a b _ hk, awake_true _ (by omega)]
  by_cases h : a < 0 ∨ 1125899906842624 < a
  · rw [num_Sqrt_bad a _ (by omega) h, ref_Sqrt_bad a _ (by omega) h]
    simp
  · obtain ⟨n, rfl⟩ := Int.eq_ofNat_of_zero_le (show 0 ≤ a by omega)
    obtain ⟨r, e1, h1⟩ := num_Sqrt_ok n (b.natAbs + 300) (by omega) (by omega)
    obtain ⟨s, e2, h2⟩ := ref_Sqrt_ok n (b.natAbs + 300) (by omega) (by omega)
    rw [e1, e2, root_unique h1 h2]
    simp

end Go.Proofs.Yteibjgfeaimaiaa.Pure
