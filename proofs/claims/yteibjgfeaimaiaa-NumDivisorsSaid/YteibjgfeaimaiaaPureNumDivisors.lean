/- The statement NumDivisors over numbers alone. -/
import Derived.Test.YteibjgfeaimaiaaPx14
import Derived.Test.YteibjgfeaimaiaaNumSpec
import Derived.Test.YteibjgfeaimaiaaRefMd
namespace Go.Proofs.Yteibjgfeaimaiaa.Pure
open Go.RowKit Go.Proofs.Yteibjgfeaimaiaa.P Go.Proofs.YteibjgfeaimaiaaW.PrintWords Go.Proofs.YteibjgfeaimaiaaW.PrintLast Go.Proofs.Yteibjgfeaimaiaa.Math
set_option linter.unusedVariables false

theorem tmod_zero_iff (a d : Int) : a.tmod d = 0 ↔ d ∣ a := Int.dvd_iff_tmod_eq_zero.symm

theorem div_j1 (a : Int) (k : Nat) (hk : 200 ≤ k) : papermilllaw01_NumDivisors.j1 (k + 1) a = some true := by
  simp only [papermilllaw01_NumDivisors.j1]
  rw [awake_true k (by omega)]
  by_cases h : a < 0 ∨ 1125899906842624 < a
  · rw [num_Sqrt_bad a k (by omega) h]
    simp only [Option.bind_some]
    rw [if_neg (by omega), if_pos trivial]
    by_cases c : a < 0
    · rw [if_pos c]
    · rw [if_neg c, if_pos (by omega)]
  · obtain ⟨n, rfl⟩ := Int.eq_ofNat_of_zero_le (show 0 ≤ a by omega)
    obtain ⟨r, e1, ⟨_, h1, h2, h3⟩⟩ := num_Sqrt_ok n k (by omega) (by omega)
    rw [e1]
    simp only [Option.bind_some, if_true]
    have hr : r ≤ 33554432 := by
      rcases Nat.lt_or_ge 33554432 r with c | c
      · have := Nat.mul_le_mul (show 33554433 ≤ r from c) (show 33554433 ≤ r from c); omega
      · exact c
    have s1 := sq_le (x := r) (by omega)
    have s2 := sq_le (x := r + 1) (by omega)
    rw [if_pos (by omega), if_pos (by omega), wrap64_id (x := (r : Int) + 1) (by omega) (by omega), ← Int.natCast_mul, show (r : Int) + 1 = ((r + 1 : Nat) : Int) from by omega, ← Int.natCast_mul, wrap64_id (by omega) (by omega), wrap64_id (by omega) (by omega), if_pos (by omega), if_pos (by omega)]

theorem NumDivisors : papermilllaw01_NumDivisors.Pure := by
  intro a b d _ _ _
  refine ⟨b.natAbs + 302, ?_⟩
  unfold papermilllaw01_NumDivisors.f
  rw [num_Gcd_eq a b _ (by omega)]
  simp only [Option.bind_some]
  unfold gcdSpec
  have t1 : ∀ k, 300 ≤ k → papermilllaw01_NumDivisors.j1 k a = some true := fun k hk => by
    obtain ⟨k, rfl⟩ : ∃ m, k = m + 1 := ⟨k - 1, by omega⟩
    exact div_j1 a k (by omega)
  by_cases h : inR a = true ∧ inR b = true
  · rw [if_pos h]
    simp only [if_true]
    have t0 : papermilllaw01_NumDivisors.j0 (b.natAbs + 302) a b d ((Int.gcd a b : Nat) : Int) false = some true := by
      simp only [papermilllaw01_NumDivisors.j0]
      rw [if_neg (by simp), t1 _ (by omega)]
      by_cases c0 : d = 0
      · rw [if_pos c0]
      · rw [if_neg c0]
        by_cases c1 : a.tmod d = 0
        · rw [if_pos c1]
          by_cases c2 : b.tmod d = 0
          · rw [if_pos c2, if_pos ((tmod_zero_iff _ _).2 (Int.dvd_coe_gcd ((tmod_zero_iff _ _).1 c1) ((tmod_zero_iff _ _).1 c2)))]
          · rw [if_neg c2]
        · rw [if_neg c1]
    have d1 : a.tmod ((Int.gcd a b : Nat) : Int) = 0 := (tmod_zero_iff _ _).2 (Int.gcd_dvd_left ..)
    have d2 : b.tmod ((Int.gcd a b : Nat) : Int) = 0 := (tmod_zero_iff _ _).2 (Int.gcd_dvd_right ..)
    rw [if_neg (by omega), d1, d2]
    by_cases c : ((Int.gcd a b : Nat) : Int) = 0
    · have hz := Int.gcd_eq_zero_iff.1 (show Int.gcd a b = 0 by omega)
      rw [if_pos c, if_pos hz.1, if_pos hz.2, if_neg (by omega)]
      exact t0
    · rw [if_neg c, if_pos (by omega), if_pos rfl]
      exact t0
  · rw [if_neg h, if_neg (by simp)]
    exact t1 _ (by omega)

end Go.Proofs.Yteibjgfeaimaiaa.Pure
