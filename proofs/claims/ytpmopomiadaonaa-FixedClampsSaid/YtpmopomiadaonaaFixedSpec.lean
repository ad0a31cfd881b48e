/- What fixed's functions and their references answer. -/
import Derived.Test.YtpmopomiadaonaaFixedIn
import Derived.Test.YtpmopomiadaonaaRefMd
import Derived.Test.YtpmopomiadaonaaPx4
import Derived.Test.YtpmopomiadaonaaPx4
import Derived.Test.YtpmopomiadaonaaPx8
import Derived.Test.YtpmopomiadaonaaPx8
import Derived.Test.YtpmopomiadaonaaPx7
import Derived.Test.YtpmopomiadaonaaPx7
namespace Go.Proofs.Ytpmopomiadaonaa.P
open Go.RowKit Go.Proofs.YtpmopomiadaonaaW.PrintWords Go.Proofs.YtpmopomiadaonaaW.PrintLast Go.Proofs.Ytpmopomiadaonaa.Math
set_option linter.unusedVariables false

/-- a * b / c, rounded, if it is in range. -/
def scl (a b c : Int) : Int × Int := if (md a b c 2).2 = 0 then (if inF (md a b c 2).1 = true then ((md a b c 2).1, 0) else (0, 2)) else (0, (md a b c 2).2)
def mulF (a b : Int) : Int × Int := if inF a = true ∧ inF b = true then scl a b 65536 else (0, 1)
def divF (a b : Int) : Int × Int := if inF a = true ∧ inF b = true then scl a 65536 b else (0, 1)
def roundF (a : Int) : Int × Int := if inF a = true then md a 1 65536 2 else (0, 1)

theorem scaled_eq (a b c : Int) (k : Nat) (hk : 5 ≤ k) : fixed_scaled.f k a b c = some (scl a b c) := by
  unfold fixed_scaled.f num_MulDiv.f scl
  simp only [Option.bind_some]
  by_cases h : (md a b c 2).2 = 0
  · rw [if_pos h, if_pos h, fixed_in_eq ([(md a b c 2).1] : List Int) (by simp) k (by simp; omega)]
    simp only [Option.bind_some, List.all_cons, List.all_nil, Bool.and_true]
    split <;> rfl
  · rw [if_neg h, if_neg h]

theorem rounded_eq (a b c : Int) (k : Nat) (hk : 60 ≤ k) : papermillref23_rounded.f k a b c = some (scl a b c) := by
  unfold papermillref23_rounded.f scl
  rw [ref_MulDiv_eq a b c 2 k hk]
  simp only [Option.bind_some]
  by_cases h : (md a b c 2).2 = 0
  · rw [if_pos h, if_pos h, fIn_eq]
    simp only [Option.bind_some]
    split <;> rfl
  · rw [if_neg h, if_neg h]

theorem two_in (a b : Int) (k : Nat) (hk : 5 ≤ k) : fixed_in.f k ([a, b] : List Int) = some (inF a && inF b) := by
  rw [fixed_in_eq ([a, b] : List Int) (by simp) k (by simp; omega)]; simp

theorem mul_eq (a b : Int) (k : Nat) (hk : 5 ≤ k) : fixed_Mul.f k a b = some (mulF a b) := by
  unfold fixed_Mul.f mulF
  rw [two_in a b k hk, scaled_eq a b 65536 k hk]
  simp only [Option.bind_some]
  cases inF a <;> cases inF b <;> simp

theorem ratio_eq (a b : Int) (k : Nat) (hk : 5 ≤ k) : fixed_Ratio.f k a b = some (divF a b) := by
  unfold fixed_Ratio.f divF
  rw [two_in a b k hk, scaled_eq a 65536 b k hk]
  simp only [Option.bind_some]
  cases inF a <;> cases inF b <;> simp

theorem ref_ratio_eq (a b : Int) (k : Nat) (hk : 60 ≤ k) : papermillref23_Ratio.f k a b = some (divF a b) := by
  unfold papermillref23_Ratio.f divF
  rw [fIn_eq, fIn_eq, rounded_eq a 65536 b k hk]
  simp only [Option.bind_some]
  cases inF a <;> cases inF b <;> simp

theorem round_eq (a : Int) (k : Nat) (hk : 5 ≤ k) : fixed_Round.f k a = some (roundF a) := by
  unfold fixed_Round.f roundF num_MulDiv.f
  rw [fixed_in_eq ([a] : List Int) (by simp) k (by simp; omega)]
  simp only [Option.bind_some, List.all_cons, List.all_nil, Bool.and_true]
  split <;> rfl

theorem of_eq (a : Int) : fixed_Of.f a = some (if a < -16777216 ∨ 16777216 < a then (0, 2) else (a * 65536, 0)) := by
  unfold fixed_Of.f
  by_cases h : a < -16777216
  · rw [if_pos h, if_pos (.inl h)]
  · rw [if_neg h]
    by_cases h2 : a > 16777216
    · rw [if_pos h2, if_pos (.inr h2)]
    · rw [if_neg h2, if_neg (by omega), wrap64_id (by omega) (by omega)]

theorem ref_of_eq (a : Int) : papermillref23_Of.f a = fixed_Of.f a := rfl
end Go.Proofs.Ytpmopomiadaonaa.P
