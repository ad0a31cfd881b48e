/- What fixed.in and its reference answer. -/
import Derived.Test.YtpmopomiadaonaaPx1
import Derived.Test.YtpmopomiadaonaaPx4
import Derived.Test.YtpmopomiadaonaaNumIn
namespace Go.Proofs.Ytpmopomiadaonaa.P
open Go.RowKit Go.Proofs.YtpmopomiadaonaaW.PrintWords Go.Proofs.YtpmopomiadaonaaW.PrintLast Go.Proofs.Ytpmopomiadaonaa.Math
set_option linter.unusedVariables false

/-- In range. -/
def inF (x : Int) : Bool := decide (-1099511627776 ≤ x ∧ x ≤ 1099511627776)

theorem inF_iff (x : Int) : inF x = true ↔ -1099511627776 ≤ x ∧ x ≤ 1099511627776 := by unfold inF; simp

theorem fixed_in_l0 (l : List Int) (hl : l.length < 9223372036854775807) (d : Nat) : ∀ (k : Nat) (i : Nat), l.length - i = d → i ≤ l.length → d < k →
    fixed_in.l0 k l (l.length : Int) i = some ((l.drop i).all inF) := by
  induction d with
  | zero =>
    intro k i hd hi hk
    obtain ⟨k, rfl⟩ : ∃ m, k = m + 1 := ⟨k - 1, by omega⟩
    simp only [fixed_in.l0]
    rw [if_neg (by omega), List.drop_of_length_le (by omega)]; rfl
  | succ d ih =>
    intro k i hd hi hk
    obtain ⟨k, rfl⟩ : ∃ m, k = m + 1 := ⟨k - 1, by omega⟩
    simp only [fixed_in.l0]
    have hlt : i < l.length := by omega
    rw [if_pos (by omega), if_pos (by omega), if_pos (by omega)]
    have e : rd l (i : Int) = l[i] := by simp [rd, hlt]
    rw [e, List.drop_eq_getElem_cons hlt, List.all_cons]
    have hr : inF l[i] = decide (-1099511627776 ≤ l[i] ∧ l[i] ≤ 1099511627776) := rfl
    by_cases h1 : l[i] < -1099511627776
    · rw [if_pos h1, hr, decide_eq_false (by omega)]; rfl
    · rw [if_neg h1]
      by_cases h2 : l[i] > 1099511627776
      · rw [if_pos h2, hr, decide_eq_false (by omega)]; rfl
      · rw [if_neg h2, hr, decide_eq_true (by omega), wrap64_id (by omega) (by omega)]
        have := ih k (i + 1) (by omega) (by omega) (by omega)
        rw [show ((i + 1 : Nat) : Int) = (i : Int) + 1 from by omega] at this
        rw [this]; rfl

theorem fixed_in_eq (l : List Int) (hl : l.length < 9223372036854775807) (k : Nat) (hk : l.length < k) : fixed_in.f k l = some (l.all inF) := by
  unfold fixed_in.f
  have := fixed_in_l0 l hl l.length k 0 (by omega) (by omega) hk
  simpa using this

theorem fIn_eq (x : Int) : papermillref23_In.f x = some (inF x) := by
  unfold papermillref23_In.f inF
  by_cases h : x ≥ -1099511627776
  · rw [if_pos h]; congr 1; rw [Bool.eq_iff_iff]; simp; omega
  · rw [if_neg h, decide_eq_false (by omega)]
end Go.Proofs.Ytpmopomiadaonaa.P
