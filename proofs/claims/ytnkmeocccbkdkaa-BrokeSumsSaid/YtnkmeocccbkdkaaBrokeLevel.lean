/- What broke.Level answers; the small case of the chapter holds. -/
import Derived.Test.YtnkmeocccbkdkaaBrokeSpec
import Derived.Test.YtnkmeocccbkdkaaPx34
import Derived.Test.YtnkmeocccbkdkaaPx46
namespace Go.Proofs.Ytnkmeocccbkdkaa.P
open Go.RowKit Go.Proofs.YtnkmeocccbkdkaaW.PrintWords Go.Proofs.YtnkmeocccbkdkaaW.PrintLast Go.Proofs.YtnkmeocccbkdkaaW.PrintMore
set_option linter.unusedVariables false

theorem broke_awake_at : papermilllaw22_awake.f 100 = some true := by decide +kernel
theorem broke_awake (k : Nat) (hk : 100 ≤ k) : papermilllaw22_awake.f k = some true := at_rounds papermilllaw22_awake.mono hk broke_awake_at

/-- The level at a moment. -/
def levF (t : Int) : Int → List S63 → Int
  | acc, [] => acc
  | acc, x :: l => levF t (if x.f0 ≤ t then acc + sgn x else acc) l

theorem sgn_bound (x : S63) (h : chk1 x = 0) : -1099511627776 ≤ sgn x ∧ sgn x ≤ 1099511627776 := by
  have := (chk1_zero x).1 h
  unfold sgn
  split <;> omega

theorem level_l0 (l : List S63) (t : Int) (hv : ∀ x ∈ l, chk1 x = 0) (hl : l.length ≤ 512) (d : Nat) : ∀ (k i : Nat) (acc : Int), l.length - i = d → i ≤ l.length → d + 5 ≤ k → -((i : Int) * 1099511627776) ≤ acc → acc ≤ (i : Int) * 1099511627776 →
    broke_Level.l0 k l t acc (l.length : Int) i = some (levF t acc (l.drop i), 0) := by
  induction d with
  | zero =>
    intro k i acc hd hi hk h0 h1
    obtain ⟨k, rfl⟩ : ∃ m, k = m + 1 := ⟨k - 1, by omega⟩
    simp only [broke_Level.l0]
    rw [if_neg (by omega), List.drop_of_length_le (by omega)]; rfl
  | succ d ih =>
    intro k i acc hd hi hk h0 h1
    obtain ⟨k, rfl⟩ : ∃ m, k = m + 1 := ⟨k - 1, by omega⟩
    have hlt : i < l.length := by omega
    have hx := hv _ (List.getElem_mem hlt)
    have hs := sgn_bound _ hx
    simp only [broke_Level.l0]
    rw [if_pos (by omega), if_pos (by omega), if_pos (by omega), rdT_get l i hlt, signed_eq _ hx k (by omega), List.drop_eq_getElem_cons hlt, w64 (x := (i : Int) + 1) (by omega) (by omega)]
    simp only [Option.bind_some, levF]
    by_cases c : l[i].f0 ≤ t
    · rw [if_pos c, if_pos c, w64 (by omega) (by omega)]
      have := ih k (i + 1) (acc + sgn l[i]) (by omega) (by omega) (by omega) (by omega) (by omega)
      rwa [show ((i + 1 : Nat) : Int) = (i : Int) + 1 from by omega] at this
    · rw [if_neg c, if_neg c]
      have := ih k (i + 1) acc (by omega) (by omega) (by omega) (by omega) (by omega)
      rwa [show ((i + 1 : Nat) : Int) = (i : Int) + 1 from by omega] at this

theorem level_eq (l : List S63) (cap t : Int) (k : Nat) (hk : 2200 ≤ k) : broke_Level.f k l cap t = some (if chk l cap = 0 then (levF t 0 l, 0) else (0, chk l cap)) := by
  unfold broke_Level.f
  rw [check_eq l cap k hk]
  simp only [Option.bind_some]
  by_cases h : chk l cap = 0
  · rw [if_pos h, if_pos h]
    obtain ⟨_, _, hl, hv, _⟩ := chk_zero l cap h
    have := level_l0 l t hv hl l.length k 0 0 (by omega) (by omega) (by omega) (by omega) (by omega)
    simpa using this
  · rw [if_neg h, if_neg h]
end Go.Proofs.Ytnkmeocccbkdkaa.P
