/- The statement BrokeLevels over numbers alone: Level and its reference answer alike, for any movements. -/
import Derived.Test.YthbpjiembjapdaaPx11
import Derived.Test.YthbpjiembjapdaaBrokeRef
import Derived.Test.YthbpjiembjapdaaBrokeLevel
namespace Go.Proofs.Ythbpjiembjapdaa.Pure
open Go.RowKit Go.Proofs.Ythbpjiembjapdaa.P Go.Proofs.YthbpjiembjapdaaW.PrintWords Go.Proofs.YthbpjiembjapdaaW.PrintLast
set_option linter.unusedVariables false

theorem ref_level_l0 (l : List S32) (t : Int) (hv : ∀ x ∈ l, chk1 x = 0) (hl : l.length ≤ 512) (d : Nat) : ∀ (k i : Nat) (acc : Int), l.length - i = d → i ≤ l.length → d + 5 ≤ k → -((i : Int) * 1099511627776) ≤ acc → acc ≤ (i : Int) * 1099511627776 →
    papermillref22_Level.l0 k l t acc i = some (levF t acc (l.drop i), 0) := by
  induction d with
  | zero =>
    intro k i acc hd hi hk h0 h1
    obtain ⟨k, rfl⟩ : ∃ m, k = m + 1 := ⟨k - 1, by omega⟩
    simp only [papermillref22_Level.l0]
    rw [if_neg (by omega), List.drop_of_length_le (by omega)]; rfl
  | succ d ih =>
    intro k i acc hd hi hk h0 h1
    obtain ⟨k, rfl⟩ : ∃ m, k = m + 1 := ⟨k - 1, by omega⟩
    have hlt : i < l.length := by omega
    have hx := hv _ (List.getElem_mem hlt)
    have hs := sgn_bound _ hx
    simp only [papermillref22_Level.l0]
    rw [if_pos (by omega), if_pos (by omega), rdT_get l i hlt, change_eq _ hx, List.drop_eq_getElem_cons hlt, w64 (x := (i : Int) + 1) (by omega) (by omega)]
    simp only [Option.bind_some, levF]
    by_cases c : l[i].f0 ≤ t
    · rw [if_pos c, if_pos c, w64 (by omega) (by omega)]
      have := ih k (i + 1) (acc + sgn l[i]) (by omega) (by omega) (by omega) (by omega) (by omega)
      rwa [show ((i + 1 : Nat) : Int) = (i : Int) + 1 from by omega] at this
    · rw [if_neg c, if_neg c]
      have := ih k (i + 1) acc (by omega) (by omega) (by omega) (by omega) (by omega)
      rwa [show ((i + 1 : Nat) : Int) = (i : Int) + 1 from by omega] at this

theorem ref_level_eq (l : List S32) (cap t : Int) (k : Nat) (hk : 3600 ≤ k) : papermillref22_Level.f k l cap t = some (if chk l cap = 0 then (levF t 0 l, 0) else (0, chk l cap)) := by
  unfold papermillref22_Level.f
  rw [ref_check_eq l cap k hk]
  simp only [Option.bind_some]
  by_cases h : chk l cap = 0
  · rw [if_pos h, if_pos h]
    obtain ⟨_, _, hl, hv, _⟩ := chk_zero l cap h
    have := ref_level_l0 l t hv hl l.length k 0 0 (by omega) (by omega) (by omega) (by omega) (by omega)
    simpa using this
  · rw [if_neg h, if_neg h]

theorem BrokeLevels (l0 : List S32) (a1 a2 : Int) (m0 : l0.length ≤ maxLen) (wl0 : ∀ x ∈ l0, (Lit.int .i64 x.f0).wf = true ∧ (Lit.int .i64 x.f1).wf = true ∧ (Lit.int .i64 x.f2).wf = true ∧ (Lit.int .i64 x.f3).wf = true) (w1 : (Lit.int .i64 a1).wf = true) (w2 : (Lit.int .i64 a2).wf = true) :
    ∃ k, papermilllaw22_BrokeLevels.f k l0 a1 a2 = some true := by
  refine ⟨4000, ?_⟩
  unfold papermilllaw22_BrokeLevels.f
  rw [level_eq _ _ _ _ (by omega), ref_level_eq _ _ _ _ (by omega), broke_awake _ (by omega)]
  simp
end Go.Proofs.Ythbpjiembjapdaa.Pure
