/- The statement ScanJoins over numbers alone. -/
import Derived.Test.YtcpmnimjlhfdmaaPx16
import Derived.Test.YtcpmnimjlhfdmaaScanProf
import Derived.Test.YtcpmnimjlhfdmaaScanAwake
namespace Go.Proofs.Ytcpmnimjlhfdmaa.Pure
open Go.RowKit Go.Proofs.Ytcpmnimjlhfdmaa.P Go.Proofs.YtcpmnimjlhfdmaaW.PrintWords Go.Proofs.YtcpmnimjlhfdmaaW.PrintLast
set_option linter.unusedVariables false

theorem joins_loop (x7 x9 x11 : List S47) (n : Nat) (hn : n ≤ 64) (h7 : x7.length = n) (h9 : x9.length = n) (h11 : x11.length = n)
    (hg : ∀ i : Nat, i < n → (rd_T47 x11 (i : Int)).f0 = wrap64 ((rd_T47 x7 (i : Int)).f0 + (rd_T47 x9 (i : Int)).f0) ∧ (rd_T47 x11 (i : Int)).f1 = wrap64 ((rd_T47 x7 (i : Int)).f1 + (rd_T47 x9 (i : Int)).f1)) :
    ∀ (k i : Nat), n - i + 41 ≤ k → papermilllaw35_ScanJoins.l0 k x7 x9 x11 i = some true := by
  intro k
  induction k with
  | zero => intro i h; omega
  | succ k ih =>
    intro i h
    unfold papermilllaw35_ScanJoins.l0
    by_cases c : (i : Int) < x11.length
    · obtain ⟨e0, e1⟩ := hg i (by omega)
      rw [if_pos c, if_pos (by omega), if_pos (by omega), if_pos (by omega), if_pos e0, if_pos e1, swrap (by omega) (by omega)]
      exact ih (i + 1) (by omega)
    · rw [if_neg c, awake_ge (by omega)]; rfl

theorem joins_key (a0_0 a0_1 a0_2 : Int) (l1 l2 : List S49) (k : Nat) (hk : 300 ≤ k) : papermilllaw35_ScanJoins.f (k + 1 + 1 + 1) a0_0 a0_1 a0_2 l1 l2 = some true := by
  have hj : ∀ x21 : Bool, (x21 = true ∨ (l1.length ≤ 250 ∧ l2.length ≤ 250)) → papermilllaw35_ScanJoins.j0 (k + 1 + 1 + 1) l1 l2 x21 a0_0 a0_1 a0_2 = some true := by
    intro x21 hx
    unfold papermilllaw35_ScanJoins.j0; dsimp only
    by_cases c : x21 = true
    · rw [if_pos c, awake_ge (by omega)]; rfl
    · rw [if_neg c]
      have hl : l1.length ≤ 250 ∧ l2.length ≤ 250 := hx.elim (fun h => absurd h c) id
      unfold scan_Profile.f
      simp only [Option.bind_some, List.nil_append]
      rw [if_pos (by simp; omega), if_pos (by omega)]
      have h1 := prof_cases a0_0 a0_1 a0_2 l1
      have h2 := prof_cases a0_0 a0_1 a0_2 l2
      have h12 := prof_cases a0_0 a0_1 a0_2 (l1 ++ l2)
      have hlen : (l1 ++ l2).length = l1.length + l2.length := List.length_append
      rcases h1 with h1 | h1
      · rw [if_neg h1.2.2]
        unfold papermilllaw35_ScanJoins.j1; dsimp only
        rw [if_pos rfl]
        rcases h12 with h12 | h12
        · rw [if_neg h12.2.2, awake_ge (by omega)]; rfl
        · exfalso
          rcases h1.1 with g | g | g
          · exact g h12.1
          · omega
          · exact g (fun m hm => h12.2.2.1 m (List.mem_append_left _ hm))
      · rw [if_pos h1.2.2.2.1]
        unfold papermilllaw35_ScanJoins.j1; dsimp only
        rcases h2 with h2 | h2
        · rw [if_pos (by simpa using h2.2.2)]
          rcases h12 with h12 | h12
          · rw [if_neg h12.2.2, awake_ge (by omega)]; rfl
          · exfalso
            rcases h2.1 with g | g | g
            · exact g h12.1
            · omega
            · exact g (fun m hm => h12.2.2.1 m (List.mem_append_right _ hm))
        · rw [h2.2.2.2.1, if_neg (by decide)]
          rcases h12 with h12 | h12
          · exfalso
            rcases h12.1 with g | g | g
            · exact g h1.1
            · omega
            · exact g (fun m hm => (List.mem_append.1 hm).elim (h1.2.2.1 m) (h2.2.2.1 m))
          · rw [if_pos h12.2.2.2.1, if_pos (by rw [h1.2.2.2.2.1, h12.2.2.2.2.1]), h2.2.2.2.2.1, h12.2.2.2.2.1]
            unfold papermilllaw35_ScanJoins.j2; dsimp only
            rw [if_neg (by simp)]
            have hs := h1.1
            unfold okS at hs
            refine joins_loop _ _ _ a0_1.toNat (by omega) h1.2.2.2.2.1 h2.2.2.2.2.1 h12.2.2.2.2.1 (fun i hi => ?_) k 0 (by omega)
            rw [h1.2.2.2.2.2 i hi, h2.2.2.2.2.2 i hi, h12.2.2.2.2.2 i hi]
            dsimp only
            have b1 := cnt_bounds a0_0 a0_1 a0_2 i l1
            have b2 := cnt_bounds a0_0 a0_1 a0_2 i l2
            have b3 := sm_bounds a0_0 a0_1 a0_2 i l1 h1.2.2.1
            have b4 := sm_bounds a0_0 a0_1 a0_2 i l2 h2.2.2.1
            rw [cnt_append, sm_append]
            exact ⟨(swrap (by omega) (by omega)).symm, (swrap (by omega) (by omega)).symm⟩
  unfold papermilllaw35_ScanJoins.f
  by_cases c : (l1.length : Int) > 250
  · rw [if_pos c]; exact hj true (.inl rfl)
  · rw [if_neg c]
    by_cases d : (l2.length : Int) > 250
    · exact hj _ (.inl (decide_eq_true d))
    · exact hj _ (.inr ⟨by omega, by omega⟩)

theorem ScanJoins (a0_0 a0_1 a0_2 : Int) (l1 l2 : List S49) (w0 : (Lit.int .i64 a0_0).wf = true) (w1 : (Lit.int .i64 a0_1).wf = true) (w2 : (Lit.int .i64 a0_2).wf = true) (m1 : l1.length ≤ maxLen) (wl1 : ∀ x ∈ l1, (Lit.int .i64 x.f0).wf = true ∧ (Lit.int .i64 x.f1).wf = true) (m2 : l2.length ≤ maxLen) (wl2 : ∀ x ∈ l2, (Lit.int .i64 x.f0).wf = true ∧ (Lit.int .i64 x.f1).wf = true) :
    ∃ k, papermilllaw35_ScanJoins.f k a0_0 a0_1 a0_2 l1 l2 = some true := ⟨_, joins_key a0_0 a0_1 a0_2 l1 l2 300 (Nat.le_refl _)⟩
end Go.Proofs.Ytcpmnimjlhfdmaa.Pure
