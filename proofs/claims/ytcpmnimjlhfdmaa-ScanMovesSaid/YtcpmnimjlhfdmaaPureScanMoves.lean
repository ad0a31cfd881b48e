/- The statement ScanMoves over numbers alone. -/
import Derived.Test.YtcpmnimjlhfdmaaPx17
import Derived.Test.YtcpmnimjlhfdmaaScanRef
import Derived.Test.YtcpmnimjlhfdmaaScanAwake
namespace Go.Proofs.Ytcpmnimjlhfdmaa.Pure
open Go.RowKit Go.Proofs.Ytcpmnimjlhfdmaa.P Go.Proofs.YtcpmnimjlhfdmaaW.PrintWords Go.Proofs.YtcpmnimjlhfdmaaW.PrintLast Go.Proofs.Ytcpmnimjlhfdmaa.First
set_option linter.unusedVariables false

/-- Going there and back, the sensor is moved by no more than the distance run. -/
theorem tri_step (P X s : Int) (hP : 0 < P) (hs : 0 ≤ s) : min ((X + s) % P) (P - (X + s) % P) - min (X % P) (P - X % P) ≤ s ∧ min (X % P) (P - X % P) - min ((X + s) % P) (P - (X + s) % P) ≤ s := by
  have dX := Int.mul_ediv_add_emod X P
  have dY := Int.mul_ediv_add_emod (X + s) P
  have a0 := Int.emod_nonneg X (show P ≠ 0 by omega)
  have a1 := Int.emod_lt_of_pos X hP
  have b0 := Int.emod_nonneg (X + s) (show P ≠ 0 by omega)
  have b1 := Int.emod_lt_of_pos (X + s) hP
  have hq : X / P ≤ (X + s) / P := Int.ediv_le_ediv hP (by omega)
  generalize X / P = q at *
  generalize (X + s) / P = r at *
  generalize X % P = a at *
  generalize (X + s) % P = b at *
  by_cases h : q = r
  · subst h; omega
  · have h2 : P * (q + 1) ≤ P * r := Int.mul_le_mul_of_nonneg_left (by omega) (by omega)
    rw [Int.mul_add, Int.mul_one] at h2
    omega

theorem place_moves (wd sp t : Int) (hw : 2 ≤ wd) (hs : 0 ≤ sp) : placeZ wd sp t - placeZ wd sp (t - 1) ≤ sp ∧ placeZ wd sp (t - 1) - placeZ wd sp t ≤ sp := by
  have e : t * sp = (t - 1) * sp + sp := by rw [Int.sub_mul]; omega
  have h := tri_step (2 * (wd - 1)) ((t - 1) * sp) sp (by omega) hs
  rw [← e] at h
  exact h

theorem edge_first (wd bx : Int) (hb : 0 ≤ bx) : edgeAt wd bx 0 = 0 := by
  unfold edgeAt
  exact first_unique _ _ 0 (by omega) (fun t h => absurd h (Nat.not_lt_zero _)) (fun _ => decide_eq_true (by simp))

theorem edge_last (wd bx : Int) (hw : 0 ≤ wd) (hb : 1 ≤ bx) : ((edgeAt wd bx bx : Nat) : Int) = wd := by
  unfold edgeAt
  rw [first_unique _ _ wd.toNat (Nat.le_refl _) (fun t h => decide_eq_false ?_) (fun h => absurd h (Nat.lt_irrefl _))]
  · omega
  · intro hh
    have h3 : bx * ((t : Int) + 1) ≤ bx * wd := Int.mul_le_mul_of_nonneg_left (by omega) (by omega)
    rw [Int.mul_add, Int.mul_one, Int.mul_comm bx (t : Int)] at h3
    omega

theorem edge_le (wd bx k x : Int) (hw : 0 ≤ wd) (h0 : 0 ≤ x) (hx : x < wd) (h : k * wd ≤ x * bx) : ((edgeAt wd bx k : Nat) : Int) ≤ x := by
  obtain ⟨n, rfl⟩ := Int.eq_ofNat_of_zero_le h0
  unfold edgeAt
  obtain ⟨g1, g2, g3⟩ := first_spec (fun y => decide (k * wd ≤ (y : Int) * bx)) wd.toNat
  by_cases c : n < first (fun y => decide (k * wd ≤ (y : Int) * bx)) wd.toNat
  · exact absurd h (of_decide_eq_false (g2 n c))
  · omega

theorem edge_gt (wd bx k x : Int) (hw : 0 ≤ wd) (hb : 0 ≤ bx) (h0 : 0 ≤ x) (hx : x < wd) (h : x * bx < k * wd) : x < ((edgeAt wd bx k : Nat) : Int) := by
  unfold edgeAt
  obtain ⟨g1, g2, g3⟩ := first_spec (fun y => decide (k * wd ≤ (y : Int) * bx)) wd.toNat
  generalize first (fun y => decide (k * wd ≤ (y : Int) * bx)) wd.toNat = e at *
  by_cases c : e < wd.toNat
  · have h1 := of_decide_eq_true (g3 c)
    by_cases d : x < (e : Int)
    · exact d
    · exfalso
      have h3 : (e : Int) * bx ≤ x * bx := Int.mul_le_mul_of_nonneg_right (by omega) hb
      omega
  · omega

theorem moves_j0 (wd bx sp t : Int) (h : okS wd bx sp) (ht : okT t) (k : Nat) (hk : 40 ≤ k) : papermilllaw35_ScanMoves.j0 (k + 1) t (placeZ wd sp t) false wd bx sp = some true := by
  have hs := h
  unfold okS at hs
  have ht' := ht
  unfold okT at ht'
  unfold papermilllaw35_ScanMoves.j0; dsimp only
  rw [if_neg (by decide)]
  by_cases c : t = 0
  · subst c
    have e : placeZ wd sp 0 = 0 := by unfold placeZ; rw [Int.zero_mul, Int.zero_emod]; omega
    rw [if_pos rfl, if_pos e, awake_ge hk]; rfl
  · have p1 := place_bounds wd sp t (by omega)
    have p2 := place_bounds wd sp (t - 1) (by omega)
    have pm := place_moves wd sp t (by omega) (by omega)
    rw [if_neg c, swrap (x := t - 1) (by omega) (by omega), sPlace_eq, if_pos ⟨h, by unfold okT; omega⟩]
    simp only [Option.bind_some, if_true]
    rw [swrap (by omega) (by omega), if_pos pm.1, swrap (by omega) (by omega), if_pos pm.2, awake_ge hk]; rfl

theorem ScanMoves (a0_0 a0_1 a0_2 a1 : Int) (w0 : (Lit.int .i64 a0_0).wf = true) (w1 : (Lit.int .i64 a0_1).wf = true) (w2 : (Lit.int .i64 a0_2).wf = true) (w3 : (Lit.int .i64 a1).wf = true) :
    ∃ k, papermilllaw35_ScanMoves.f k a0_0 a0_1 a0_2 a1 = some true := by
  refine ⟨40 + 1, ?_⟩
  unfold papermilllaw35_ScanMoves.f
  rw [sPlace_eq, sBox_eq]
  unfold scan_Edges.f
  simp only [Option.bind_some]
  by_cases g : okS a0_0 a0_1 a0_2 ∧ okT a1
  · obtain ⟨h, ht⟩ := g
    have hs := h
    unfold okS at hs
    have e0 : okS a0_0 a0_1 a0_2 ∧ okT a1 := ⟨h, ht⟩
    have hb := box_bounds a0_0 a0_1 a0_2 a1 h
    have hp := place_bounds a0_0 a0_2 a1 (by omega)
    have hlen := edgesSpec_len a0_0 a0_1
    simp only [if_pos e0, if_pos h, if_true]
    have r1 := edgesSpec_rd a0_0 a0_1 (boxZ a0_0 a0_1 a0_2 a1) (by omega) (by omega) (by omega)
    have r2 := edgesSpec_rd a0_0 a0_1 (boxZ a0_0 a0_1 a0_2 a1 + 1) (by omega) (by omega) (by omega)
    have r3 := edgesSpec_rd a0_0 a0_1 0 (by omega) (by omega) (by omega)
    have r4 := edgesSpec_rd a0_0 a0_1 a0_1 (by omega) (by omega) (by omega)
    have l1 := edge_le a0_0 a0_1 (boxZ a0_0 a0_1 a0_2 a1) (placeZ a0_0 a0_2 a1) (by omega) hp.1 (by omega) hb.2.2.1
    have l2 := edge_gt a0_0 a0_1 (boxZ a0_0 a0_1 a0_2 a1 + 1) (placeZ a0_0 a0_2 a1) (by omega) (by omega) hp.1 (by omega) hb.2.2.2
    have l3 := edge_first a0_0 a0_1 (by omega)
    have l4 := edge_last a0_0 a0_1 (by omega) (by omega)
    have hL : ((edgesSpec a0_0 a0_1).length : Int) = a0_1 + 1 := by rw [hlen]; omega
    rw [hL, swrap (x := a0_1 + 1) (by omega) (by omega), if_pos rfl, if_neg (by omega), swrap (x := boxZ a0_0 a0_1 a0_2 a1 + 1) (by omega) (by omega), if_neg (by omega), if_pos (by omega), if_pos (by omega), r1, if_neg (by omega), if_pos (by omega), if_pos (by omega), r2, if_neg (by omega), if_pos (by omega), r3, l3, if_pos (by rfl), swrap (x := a0_1 + 1 - 1) (by omega) (by omega), if_pos (by omega), if_pos (by omega), show a0_1 + 1 - 1 = a0_1 by omega, r4, l4]
    have e : (a0_0 != a0_0) = false := by simp
    rw [e]
    exact moves_j0 a0_0 a0_1 a0_2 a1 h ht 40 (Nat.le_refl _)
  · rw [if_neg g, if_neg g, if_neg (show ¬ ((1 : Int) = 0) by decide)]
    simp only [if_true]
    rw [awake_ge (by omega)]; rfl
end Go.Proofs.Ytcpmnimjlhfdmaa.Pure
