/- What the given references for the package scan answer. -/
import Derived.Test.YtcpmnimjlhfdmaaScanSpec0
import Derived.Test.YtcpmnimjlhfdmaaHandEdges
import Derived.Test.YtcpmnimjlhfdmaaPx2
import Derived.Test.YtcpmnimjlhfdmaaPx3
import Derived.Test.YtcpmnimjlhfdmaaPx3
import Derived.Test.YtcpmnimjlhfdmaaPx4
import Derived.Test.YtcpmnimjlhfdmaaPx10
import Derived.Test.YtcpmnimjlhfdmaaPx5
import Derived.Test.YtcpmnimjlhfdmaaPx2
import Derived.Test.YtcpmnimjlhfdmaaPx3
namespace Go.Proofs.Ytcpmnimjlhfdmaa.P
open Go.RowKit Go.Proofs.YtcpmnimjlhfdmaaW.PrintWords Go.Proofs.YtcpmnimjlhfdmaaW.PrintLast Go.Proofs.YtcpmnimjlhfdmaaW.PrintMore Go.Proofs.Ytcpmnimjlhfdmaa.First
set_option linter.unusedVariables false

theorem rcheck_eq (wd bx sp : Int) : papermillref35_Check.f wd bx sp = some (if okS wd bx sp then 0 else 1) := by
  unfold papermillref35_Check.f
  by_cases h : okS wd bx sp
  · rw [if_pos h]
    unfold okS at h
    rw [if_neg (by omega), if_neg (by omega), if_neg (by omega), if_neg (by omega), if_neg (by omega), if_neg (by omega)]
  · rw [if_neg h]
    unfold okS at h
    repeat' split
    all_goals first | rfl | omega

theorem rmoment_eq (t : Int) : papermillref35_moment.f t = some (decide (0 ≤ t ∧ t ≤ 2147483647)) := by
  unfold papermillref35_moment.f
  by_cases h : t ≥ 0
  · rw [if_pos h]; congr 1; apply decide_eq_decide.mpr; omega
  · rw [if_neg h]; congr 1; exact (decide_eq_false (by omega)).symm

theorem rplace_eq (wd bx sp t : Int) (h : okS wd bx sp) (h0 : 0 ≤ t) (h1 : t ≤ 2147483648) : papermillref35_place.f wd bx sp t = some (placeZ wd sp t) := by
  have hs := h
  unfold okS at hs
  have b := tsp_bounds sp t (by omega) (by omega) h0 h1
  have e1 := Int.emod_nonneg (t * sp) (show 2 * (wd - 1) ≠ 0 by omega)
  have e2 := Int.emod_lt_of_pos (t * sp) (show 0 < 2 * (wd - 1) by omega)
  unfold papermillref35_place.f placeZ
  rw [swrap (x := wd - 1) (by omega) (by omega), swrap (x := 2 * (wd - 1)) (by omega) (by omega), if_neg (by omega), swrap (x := t * sp) (by omega) (by omega), Int.tmod_eq_emod_of_nonneg (by omega), swrap (by omega) (by omega)]
  split
  · congr 1; omega
  · congr 1; omega

/-- A moment at which a permitted scanner is asked. -/
def okT (t : Int) : Prop := 0 ≤ t ∧ t ≤ 2147483647
instance (t : Int) : Decidable (okT t) := by unfold okT; exact inferInstance

theorem rPlace_eq (wd bx sp t : Int) : papermillref35_Place.f wd bx sp t = some (if okS wd bx sp ∧ okT t then (placeZ wd sp t, 0) else (0, 1)) := by
  unfold papermillref35_Place.f
  rw [rcheck_eq]
  simp only [Option.bind_some]
  by_cases h : okS wd bx sp
  · rw [if_pos h, if_pos rfl, rmoment_eq]
    simp only [Option.bind_some]
    by_cases ht : okT t
    · have ht' := ht
      unfold okT at ht'
      rw [if_pos (decide_eq_true ht'), rplace_eq wd bx sp t h (by omega) (by omega), if_pos ⟨h, ht⟩]
      rfl
    · have ht' := ht
      unfold okT at ht'
      rw [if_neg (by rw [decide_eq_false ht']; decide), if_neg (fun hh => ht hh.2)]
  · rw [if_neg h, if_neg (by decide), if_neg (fun hh => h hh.1)]

theorem sPlace_eq (wd bx sp t : Int) : scan_Place.f wd bx sp t = some (if okS wd bx sp ∧ okT t then (placeZ wd sp t, 0) else (0, 1)) := by
  unfold scan_Place.f
  rw [smoment_eq]
  simp only [Option.bind_some]
  by_cases h : okS wd bx sp ∧ okT t
  · have h' := h
    unfold okT at h'
    rw [if_pos (show okS wd bx sp ∧ 0 ≤ t ∧ t ≤ 2147483647 from ⟨h'.1, h'.2.1, h'.2.2⟩), if_pos rfl, splace_eq wd bx sp t h.1 h'.2.1 (by omega), if_pos h]
    rfl
  · have h' := h
    unfold okT at h'
    rw [if_neg h', if_neg (by decide), if_neg h]

theorem rBox_eq (wd bx sp t : Int) : papermillref35_Box.f wd bx sp t = some (if okS wd bx sp ∧ okT t then (boxZ wd bx sp t, 0) else (0, 1)) := by
  unfold papermillref35_Box.f
  rw [rPlace_eq]
  simp only [Option.bind_some]
  by_cases h : okS wd bx sp ∧ okT t
  · have hs := h.1
    have hb := box_bounds wd bx sp t h.1
    unfold okS at hs
    have p := place_bounds wd sp t (by omega)
    have hp : 0 ≤ placeZ wd sp t * bx ∧ placeZ wd sp t * bx ≤ 768000 := ⟨Int.mul_nonneg p.1 (by omega), Int.le_trans (Int.mul_le_mul_of_nonneg_right (show placeZ wd sp t ≤ 12000 by omega) (by omega)) (by omega)⟩
    rw [if_pos h, if_pos h, if_pos rfl, if_neg (by omega)]
    dsimp only
    rw [swrap (x := placeZ wd sp t * bx) (by omega) (by omega), Int.tdiv_eq_ediv_of_nonneg (by omega)]
    unfold boxZ at hb ⊢
    rw [swrap (by omega) (by omega)]
  · rw [if_neg h, if_neg h, if_neg (by decide)]

theorem sBox_eq (wd bx sp t : Int) : scan_Box.f wd bx sp t = some (if okS wd bx sp ∧ okT t then (boxZ wd bx sp t, 0) else (0, 1)) := by
  unfold scan_Box.f
  rw [smoment_eq]
  simp only [Option.bind_some]
  by_cases h : okS wd bx sp ∧ okT t
  · have h' := h
    unfold okT at h'
    rw [if_pos (show okS wd bx sp ∧ 0 ≤ t ∧ t ≤ 2147483647 from ⟨h'.1, h'.2.1, h'.2.2⟩), if_pos rfl, sbox_eq wd bx sp t h.1 h'.2.1 (by omega), if_pos h]
    rfl
  · have h' := h
    unfold okT at h'
    rw [if_neg h', if_neg (by decide), if_neg h]

/-! ### equal rows -/
theorem ints_eq (l : List Int) (hl : l.length ≤ 9223372036854775806) : ∀ (k : Nat) (i : Nat), l.length - i < k → papermillref08_Ints.l0 k l l i = some true := by
  intro k
  induction k with
  | zero => intro i h; omega
  | succ k ih =>
    intro i h
    unfold papermillref08_Ints.l0
    by_cases c : (i : Int) < l.length
    · rw [if_pos c, if_pos (by omega), if_pos c, if_pos rfl, swrap (by omega) (by omega)]
      exact ih (i + 1) (by omega)
    · rw [if_neg c]

theorem Ints_eq (l : List Int) (hl : l.length ≤ 9223372036854775806) (k : Nat) (hk : l.length < k) : papermillref08_Ints.f k l l = some true := by
  unfold papermillref08_Ints.f
  rw [if_pos rfl]
  exact ints_eq l hl k 0 (by omega)

/-! ### where the boxes begin -/
theorem edge_eq (wd bx k : Int) (hw : 0 ≤ wd) (hb : 1 ≤ bx) (h0 : 0 ≤ k) (h1 : k ≤ bx) : ((edgeAt wd bx k : Nat) : Int) = (k * wd + bx - 1) / bx := by
  have hkw : 0 ≤ k * wd := Int.mul_nonneg h0 hw
  have hq0 : 0 ≤ (k * wd + bx - 1) / bx := Int.ediv_nonneg (by omega) (by omega)
  obtain ⟨q, hq⟩ := Int.eq_ofNat_of_zero_le hq0
  have d := Int.mul_ediv_add_emod (k * wd + bx - 1) bx
  have e1 := Int.emod_nonneg (k * wd + bx - 1) (show bx ≠ 0 by omega)
  have e2 := Int.emod_lt_of_pos (k * wd + bx - 1) (show 0 < bx by omega)
  rw [hq] at d ⊢
  have hle : k * wd ≤ bx * wd := Int.mul_le_mul_of_nonneg_right h1 hw
  have hqw : q ≤ wd.toNat := by
    have h2 : (q : Int) < wd + 1 := by
      apply Int.lt_of_mul_lt_mul_left (a := bx) (Int.lt_of_le_of_lt (show bx * (q : Int) ≤ k * wd + bx - 1 by omega) (by rw [Int.mul_add]; omega)) (by omega)
    omega
  congr 1
  unfold edgeAt
  refine first_unique _ _ q hqw (fun t ht => decide_eq_false ?_) (fun hr => decide_eq_true ?_)
  · intro hh
    have h3 : (t : Int) * bx ≤ ((q : Int) - 1) * bx := Int.mul_le_mul_of_nonneg_right (by omega) (by omega)
    rw [Int.sub_mul, Int.mul_comm (q : Int) bx] at h3
    omega
  · rw [Int.mul_comm (q : Int) bx]; omega

theorem refEdges_loop (wd bx sp : Int) (h : okS wd bx sp) : ∀ (k i : Nat), i ≤ bx.toNat + 1 → bx.toNat + 1 - i < k → papermillref35_Edges.l0 k ((List.range i).map fun (j : Nat) => ((edgeAt wd bx (j : Int) : Nat) : Int)) i wd bx sp = some (edgesSpec wd bx, 0) := by
  have hs := h
  unfold okS at hs
  intro k
  induction k with
  | zero => intro i h1 h2; omega
  | succ k ih =>
    intro i h1 h2
    unfold papermillref35_Edges.l0
    by_cases c : (i : Int) ≤ bx
    · have hw : 0 ≤ (i : Int) * wd ∧ (i : Int) * wd ≤ 768000 := ⟨Int.mul_nonneg (by omega) (by omega), Int.le_trans (Int.mul_le_mul_of_nonneg_right (show (i : Int) ≤ 64 by omega) (by omega)) (by omega)⟩
      have he := edge_eq wd bx i (by omega) (by omega) (by omega) c
      have hq0 : 0 ≤ ((i : Int) * wd + bx - 1) / bx := Int.ediv_nonneg (by omega) (by omega)
      have hq1 : ((i : Int) * wd + bx - 1) / bx ≤ 769000 := Int.le_trans (Int.ediv_le_self _ (by omega)) (by omega)
      rw [if_pos c, if_neg (by omega), if_pos (by rw [List.length_map, List.length_range]; omega), swrap (x := (i : Int) * wd) (by omega) (by omega), swrap (x := (i : Int) * wd + bx) (by omega) (by omega), swrap (x := (i : Int) * wd + bx - 1) (by omega) (by omega), Int.tdiv_eq_ediv_of_nonneg (by omega), swrap (x := ((i : Int) * wd + bx - 1) / bx) (by omega) (by omega), swrap (x := (i : Int) + 1) (by omega) (by omega), ← he]
      have := ih (i + 1) (by omega) (by omega)
      rw [List.range_succ, List.map_append] at this
      exact this
    · rw [if_neg c]
      obtain rfl : i = bx.toNat + 1 := by omega
      rfl

theorem refEdges_eq (wd bx sp : Int) (k : Nat) (hk : 100 ≤ k) : papermillref35_Edges.f k wd bx sp = some (if okS wd bx sp then (edgesSpec wd bx, 0) else ([], 1)) := by
  unfold papermillref35_Edges.f
  rw [rcheck_eq]
  simp only [Option.bind_some]
  by_cases h : okS wd bx sp
  · have hs := h
    unfold okS at hs
    rw [if_pos h, if_pos rfl, if_pos h]
    exact refEdges_loop wd bx sp h k 0 (by omega) (by omega)
  · rw [if_neg h, if_neg (by decide), if_neg h]

theorem edgesSpec_len (wd bx : Int) : (edgesSpec wd bx).length = bx.toNat + 1 := by unfold edgesSpec; simp
theorem edgesSpec_rd (wd bx : Int) (k : Int) (hb : 0 ≤ bx) (h0 : 0 ≤ k) (h1 : k ≤ bx) : rd (edgesSpec wd bx) k = ((edgeAt wd bx k : Nat) : Int) := by
  obtain ⟨n, rfl⟩ := Int.eq_ofNat_of_zero_le h0
  unfold rd edgesSpec
  rw [Int.toNat_natCast, List.getD_eq_getElem?_getD, List.getElem?_map, List.getElem?_range (by omega)]
  rfl
end Go.Proofs.Ytcpmnimjlhfdmaa.P
