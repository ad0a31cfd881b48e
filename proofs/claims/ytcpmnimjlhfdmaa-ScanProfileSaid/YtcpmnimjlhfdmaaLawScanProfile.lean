/- The row of the law ScanProfile: called with any arguments it answers true, and leaves them as they were. Its plain part stands in YtcpmnimjlhfdmaaPureScanProfile. -/
import Derived.Test.YtcpmnimjlhfdmaaRows
import Derived.Test.YtcpmnimjlhfdmaaPx15
import Derived.Test.YtcpmnimjlhfdmaaPureScanProfile
import Derived.Test.YtcpmnimjlhfdmaaOpen
import Derived.WalkKit
import Derived.ProofKit
import Derived.OpenShut
import Derived.ChangeOld
import Derived.Below
import Derived.SizedLaws
import Derived.Carry
namespace Go.Proofs.Ytcpmnimjlhfdmaa.scanProfile
open Go.ChangeShapes Go.WideShapes Go.ChangeAt Go.RowKit Go.Proofs.YtcpmnimjlhfdmaaW.PrintWords Go.Proofs.YtcpmnimjlhfdmaaW.PrintLast
set_option linter.unusedVariables false
set_option linter.unusedSimpArgs false
theorem own : ownKnob Try.prog.godebug = none := by kernel_rfl
theorem laidOut : laidOutB Try.prog = true := by kernel_rfl
set_option maxRecDepth 100000 in
theorem lifted (os : Os) (started : os.Started) (H : Type) (enc : TypeId × Value → H) :
    ReturnsInHanded {} Try.checked os 7 .any (Rows.scanProfileSpec.pre6 enc Try.prog Try.f7 Rows.scanProfileRow.domain false) (Rows.scanProfileSpec.post enc Try.prog Try.f7 false true false false) := by
  refine returnsInHanded_of_change_sized (C := Try.checked) own started (by kernel_rfl) Try.func7
    (ChangeSpec.witness6 (enc := enc) (C := Try.checked) false ⟨#[], #[.agg #[.int .i64 0, .int .i64 0, .int .i64 0], .slice none 0 0, .int .i64 0], []⟩ 8 (by kernel_rfl) (by kernel_rfl) (by kernel_rfl) (by kernel_rfl)) ?_
  intro W base args ds gs before hval0 hW hcnd hsz0 _
  have hval : ∀ (j : Nat) t v, Try.f7.params[j]? = some t → args[j]? = some v → Value.okWide Try.prog W .any base t v := hval0
  have hW' := hW
  obtain ⟨p, q, hA0, hV, rfl, hfz, hnd⟩ := hW
  have hA : DataW.TrodAll enc Try.prog W 0 (fun _ => true) true Try.f7.params.toList args.toList ds p := hA0
  rw [Try.params7] at hA hval
  obtain ⟨v0, vs0, d0, ds0, p0, q0, hargs, rfl, rfl, h0, r0⟩ := trodAll_cons hA
  obtain ⟨v1, vs1, d1, ds1, p1, q1, rfl, rfl, rfl, h1, r1⟩ := trodAll_cons r0
  obtain ⟨v2, vs2, d2, ds2, p2, q2, rfl, rfl, rfl, h2, r2⟩ := trodAll_cons r1
  obtain ⟨rfl, rfl, rfl⟩ := trodAll_nil r2
  obtain rfl : args = #[v0, v1, v2] := by cases args; simp_all
  obtain ⟨rfl, rfl⟩ := trodVars_none hV
  have k0 := h0
  have lt0 : ∀ x ∈ p0, x.block < W.heap.size := by obtain ⟨m, hm⟩ := k0; exact DataW.trod_lt m _ _ _ hm
  obtain ⟨xs0, e0, n0, f0⟩ := Open.open_str Try.underlying23 (by kernel_rfl) (by kernel_rfl) (by intro f hf; simp at hf; first | (rcases hf with rfl | rfl | rfl <;> exact Try.underlying3) | (subst hf; exact Try.underlying3)) (hval 0 23 v0 rfl rfl) h0
  obtain ⟨a0_0, a0_1, a0_2, hx0⟩ : ∃ a0_0 a0_1 a0_2 : Int, xs0 = [a0_0, a0_1, a0_2] := by
    match xs0, n0 with
    | [y0, y1, y2], _ => exact ⟨y0, y1, y2, rfl⟩
  subst hx0
  have ev0 : v0 = .agg #[.int .i64 a0_0, .int .i64 a0_1, .int .i64 a0_2] := e0.trans rfl
  subst ev0
  have w0_0 := f0 a0_0 (by simp)
  have w0_1 := f0 a0_1 (by simp)
  have w0_2 := f0 a0_2 (by simp)
  have k1 := h1
  have lt1 : ∀ x ∈ p1, x.block < W.heap.size := by obtain ⟨m, hm⟩ := k1; exact DataW.trod_lt m _ _ _ hm
  obtain ⟨A1, len1, c1, g1, ev1, hc1, m1, wg1, cell1⟩ := Open.open_rows Try.underlying35 Try.underlying49 (by kernel_rfl) (by kernel_rfl) (by intro f hf; simp at hf; first | (rcases hf with rfl | rfl <;> exact Try.underlying3) | (subst hf; exact Try.underlying3)) (hval 1 35 v1 rfl rfl) h1
  subst ev1
  obtain ⟨l1, hl1⟩ : ∃ l : List P.S49, l = (List.range len1).map fun j => (⟨g1 j 0, g1 j 1⟩ : P.S49) := ⟨_, rfl⟩
  have hg1 : ∀ j, j < len1 → l1[j]? = some (⟨g1 j 0, g1 j 1⟩ : P.S49) := fun j hj => by rw [hl1]; simp [hj]
  have hn1 : len1 = l1.length := by rw [hl1]; simp
  have wl1 : ∀ x ∈ l1, (Lit.int .i64 x.f0).wf = true ∧ (Lit.int .i64 x.f1).wf = true := by
    intro x hx
    rw [hl1] at hx
    obtain ⟨j, _, rfl⟩ := List.mem_map.1 hx
    exact ⟨wg1 j 0, wg1 j 1⟩
  clear hl1
  subst hn1
  have hr1 : Kd.C P.k49 W A1 l1.length l1 := by
    refine ⟨rfl, by unfold maxLen at m1; omega, fun hp => ?_⟩
    obtain ⟨ad, rfl, hcell⟩ := cell1 hp
    refine ⟨ad, rfl, fun j p hj => ?_⟩
    have hjl : j < l1.length := (List.getElem?_eq_some_iff.1 hj).1
    obtain rfl : (⟨g1 j 0, g1 j 1⟩ : P.S49) = p := Option.some.inj ((hg1 j hjl).symm.trans hj)
    refine ⟨[.int .i64 (g1 j 0), .int .i64 (g1 j 1)], rfl, P.k49_mk W _, fun i u hu => ?_⟩
    match i, hu with
    | 0, hu => cases hu; exact hcell j 0 hjl (by decide)
    | 1, hu => cases hu; exact hcell j 1 hjl (by decide)
    | z + 2, hu => simp at hu
  obtain ⟨a2, rfl, rfl, rfl, w2⟩ := open_int Try.underlying3 (hval 2 3 v2 rfl rfl) h2
  clear hA0 hval0 hsz0
  obtain ⟨k, hk⟩ := Pure.ScanProfile a0_0 a0_1 a0_2 l1 a2 w0_0 w0_1 w0_2 m1 wl1 w2
  refine (P.papermilllaw35_ScanProfile.calls k a0_0 a0_1 a0_2 A1 c1 l1 a2 true W hr1 hc1 ⟨rfl⟩ hk).mono fun e W' ⟨he, bel⟩ => ?_
  subst he
  exact ⟨_, rfl, _, _, _, [], _, [], hW', trodAll_mk1 (shut_bool Try.underlying4 _), (trodAll_cons_mk (Below.trod laidOut (by kernel_rfl) (of_decide_eq_true (by kernel_rfl)) k0 bel lt0) (trodAll_cons_mk (Below.trod laidOut (by kernel_rfl) (of_decide_eq_true (by kernel_rfl)) k1 bel lt1) (trodAll_cons_mk (shut_int Try.underlying3 w2) trodAll_mk0))), rfl, bel.frame _, fun h => by cases h⟩
theorem over : Rows.scanProfileRow.holds Try.pinned (OpenSpec.ofChange Rows.scanProfileSpec) :=
  OpenClaim.holds_of_wide 7 Try.f7 rfl rfl rfl rfl rfl rfl rfl ⟨rfl, rfl, rfl, rfl, rfl⟩ rfl rfl rfl rfl rfl (by kernel_rfl) Try.func7 (by kernel_rfl)
    (of_decide_eq_true (by kernel_rfl)) (by unfold Func.isWrapper; first | (rw [if_pos (by decide +kernel)]; kernel_rfl) | (rw [if_neg (by decide +kernel)]; exact ⟨rfl, rfl⟩))
    (fun os started H enc _ => lifted os started H enc)
theorem proved : Rows.ScanProfileSaid := over
#print axioms proved
end Go.Proofs.Ytcpmnimjlhfdmaa.scanProfile
namespace Go.Proofs.Ytcpmnimjlhfdmaa
/-- The row, under a short name, for the claim. -/
theorem scanProfile_holds : Rows.ScanProfileSaid := scanProfile.proved
end Go.Proofs.Ytcpmnimjlhfdmaa
