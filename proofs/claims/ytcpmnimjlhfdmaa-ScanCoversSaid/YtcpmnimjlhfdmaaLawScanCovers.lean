/- The row of the law ScanCovers: called with any arguments it answers true, and leaves them as they were. Its plain part stands in YtcpmnimjlhfdmaaPureScanCovers. -/
import Derived.Test.YtcpmnimjlhfdmaaRows
import Derived.Test.YtcpmnimjlhfdmaaPx14
import Derived.Test.YtcpmnimjlhfdmaaPureScanCovers
import Derived.Test.YtcpmnimjlhfdmaaOpen
import Derived.WalkKit
import Derived.ProofKit
import Derived.OpenShut
import Derived.ChangeOld
import Derived.Below
import Derived.SizedLaws
import Derived.Carry
namespace Go.Proofs.Ytcpmnimjlhfdmaa.scanCovers
open Go.ChangeShapes Go.WideShapes Go.ChangeAt Go.RowKit Go.Proofs.YtcpmnimjlhfdmaaW.PrintWords Go.Proofs.YtcpmnimjlhfdmaaW.PrintLast
set_option linter.unusedVariables false
set_option linter.unusedSimpArgs false
theorem own : ownKnob Try.prog.godebug = none := by kernel_rfl
theorem laidOut : laidOutB Try.prog = true := by kernel_rfl
set_option maxRecDepth 100000 in
theorem lifted (os : Os) (started : os.Started) (H : Type) (enc : TypeId × Value → H) :
    ReturnsInHanded {} Try.checked os 6 .any (Rows.scanCoversSpec.pre6 enc Try.prog Try.f6 Rows.scanCoversRow.domain false) (Rows.scanCoversSpec.post enc Try.prog Try.f6 false true false false) := by
  refine returnsInHanded_of_change_sized (C := Try.checked) own started (by kernel_rfl) Try.func6
    (ChangeSpec.witness6 (enc := enc) (C := Try.checked) false ⟨#[], #[.agg #[.int .i64 0, .int .i64 0, .int .i64 0], .agg #[.int .i64 0, .int .i64 0]], []⟩ 8 (by kernel_rfl) (by kernel_rfl) (by kernel_rfl) (by kernel_rfl)) ?_
  intro W base args ds gs before hval0 hW hcnd hsz0 _
  have hval : ∀ (j : Nat) t v, Try.f6.params[j]? = some t → args[j]? = some v → Value.okWide Try.prog W .any base t v := hval0
  have hW' := hW
  obtain ⟨p, q, hA0, hV, rfl, hfz, hnd⟩ := hW
  have hA : DataW.TrodAll enc Try.prog W 0 (fun _ => true) true Try.f6.params.toList args.toList ds p := hA0
  rw [Try.params6] at hA hval
  obtain ⟨v0, vs0, d0, ds0, p0, q0, hargs, rfl, rfl, h0, r0⟩ := trodAll_cons hA
  obtain ⟨v1, vs1, d1, ds1, p1, q1, rfl, rfl, rfl, h1, r1⟩ := trodAll_cons r0
  obtain ⟨rfl, rfl, rfl⟩ := trodAll_nil r1
  obtain rfl : args = #[v0, v1] := by cases args; simp_all
  obtain ⟨rfl, rfl⟩ := trodVars_none hV
  have k0 := h0
  have lt0 : ∀ x ∈ p0, x.block < W.heap.size := by obtain ⟨m, hm⟩ := k0; exact DataW.trod_lt m _ _ _ hm
  obtain ⟨xs0, e0, n0, f0⟩ := Open.open_str Try.underlying23 (by kernel_rfl) (by kernel_rfl) (by intro f hf; simp at hf; first | (rcases hf with rfl | rfl | rfl <;> exact Try.underlying3) | (subst hf; exact Try.underlying3)) (hval 0 23 v0 rfl rfl) h0
  obtain ⟨a0_0, a0_1, a0_2, hx0⟩ : ∃ a0_0 a0_1 a0_2 : Int, xs0 = [a0_0, a0_1, a0_2] := by
    match xs0, n0 with
    | [y0, y1, y2], _ => exact ⟨y0, y1, y2, rfl⟩
  subst hx0
  have ev0 : v0 = .agg #[.int .i64 a0_0, .int .i64 a0_1, .int .i64 a0_2] := e0.trans rfl
  subst ev0
  have w0_0 := f0 a0_0 (by simp)
  have w0_1 := f0 a0_1 (by simp)
  have w0_2 := f0 a0_2 (by simp)
  have k1 := h1
  have lt1 : ∀ x ∈ p1, x.block < W.heap.size := by obtain ⟨m, hm⟩ := k1; exact DataW.trod_lt m _ _ _ hm
  obtain ⟨xs1, e1, n1, f1⟩ := Open.open_str Try.underlying42 (by kernel_rfl) (by kernel_rfl) (by intro f hf; simp at hf; first | (rcases hf with rfl | rfl <;> exact Try.underlying3) | (subst hf; exact Try.underlying3)) (hval 1 42 v1 rfl rfl) h1
  obtain ⟨a1_0, a1_1, hx1⟩ : ∃ a1_0 a1_1 : Int, xs1 = [a1_0, a1_1] := by
    match xs1, n1 with
    | [y0, y1], _ => exact ⟨y0, y1, rfl⟩
  subst hx1
  have ev1 : v1 = .agg #[.int .i64 a1_0, .int .i64 a1_1] := e1.trans rfl
  subst ev1
  have w1_0 := f1 a1_0 (by simp)
  have w1_1 := f1 a1_1 (by simp)
  clear hA0 hval0 hsz0
  obtain ⟨k, hk⟩ := Pure.ScanCovers a0_0 a0_1 a0_2 a1_0 a1_1 w0_0 w0_1 w0_2 w1_0 w1_1
  refine (P.papermilllaw35_ScanCovers.calls k a0_0 a0_1 a0_2 a1_0 a1_1 true W ⟨rfl⟩ hk).mono fun e W' ⟨he, bel⟩ => ?_
  subst he
  exact ⟨_, rfl, _, _, _, [], _, [], hW', trodAll_mk1 (shut_bool Try.underlying4 _), (trodAll_cons_mk (Below.trod laidOut (by kernel_rfl) (of_decide_eq_true (by kernel_rfl)) k0 bel lt0) (trodAll_cons_mk (Below.trod laidOut (by kernel_rfl) (of_decide_eq_true (by kernel_rfl)) k1 bel lt1) trodAll_mk0)), rfl, bel.frame _, fun h => by cases h⟩
theorem over : Rows.scanCoversRow.holds Try.pinned (OpenSpec.ofChange Rows.scanCoversSpec) :=
  OpenClaim.holds_of_wide 6 Try.f6 rfl rfl rfl rfl rfl rfl rfl ⟨rfl, rfl, rfl, rfl, rfl⟩ rfl rfl rfl rfl rfl (by kernel_rfl) Try.func6 (by kernel_rfl)
    (of_decide_eq_true (by kernel_rfl)) (by unfold Func.isWrapper; first | (rw [if_pos (by decide +kernel)]; kernel_rfl) | (rw [if_neg (by decide +kernel)]; exact ⟨rfl, rfl⟩))
    (fun os started H enc _ => lifted os started H enc)
theorem proved : Rows.ScanCoversSaid := over
#print axioms proved
end Go.Proofs.Ytcpmnimjlhfdmaa.scanCovers
namespace Go.Proofs.Ytcpmnimjlhfdmaa
/-- The row, under a short name, for the claim. -/
theorem scanCovers_holds : Rows.ScanCoversSaid := scanCovers.proved
end Go.Proofs.Ytcpmnimjlhfdmaa
