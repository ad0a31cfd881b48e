/- The row of the law ScanMeans: called with any arguments it answers true, and leaves them as they were. Its plain part stands in YtnkmeocccbkdkaaPureScanMeans. -/
import Derived.Test.YtnkmeocccbkdkaaRows
import Derived.Test.YtnkmeocccbkdkaaPx33
import Derived.Test.YtnkmeocccbkdkaaPureScanMeans
import Derived.Test.YtnkmeocccbkdkaaOpen
import Derived.WalkKit
import Derived.ProofKit
import Derived.OpenShut
import Derived.ChangeOld
import Derived.Below
import Derived.SizedLaws
import Derived.Carry
namespace Go.Proofs.Ytnkmeocccbkdkaa.scanMeans
open Go.ChangeShapes Go.WideShapes Go.ChangeAt Go.RowKit Go.Proofs.YtnkmeocccbkdkaaW.PrintWords Go.Proofs.YtnkmeocccbkdkaaW.PrintLast
set_option linter.unusedVariables false
set_option linter.unusedSimpArgs false
theorem own : ownKnob Try.prog.godebug = none := by kernel_rfl
theorem laidOut : laidOutB Try.prog = true := by kernel_rfl
set_option maxRecDepth 100000 in
theorem lifted (os : Os) (started : os.Started) (H : Type) (enc : TypeId × Value → H) :
    ReturnsInHanded {} Try.checked os 3 .any (Rows.scanMeansSpec.pre6 enc Try.prog Try.f3 Rows.scanMeansRow.domain false) (Rows.scanMeansSpec.post enc Try.prog Try.f3 false true false false) := by
  refine returnsInHanded_of_change_sized (C := Try.checked) own started (by kernel_rfl) Try.func3
    (ChangeSpec.witness6 (enc := enc) (C := Try.checked) false ⟨#[], #[.agg #[.int .i64 0, .int .i64 0]], []⟩ 8 (by kernel_rfl) (by kernel_rfl) (by kernel_rfl) (by kernel_rfl)) ?_
  intro W base args ds gs before hval0 hW hcnd hsz0 _
  have hval : ∀ (j : Nat) t v, Try.f3.params[j]? = some t → args[j]? = some v → Value.okWide Try.prog W .any base t v := hval0
  have hW' := hW
  obtain ⟨p, q, hA0, hV, rfl, hfz, hnd⟩ := hW
  have hA : DataW.TrodAll enc Try.prog W 0 (fun _ => true) true Try.f3.params.toList args.toList ds p := hA0
  rw [Try.params3] at hA hval
  obtain ⟨v0, vs0, d0, ds0, p0, q0, hargs, rfl, rfl, h0, r0⟩ := trodAll_cons hA
  obtain ⟨rfl, rfl, rfl⟩ := trodAll_nil r0
  obtain rfl : args = #[v0] := by cases args; simp_all
  obtain ⟨rfl, rfl⟩ := trodVars_none hV
  have k0 := h0
  have lt0 : ∀ x ∈ p0, x.block < W.heap.size := by obtain ⟨m, hm⟩ := k0; exact DataW.trod_lt m _ _ _ hm
  obtain ⟨xs0, e0, n0, f0⟩ := Open.open_str Try.underlying23 (by kernel_rfl) (by kernel_rfl) (by intro f hf; simp at hf; first | (rcases hf with rfl | rfl <;> exact Try.underlying3) | (subst hf; exact Try.underlying3)) (hval 0 23 v0 rfl rfl) h0
  obtain ⟨a0_0, a0_1, hx0⟩ : ∃ a0_0 a0_1 : Int, xs0 = [a0_0, a0_1] := by
    match xs0, n0 with
    | [y0, y1], _ => exact ⟨y0, y1, rfl⟩
  subst hx0
  have ev0 : v0 = .agg #[.int .i64 a0_0, .int .i64 a0_1] := e0.trans rfl
  subst ev0
  have w0_0 := f0 a0_0 (by simp)
  have w0_1 := f0 a0_1 (by simp)
  clear hA0 hval0 hsz0
  obtain ⟨k, hk⟩ := Pure.ScanMeans a0_0 a0_1 w0_0 w0_1
  refine (P.papermilllaw35_ScanMeans.calls k a0_0 a0_1 true W ⟨rfl⟩ hk).mono fun e W' ⟨he, bel⟩ => ?_
  subst he
  exact ⟨_, rfl, _, _, _, [], _, [], hW', trodAll_mk1 (shut_bool Try.underlying4 _), (trodAll_cons_mk (Below.trod laidOut (by kernel_rfl) (of_decide_eq_true (by kernel_rfl)) k0 bel lt0) trodAll_mk0), rfl, bel.frame _, fun h => by cases h⟩
theorem over : Rows.scanMeansRow.holds Try.pinned (OpenSpec.ofChange Rows.scanMeansSpec) :=
  OpenClaim.holds_of_wide 3 Try.f3 rfl rfl rfl rfl rfl rfl rfl ⟨rfl, rfl, rfl, rfl, rfl⟩ rfl rfl rfl rfl rfl (by kernel_rfl) Try.func3 (by kernel_rfl)
    (of_decide_eq_true (by kernel_rfl)) (by unfold Func.isWrapper; first | (rw [if_pos (by decide +kernel)]; kernel_rfl) | (rw [if_neg (by decide +kernel)]; exact ⟨rfl, rfl⟩))
    (fun os started H enc _ => lifted os started H enc)
theorem proved : Rows.ScanMeansSaid := over
#print axioms proved
end Go.Proofs.Ytnkmeocccbkdkaa.scanMeans
namespace Go.Proofs.Ytnkmeocccbkdkaa
/-- The row, under a short name, for the claim. -/
theorem scanMeans_holds : Rows.ScanMeansSaid := scanMeans.proved
end Go.Proofs.Ytnkmeocccbkdkaa
