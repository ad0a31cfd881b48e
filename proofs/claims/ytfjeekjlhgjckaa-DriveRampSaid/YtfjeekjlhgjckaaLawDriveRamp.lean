/- The row of the law DriveRamp: called with any arguments it answers true, and leaves them as they were. Its plain part stands in YtfjeekjlhgjckaaPureDriveRamp. -/
import Derived.Test.YtfjeekjlhgjckaaRows
import Derived.Test.YtfjeekjlhgjckaaPx20
import Derived.Test.YtfjeekjlhgjckaaPureDriveRamp
import Derived.Test.YtfjeekjlhgjckaaOpen
import Derived.WalkKit
import Derived.ProofKit
import Derived.OpenShut
import Derived.ChangeOld
import Derived.Below
import Derived.SizedLaws
import Derived.Carry
namespace Go.Proofs.Ytfjeekjlhgjckaa.driveRamp
open Go.ChangeShapes Go.WideShapes Go.ChangeAt Go.RowKit Go.Proofs.YtfjeekjlhgjckaaW.PrintWords Go.Proofs.YtfjeekjlhgjckaaW.PrintLast
set_option linter.unusedVariables false
set_option linter.unusedSimpArgs false
theorem own : ownKnob Try.prog.godebug = none := by kernel_rfl
theorem laidOut : laidOutB Try.prog = true := by kernel_rfl
set_option maxRecDepth 100000 in
theorem lifted (os : Os) (started : os.Started) (H : Type) (enc : TypeId × Value → H) :
    ReturnsInHanded {} Try.checked os 8 .any (Rows.driveRampSpec.pre6 enc Try.prog Try.f8 Rows.driveRampRow.domain false) (Rows.driveRampSpec.post enc Try.prog Try.f8 false true false false) := by
  refine returnsInHanded_of_change_sized (C := Try.checked) own started (by kernel_rfl) Try.func8
    (ChangeSpec.witness6 (enc := enc) (C := Try.checked) false ⟨#[], #[.agg #[.int .i64 0, .int .i64 0, .int .i64 0, .int .i64 0]], []⟩ 8 (by kernel_rfl) (by kernel_rfl) (by kernel_rfl) (by kernel_rfl)) ?_
  intro W base args ds gs before hval0 hW hcnd hsz0 _
  have hval : ∀ (j : Nat) t v, Try.f8.params[j]? = some t → args[j]? = some v → Value.okWide Try.prog W .any base t v := hval0
  have hW' := hW
  obtain ⟨p, q, hA0, hV, rfl, hfz, hnd⟩ := hW
  have hA : DataW.TrodAll enc Try.prog W 0 (fun _ => true) true Try.f8.params.toList args.toList ds p := hA0
  rw [Try.params8] at hA hval
  obtain ⟨v0, vs0, d0, ds0, p0, q0, hargs, rfl, rfl, h0, r0⟩ := trodAll_cons hA
  obtain ⟨rfl, rfl, rfl⟩ := trodAll_nil r0
  obtain rfl : args = #[v0] := by cases args; simp_all
  obtain ⟨rfl, rfl⟩ := trodVars_none hV
  have k0 := h0
  have lt0 : ∀ x ∈ p0, x.block < W.heap.size := by obtain ⟨m, hm⟩ := k0; exact DataW.trod_lt m _ _ _ hm
  obtain ⟨xs0, e0, n0, f0⟩ := Open.open_arr Try.underlying34 Try.underlying3 (by kernel_rfl) (by kernel_rfl) (hval 0 34 v0 rfl rfl) h0
  obtain ⟨a0_0, a0_1, a0_2, a0_3, hx0⟩ : ∃ a0_0 a0_1 a0_2 a0_3 : Int, xs0 = [a0_0, a0_1, a0_2, a0_3] := by
    match xs0, n0 with
    | [y0, y1, y2, y3], _ => exact ⟨y0, y1, y2, y3, rfl⟩
  subst hx0
  have ev0 : v0 = .agg #[.int .i64 a0_0, .int .i64 a0_1, .int .i64 a0_2, .int .i64 a0_3] := e0.trans rfl
  subst ev0
  have w0_0 := f0 a0_0 (by simp)
  have w0_1 := f0 a0_1 (by simp)
  have w0_2 := f0 a0_2 (by simp)
  have w0_3 := f0 a0_3 (by simp)
  clear hA0 hval0 hsz0
  obtain ⟨k, hk⟩ := Pure.DriveRamp a0_0 a0_1 a0_2 a0_3 w0_0 w0_1 w0_2 w0_3
  refine (P.papermilllaw29_DriveRamp.calls k a0_0 a0_1 a0_2 a0_3 true W ⟨rfl⟩ hk).mono fun e W' ⟨he, bel⟩ => ?_
  subst he
  exact ⟨_, rfl, _, _, _, [], _, [], hW', trodAll_mk1 (shut_bool Try.underlying4 _), (trodAll_cons_mk (Below.trod laidOut (by kernel_rfl) (of_decide_eq_true (by kernel_rfl)) k0 bel lt0) trodAll_mk0), rfl, bel.frame _, fun h => by cases h⟩
theorem over : Rows.driveRampRow.holds Try.pinned (OpenSpec.ofChange Rows.driveRampSpec) :=
  OpenClaim.holds_of_wide 8 Try.f8 rfl rfl rfl rfl rfl rfl rfl ⟨rfl, rfl, rfl, rfl, rfl⟩ rfl rfl rfl rfl rfl (by kernel_rfl) Try.func8 (by kernel_rfl)
    (of_decide_eq_true (by kernel_rfl)) (by unfold Func.isWrapper; first | (rw [if_pos (by decide +kernel)]; kernel_rfl) | (rw [if_neg (by decide +kernel)]; exact ⟨rfl, rfl⟩))
    (fun os started H enc _ => lifted os started H enc)
theorem proved : Rows.DriveRampSaid := over
#print axioms proved
end Go.Proofs.Ytfjeekjlhgjckaa.driveRamp
namespace Go.Proofs.Ytfjeekjlhgjckaa
/-- The row, under a short name, for the claim. -/
theorem driveRamp_holds : Rows.DriveRampSaid := driveRamp.proved
end Go.Proofs.Ytfjeekjlhgjckaa
