/- The row of the law BrokeSums: called with any arguments it answers true, and leaves them as they were. Its plain part stands in YtnkmeocccbkdkaaPureBrokeSums. -/
import Derived.Test.YtnkmeocccbkdkaaRows
import Derived.Test.YtnkmeocccbkdkaaPx47
import Derived.Test.YtnkmeocccbkdkaaPureBrokeSums
import Derived.Test.YtnkmeocccbkdkaaOpen
import Derived.WalkKit
import Derived.ProofKit
import Derived.OpenShut
import Derived.ChangeOld
import Derived.Below
import Derived.SizedLaws
import Derived.Carry
namespace Go.Proofs.Ytnkmeocccbkdkaa.brokeSums
open Go.ChangeShapes Go.WideShapes Go.ChangeAt Go.RowKit Go.Proofs.YtnkmeocccbkdkaaW.PrintWords Go.Proofs.YtnkmeocccbkdkaaW.PrintLast
set_option linter.unusedVariables false
set_option linter.unusedSimpArgs false
theorem own : ownKnob Try.prog.godebug = none := by kernel_rfl
theorem laidOut : laidOutB Try.prog = true := by kernel_rfl
set_option maxRecDepth 100000 in
theorem lifted (os : Os) (started : os.Started) (H : Type) (enc : TypeId × Value → H) :
    ReturnsInHanded {} Try.checked os 4 .any (Rows.brokeSumsSpec.pre6 enc Try.prog Try.f4 Rows.brokeSumsRow.domain false) (Rows.brokeSumsSpec.post enc Try.prog Try.f4 false true false false) := by
  refine returnsInHanded_of_change_sized (C := Try.checked) own started (by kernel_rfl) Try.func4
    (ChangeSpec.witness6 (enc := enc) (C := Try.checked) false ⟨#[], #[.slice none 0 0, .int .i64 0, .int .i64 0], []⟩ 8 (by kernel_rfl) (by kernel_rfl) (by kernel_rfl) (by kernel_rfl)) ?_
  intro W base args ds gs before hval0 hW hcnd hsz0 _
  have hval : ∀ (j : Nat) t v, Try.f4.params[j]? = some t → args[j]? = some v → Value.okWide Try.prog W .any base t v := hval0
  have hW' := hW
  obtain ⟨p, q, hA0, hV, rfl, hfz, hnd⟩ := hW
  have hA : DataW.TrodAll enc Try.prog W 0 (fun _ => true) true Try.f4.params.toList args.toList ds p := hA0
  rw [Try.params4] at hA hval
  obtain ⟨v0, vs0, d0, ds0, p0, q0, hargs, rfl, rfl, h0, r0⟩ := trodAll_cons hA
  obtain ⟨v1, vs1, d1, ds1, p1, q1, rfl, rfl, rfl, h1, r1⟩ := trodAll_cons r0
  obtain ⟨v2, vs2, d2, ds2, p2, q2, rfl, rfl, rfl, h2, r2⟩ := trodAll_cons r1
  obtain ⟨rfl, rfl, rfl⟩ := trodAll_nil r2
  obtain rfl : args = #[v0, v1, v2] := by cases args; simp_all
  obtain ⟨rfl, rfl⟩ := trodVars_none hV
  have k0 := h0
  have lt0 : ∀ x ∈ p0, x.block < W.heap.size := by obtain ⟨m, hm⟩ := k0; exact DataW.trod_lt m _ _ _ hm
  obtain ⟨A0, len0, c0, g0, ev0, hc0, m0, wg0, cell0⟩ := Open.open_rows Try.underlying34 Try.underlying63 (by kernel_rfl) (by kernel_rfl) (by intro f hf; simp at hf; first | (rcases hf with rfl | rfl | rfl | rfl <;> exact Try.underlying3) | (subst hf; exact Try.underlying3)) (hval 0 34 v0 rfl rfl) h0
  subst ev0
  obtain ⟨l0, hl0⟩ : ∃ l : List P.S63, l = (List.range len0).map fun j => (⟨g0 j 0, g0 j 1, g0 j 2, g0 j 3⟩ : P.S63) := ⟨_, rfl⟩
  have hg0 : ∀ j, j < len0 → l0[j]? = some (⟨g0 j 0, g0 j 1, g0 j 2, g0 j 3⟩ : P.S63) := fun j hj => by rw [hl0]; simp [hj]
  have hn0 : len0 = l0.length := by rw [hl0]; simp
  have wl0 : ∀ x ∈ l0, (Lit.int .i64 x.f0).wf = true ∧ (Lit.int .i64 x.f1).wf = true ∧ (Lit.int .i64 x.f2).wf = true ∧ (Lit.int .i64 x.f3).wf = true := by
    intro x hx
    rw [hl0] at hx
    obtain ⟨j, _, rfl⟩ := List.mem_map.1 hx
    exact ⟨wg0 j 0, wg0 j 1, wg0 j 2, wg0 j 3⟩
  clear hl0
  subst hn0
  have hr0 : Kd.C P.k63 W A0 l0.length l0 := by
    refine ⟨rfl, by unfold maxLen at m0; omega, fun hp => ?_⟩
    obtain ⟨ad, rfl, hcell⟩ := cell0 hp
    refine ⟨ad, rfl, fun j p hj => ?_⟩
    have hjl : j < l0.length := (List.getElem?_eq_some_iff.1 hj).1
    obtain rfl : (⟨g0 j 0, g0 j 1, g0 j 2, g0 j 3⟩ : P.S63) = p := Option.some.inj ((hg0 j hjl).symm.trans hj)
    refine ⟨[.int .i64 (g0 j 0), .int .i64 (g0 j 1), .int .i64 (g0 j 2), .int .i64 (g0 j 3)], rfl, P.k63_mk W _, fun i u hu => ?_⟩
    match i, hu with
    | 0, hu => cases hu; exact hcell j 0 hjl (by decide)
    | 1, hu => cases hu; exact hcell j 1 hjl (by decide)
    | 2, hu => cases hu; exact hcell j 2 hjl (by decide)
    | 3, hu => cases hu; exact hcell j 3 hjl (by decide)
    | z + 4, hu => simp at hu
  obtain ⟨a1, rfl, rfl, rfl, w1⟩ := open_int Try.underlying3 (hval 1 3 v1 rfl rfl) h1
  obtain ⟨a2, rfl, rfl, rfl, w2⟩ := open_int Try.underlying3 (hval 2 3 v2 rfl rfl) h2
  clear hA0 hval0 hsz0
  obtain ⟨k, hk⟩ := Pure.BrokeSums l0 a1 a2 m0 wl0 w1 w2
  refine (P.papermilllaw22_BrokeSums.calls k A0 c0 l0 a1 a2 true W hr0 hc0 ⟨rfl⟩ hk).mono fun e W' ⟨he, bel⟩ => ?_
  subst he
  exact ⟨_, rfl, _, _, _, [], _, [], hW', trodAll_mk1 (shut_bool Try.underlying4 _), (trodAll_cons_mk (Below.trod laidOut (by kernel_rfl) (of_decide_eq_true (by kernel_rfl)) k0 bel lt0) (trodAll_cons_mk (shut_int Try.underlying3 w1) (trodAll_cons_mk (shut_int Try.underlying3 w2) trodAll_mk0))), rfl, bel.frame _, fun h => by cases h⟩
theorem over : Rows.brokeSumsRow.holds Try.pinned (OpenSpec.ofChange Rows.brokeSumsSpec) :=
  OpenClaim.holds_of_wide 4 Try.f4 rfl rfl rfl rfl rfl rfl rfl ⟨rfl, rfl, rfl, rfl, rfl⟩ rfl rfl rfl rfl rfl (by kernel_rfl) Try.func4 (by kernel_rfl)
    (of_decide_eq_true (by kernel_rfl)) (by unfold Func.isWrapper; first | (rw [if_pos (by decide +kernel)]; kernel_rfl) | (rw [if_neg (by decide +kernel)]; exact ⟨rfl, rfl⟩))
    (fun os started H enc _ => lifted os started H enc)
theorem proved : Rows.BrokeSumsSaid := over
#print axioms proved
end Go.Proofs.Ytnkmeocccbkdkaa.brokeSums
namespace Go.Proofs.Ytnkmeocccbkdkaa
/-- The row, under a short name, for the claim. -/
theorem brokeSums_holds : Rows.BrokeSumsSaid := brokeSums.proved
end Go.Proofs.Ytnkmeocccbkdkaa
