/- The row of the law AlignThins: called with any arguments it answers true, and leaves them as they were. Its plain part stands in YthdjlejljipjmaaPureAlignThins. -/
import Derived.Test.YthdjlejljipjmaaRows
import Derived.Test.YthdjlejljipjmaaPx25
import Derived.Test.YthdjlejljipjmaaPureAlignThins
import Derived.Test.YthdjlejljipjmaaOpen
import Derived.WalkKit
import Derived.ProofKit
import Derived.OpenShut
import Derived.ChangeOld
import Derived.Below
import Derived.SizedLaws
import Derived.Carry
namespace Go.Proofs.Ythdjlejljipjmaa.alignThins
open Go.ChangeShapes Go.WideShapes Go.ChangeAt Go.RowKit Go.Proofs.YthdjlejljipjmaaW.PrintWords Go.Proofs.YthdjlejljipjmaaW.PrintLast
set_option linter.unusedVariables false
set_option linter.unusedSimpArgs false
theorem own : ownKnob Try.prog.godebug = none := by kernel_rfl
theorem laidOut : laidOutB Try.prog = true := by kernel_rfl
set_option maxRecDepth 100000 in
theorem lifted (os : Os) (started : os.Started) (H : Type) (enc : TypeId × Value → H) :
    ReturnsInHanded {} Try.checked os 7 .any (Rows.alignThinsSpec.pre6 enc Try.prog Try.f7 Rows.alignThinsRow.domain false) (Rows.alignThinsSpec.post enc Try.prog Try.f7 false true false false) := by
  refine returnsInHanded_of_change_sized (C := Try.checked) own started (by kernel_rfl) Try.func7
    (ChangeSpec.witness6 (enc := enc) (C := Try.checked) false ⟨#[], #[.slice none 0 0], []⟩ 8 (by kernel_rfl) (by kernel_rfl) (by kernel_rfl) (by kernel_rfl)) ?_
  intro W base args ds gs before hval0 hW hcnd hsz0 _
  have hval : ∀ (j : Nat) t v, Try.f7.params[j]? = some t → args[j]? = some v → Value.okWide Try.prog W .any base t v := hval0
  have hW' := hW
  obtain ⟨p, q, hA0, hV, rfl, hfz, hnd⟩ := hW
  have hA : DataW.TrodAll enc Try.prog W 0 (fun _ => true) true Try.f7.params.toList args.toList ds p := hA0
  rw [Try.params7] at hA hval
  obtain ⟨v0, vs0, d0, ds0, p0, q0, hargs, rfl, rfl, h0, r0⟩ := trodAll_cons hA
  obtain ⟨rfl, rfl, rfl⟩ := trodAll_nil r0
  obtain rfl : args = #[v0] := by cases args; simp_all
  obtain ⟨rfl, rfl⟩ := trodVars_none hV
  have k0 := h0
  have lt0 : ∀ x ∈ p0, x.block < W.heap.size := by obtain ⟨m, hm⟩ := k0; exact DataW.trod_lt m _ _ _ hm
  obtain ⟨A0, len0, c0, g0, ev0, hc0, m0, wg0, cell0⟩ := Open.open_rows Try.underlying22 Try.underlying41 (by kernel_rfl) (by kernel_rfl) (by intro f hf; simp at hf; first | (rcases hf with rfl | rfl <;> exact Try.underlying3) | (subst hf; exact Try.underlying3)) (hval 0 22 v0 rfl rfl) h0
  subst ev0
  obtain ⟨l0, hl0⟩ : ∃ l : List P.S41, l = (List.range len0).map fun j => (⟨g0 j 0, g0 j 1⟩ : P.S41) := ⟨_, rfl⟩
  have hg0 : ∀ j, j < len0 → l0[j]? = some (⟨g0 j 0, g0 j 1⟩ : P.S41) := fun j hj => by rw [hl0]; simp [hj]
  have hn0 : len0 = l0.length := by rw [hl0]; simp
  have wl0 : ∀ x ∈ l0, (Lit.int .i64 x.f0).wf = true ∧ (Lit.int .i64 x.f1).wf = true := by
    intro x hx
    rw [hl0] at hx
    obtain ⟨j, _, rfl⟩ := List.mem_map.1 hx
    exact ⟨wg0 j 0, wg0 j 1⟩
  clear hl0
  subst hn0
  have hr0 : Kd.C P.k41 W A0 l0.length l0 := by
    refine ⟨rfl, by unfold maxLen at m0; omega, fun hp => ?_⟩
    obtain ⟨ad, rfl, hcell⟩ := cell0 hp
    refine ⟨ad, rfl, fun j p hj => ?_⟩
    have hjl : j < l0.length := (List.getElem?_eq_some_iff.1 hj).1
    obtain rfl : (⟨g0 j 0, g0 j 1⟩ : P.S41) = p := Option.some.inj ((hg0 j hjl).symm.trans hj)
    refine ⟨[.int .i64 (g0 j 0), .int .i64 (g0 j 1)], rfl, P.k41_mk W _, fun i u hu => ?_⟩
    match i, hu with
    | 0, hu => cases hu; exact hcell j 0 hjl (by decide)
    | 1, hu => cases hu; exact hcell j 1 hjl (by decide)
    | z + 2, hu => simp at hu
  clear hA0 hval0 hsz0
  obtain ⟨k, hk⟩ := Pure.AlignThins l0 m0 wl0
  refine (P.papermilllaw14_AlignThins.calls k A0 c0 l0 true W hr0 hc0 ⟨rfl⟩ hk).mono fun e W' ⟨he, bel⟩ => ?_
  subst he
  exact ⟨_, rfl, _, _, _, [], _, [], hW', trodAll_mk1 (shut_bool Try.underlying4 _), (trodAll_cons_mk (Below.trod laidOut (by kernel_rfl) (of_decide_eq_true (by kernel_rfl)) k0 bel lt0) trodAll_mk0), rfl, bel.frame _, fun h => by cases h⟩
theorem over : Rows.alignThinsRow.holds Try.pinned (OpenSpec.ofChange Rows.alignThinsSpec) :=
  OpenClaim.holds_of_wide 7 Try.f7 rfl rfl rfl rfl rfl rfl rfl ⟨rfl, rfl, rfl, rfl, rfl⟩ rfl rfl rfl rfl rfl (by kernel_rfl) Try.func7 (by kernel_rfl)
    (of_decide_eq_true (by kernel_rfl)) (by unfold Func.isWrapper; first | (rw [if_pos (by decide +kernel)]; kernel_rfl) | (rw [if_neg (by decide +kernel)]; exact ⟨rfl, rfl⟩))
    (fun os started H enc _ => lifted os started H enc)
theorem proved : Rows.AlignThinsSaid := over
#print axioms proved
end Go.Proofs.Ythdjlejljipjmaa.alignThins
namespace Go.Proofs.Ythdjlejljipjmaa
/-- The row, under a short name, for the claim. -/
theorem alignThins_holds : Rows.AlignThinsSaid := alignThins.proved
end Go.Proofs.Ythdjlejljipjmaa
