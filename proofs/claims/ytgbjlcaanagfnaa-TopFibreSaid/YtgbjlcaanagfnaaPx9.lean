-- Written by a program (wip/prog/pp.py) over the kit's print; some of its functions are proved by hand. Not trusted: Lean checks it.
import Derived.Test.YtgbjlcaanagfnaaPx0
import Derived.Test.YtgbjlcaanagfnaaBits
namespace Go.Proofs.Ytgbjlcaanagfnaa.P
open Go.RowKit Go.Proofs.YtgbjlcaanagfnaaW.PrintWords Go.Proofs.YtgbjlcaanagfnaaW.PrintLast Go.Proofs.YtgbjlcaanagfnaaW.PrintMore
attribute [local go_sem] max2_int min2_int max_two min_two max_three min_three max_four min_four   -- for this text's walks alone
set_option linter.unusedVariables false
set_option linter.unusedSimpArgs false

/-! ### share_quotient: function 36 -/
def share_quotient.f (a0 : Int) (a1 : Int) (a2 : Int) : Option (Int × Int) := if a2 = 0 then (some (0, 0)) else ((num_MulDiv.f a0 a1 a2 0).bind fun bt126 => (some (bt126.1, wrap64 ((wrap64 (a0 * a1)) - (wrap64 (bt126.1 * a2))))))
set_option maxHeartbeats 8000000 in
set_option maxRecDepth 100000 in
theorem share_quotient.calls (a0 : Int) (a1 : Int) (a2 : Int) (r1 : Int) (r2 : Int) (w : World) (h : share_quotient.f a0 a1 a2 = some (r1, r2)) :
  Calls Try.prog 36 #[.int .i64 a0, .int .i64 a1, .int .i64 a2] w fun e w' => e = .returned (.tuple #[.int .i64 r1, .int .i64 r2]) ∧ Below w.heap.size w w' := by
 have HB := Aside0.mk (Below.refl w.heap.size w)
 have H : (if a2 = 0 then (some (0, 0)) else ((num_MulDiv.f a0 a1 a2 0).bind fun bt126 => (some (bt126.1, wrap64 ((wrap64 (a0 * a1)) - (wrap64 (bt126.1 * a2))))))) = some (r1, r2) := h
 clear h
 by_cases c4 : a2 = 0
 ·rw [if_pos c4] at H
  have c4b0 : (a2 == 0) = true := beq_iff_eq.mpr c4
  have c4b1 : (a2 != 0) = false := bne_eq_false_iff_eq.mpr c4
  clear c4
  simp only [Option.some.injEq, Prod.mk.injEq] at H
  obtain ⟨rfl, rfl⟩ := H
  go_enter Try.func36, Try.ntmps36
  go_wp2
  go_ret2
  exact ⟨by first | rfl | (simp [errW_none, errW_some] <;> rfl) | (simp [*, errW_none, errW_some] <;> rfl), by repeat (first | (with_reducible first | exact HB.out | apply below_alloc | apply pw_below_drewN | apply below_drew1) | exact HB.out)⟩
 ·rw [if_neg c4] at H
  have c4b0 : (a2 == 0) = false := beq_eq_false_iff_ne.mpr c4
  have c4b1 : (a2 != 0) = true := bne_iff_ne.mpr c4
  replace H := Option.bind_eq_some_iff.mp H
  obtain ⟨⟨t126, t127⟩, A50, H⟩ := H
  replace H : (some (t126, wrap64 ((wrap64 (a0 * a1)) - (wrap64 (t126 * a2))))) = some (r1, r2) := H
  have A5 := Aside0.mk A50
  clear A50
  simp only [Option.some.injEq, Prod.mk.injEq] at H
  obtain ⟨rfl, rfl⟩ := H
  go_enter Try.func36, Try.ntmps36
  go_wp2_with (first | ((with_reducible refine gate_callee (f := 55) rfl ?_); refine goesL_ (some 16) rfl rfl Try.func55 (by kernel_rfl) rfl #[.int .i64 a0, .int .i64 a1, .int .i64 a2, .int .i64 0] rfl (by (try simp only [List.map_toArray, List.map_cons, List.map_nil]); first | done | rfl | (simp only [List.length_drop, List.length_take]; rfl)) ?_; (with_reducible refine (num_MulDiv.calls a0 a1 a2 0 t126 t127 _ A5.out).mono ?_); rintro e w6 ⟨rfl, hb⟩; refine ⟨_, rfl, ?_⟩; have n0_ := Aside0.mk (below_step (by repeat (first | (with_reducible first | exact HB.out | apply below_alloc | apply pw_below_drewN | apply below_drew1) | exact HB.out)) hb); clear HB; have HB := n0_; clear n0_; (try clear hb); (try clear hb2); (try clear hk); (try clear hi)))
  go_ret2
  exact ⟨by first | rfl | (simp [errW_none, errW_some] <;> rfl) | (simp [*, errW_none, errW_some] <;> rfl), by repeat (first | (with_reducible first | exact HB.out | apply below_alloc | apply pw_below_drewN | apply below_drew1) | exact HB.out)⟩

-- NOT PRINTED: function 64 (slices_insertionSortCmpFunc_int)

-- NOT PRINTED: function 68 (slices_swapRangeCmpFunc_int)

-- NOT PRINTED: function 67 (slices_rotateCmpFunc_int)

-- NOT PRINTED: function 65 (slices_symMergeCmpFunc_int)

-- NOT PRINTED: function 56 (slices_stableCmpFunc_int)

-- NOT PRINTED: function 37 (slices_SortStableFunc_int_int)

end Go.Proofs.Ytgbjlcaanagfnaa.P
