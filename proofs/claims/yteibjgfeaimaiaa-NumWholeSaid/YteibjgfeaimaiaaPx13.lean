-- Written by a program (wip/prog/pp.py) over the kit's print; some of its functions are proved by hand. Not trusted: Lean checks it.
import Derived.Test.YteibjgfeaimaiaaPx0
import Derived.Test.YteibjgfeaimaiaaPx6
import Derived.Test.YteibjgfeaimaiaaHandMulDiv
namespace Go.Proofs.Yteibjgfeaimaiaa.P
open Go.RowKit Go.Proofs.YteibjgfeaimaiaaW.PrintWords Go.Proofs.YteibjgfeaimaiaaW.PrintLast Go.Proofs.YteibjgfeaimaiaaW.PrintMore
attribute [local go_sem] max2_int min2_int max_two min_two max_three min_three max_four min_four   -- for this text's walks alone
set_option linter.unusedVariables false
set_option linter.unusedSimpArgs false

/-! ### papermilllaw01_NumWhole: function 7 -/
def papermilllaw01_NumWhole.f (k : Nat) (a0 : Int) (a1 : Int) (a2 : Int) : Option (Bool) := if (Int.tmod a1 1125899906842625) = 0 then ((papermilllaw01_awake.f k).bind fun t217 => (some t217)) else ((num_MulDiv.f (Int.tmod a0 1125899906842625) (Int.tmod a1 1125899906842625) (Int.tmod a1 1125899906842625) (wrap64 (Int.tmod a2 3))).bind fun bt218 => ((num_MulDiv.f (Int.tmod a1 1125899906842625) (Int.tmod a0 1125899906842625) (Int.tmod a1 1125899906842625) (wrap64 (Int.tmod a2 3))).bind fun bt220 => (if bt218.1 = (Int.tmod a0 1125899906842625) then (if bt218.2 = 0 then (if bt220.1 = (Int.tmod a0 1125899906842625) then (if bt220.2 = 0 then ((papermilllaw01_awake.f k).bind fun t222 => (some t222)) else (some false)) else (some false)) else (some false)) else (some false))))
theorem papermilllaw01_NumWhole.mono : ∀ a0 a1 a2 k, LeO (papermilllaw01_NumWhole.f k a0 a1 a2) (papermilllaw01_NumWhole.f (k + 1) a0 a1 a2) := by
  intro a0 a1 a2 k
  unfold papermilllaw01_NumWhole.f
  repeat' first
      | (with_reducible exact papermilllaw01_awake.mono _)
      | (with_reducible exact LeO.refl _)
      | (with_reducible exact LeO.none _)
      | (with_reducible refine LeO.ite ?_ ?_)
      | (with_reducible refine LeO.bind ?_ (fun _ => ?_))
      | exact papermilllaw01_awake.mono _
      | exact LeO.none _
      | refine LeO.ite ?_ ?_
      | refine LeO.bind ?_ (fun _ => ?_)
set_option maxHeartbeats 8000000 in
set_option maxRecDepth 100000 in
theorem papermilllaw01_NumWhole.calls (k : Nat) (a0 : Int) (a1 : Int) (a2 : Int) (r : Bool) (w : World) (hr_ : Aside0 (r = true)) (h : papermilllaw01_NumWhole.f k a0 a1 a2 = some r) :
    Calls Try.prog 7 #[.int .i64 a0, .int .i64 a1, .int .u8 a2] w fun e w' => e = .returned (.bool r) ∧ Below w.heap.size w w' := by
  have HB := Aside0.mk (Below.refl w.heap.size w)
  have H : (if (Int.tmod a1 1125899906842625) = 0 then ((papermilllaw01_awake.f k).bind fun t217 => (some t217)) else ((num_MulDiv.f (Int.tmod a0 1125899906842625) (Int.tmod a1 1125899906842625) (Int.tmod a1 1125899906842625) (wrap64 (Int.tmod a2 3))).bind fun bt218 => ((num_MulDiv.f (Int.tmod a1 1125899906842625) (Int.tmod a0 1125899906842625) (Int.tmod a1 1125899906842625) (wrap64 (Int.tmod a2 3))).bind fun bt220 => (if bt218.1 = (Int.tmod a0 1125899906842625) then (if bt218.2 = 0 then (if bt220.1 = (Int.tmod a0 1125899906842625) then (if bt220.2 = 0 then ((papermilllaw01_awake.f k).bind fun t222 => (some t222)) else (some false)) else (some false)) else (some false)) else (some false))))) = some r := h
  clear h
  by_cases c4 : (Int.tmod a1 1125899906842625) = 0
  · rw [if_pos c4] at H
    have c4b0 : ((Int.tmod a1 1125899906842625) == 0) = true := beq_iff_eq.mpr c4
    have c4b1 : ((Int.tmod a1 1125899906842625) != 0) = false := bne_eq_false_iff_eq.mpr c4
    clear c4
    replace H := Option.bind_eq_some_iff.mp H
    obtain ⟨t217, A50, H⟩ := H
    replace H : (some t217) = some r := H
    have A5 := Aside0.mk A50
    clear A50
    first
      | exact absurd ((Option.some.inj H).trans hr_.out) (by decide)
      | (skip
         obtain rfl := Option.some.inj H
         go_enter Try.func7, Try.ntmps7
         go_wp2_with (first | ((with_reducible refine gate_callee (f := 12) rfl ?_); refine goesL_ (some 19) rfl rfl Try.func12 (by kernel_rfl) rfl #[] rfl (by (try simp only [List.map_toArray, List.map_cons, List.map_nil]); first | done | rfl | (simp only [List.length_drop, List.length_take]; rfl)) ?_; (with_reducible refine (papermilllaw01_awake.calls k  t217 _ A5.out).mono ?_); rintro e w6 ⟨rfl, hb⟩; refine ⟨_, rfl, ?_⟩; have n0_ := Aside0.mk (below_step (by repeat (first | (with_reducible first | exact HB.out | apply below_alloc | apply pw_below_drewN | apply below_drew1) | exact HB.out)) hb); clear HB; have HB := n0_; clear n0_; (try clear hb); (try clear hb2); (try clear hk); (try clear hi)))
         go_ret
         exact ⟨by first | rfl | (simp [errW_none, errW_some] <;> rfl) | (simp [*, errW_none, errW_some] <;> rfl), by repeat (first | (with_reducible first | exact HB.out | apply below_alloc | apply pw_below_drewN | apply below_drew1) | exact HB.out)⟩)
  · rw [if_neg c4] at H
    have c4b0 : ((Int.tmod a1 1125899906842625) == 0) = false := beq_eq_false_iff_ne.mpr c4
    have c4b1 : ((Int.tmod a1 1125899906842625) != 0) = true := bne_iff_ne.mpr c4
    replace H := Option.bind_eq_some_iff.mp H
    obtain ⟨⟨t218, t219⟩, A70, H⟩ := H
    replace H : ((num_MulDiv.f (Int.tmod a1 1125899906842625) (Int.tmod a0 1125899906842625) (Int.tmod a1 1125899906842625) (wrap64 (Int.tmod a2 3))).bind fun bt220 => (if t218 = (Int.tmod a0 1125899906842625) then (if t219 = 0 then (if bt220.1 = (Int.tmod a0 1125899906842625) then (if bt220.2 = 0 then ((papermilllaw01_awake.f k).bind fun t222 => (some t222)) else (some false)) else (some false)) else (some false)) else (some false))) = some r := H
    have A7 := Aside0.mk A70
    clear A70
    replace H := Option.bind_eq_some_iff.mp H
    obtain ⟨⟨t220, t221⟩, A80, H⟩ := H
    replace H : (if t218 = (Int.tmod a0 1125899906842625) then (if t219 = 0 then (if t220 = (Int.tmod a0 1125899906842625) then (if t221 = 0 then ((papermilllaw01_awake.f k).bind fun t222 => (some t222)) else (some false)) else (some false)) else (some false)) else (some false)) = some r := H
    have A8 := Aside0.mk A80
    clear A80
    by_cases c9 : t218 = (Int.tmod a0 1125899906842625)
    · rw [if_pos c9] at H
      have c9b0 : (t218 == (Int.tmod a0 1125899906842625)) = true := beq_iff_eq.mpr c9
      have c9b1 : (t218 != (Int.tmod a0 1125899906842625)) = false := bne_eq_false_iff_eq.mpr c9
      clear c9
      by_cases c10 : t219 = 0
      · rw [if_pos c10] at H
        have c10b0 : (t219 == 0) = true := beq_iff_eq.mpr c10
        have c10b1 : (t219 != 0) = false := bne_eq_false_iff_eq.mpr c10
        clear c10
        by_cases c11 : t220 = (Int.tmod a0 1125899906842625)
        · rw [if_pos c11] at H
          have c11b0 : (t220 == (Int.tmod a0 1125899906842625)) = true := beq_iff_eq.mpr c11
          have c11b1 : (t220 != (Int.tmod a0 1125899906842625)) = false := bne_eq_false_iff_eq.mpr c11
          clear c11
          by_cases c12 : t221 = 0
          · rw [if_pos c12] at H
            have c12b0 : (t221 == 0) = true := beq_iff_eq.mpr c12
            have c12b1 : (t221 != 0) = false := bne_eq_false_iff_eq.mpr c12
            clear c12
            replace H := Option.bind_eq_some_iff.mp H
            obtain ⟨t222, A130, H⟩ := H
            replace H : (some t222) = some r := H
            have A13 := Aside0.mk A130
            clear A130
            first
              | exact absurd ((Option.some.inj H).trans hr_.out) (by decide)
              | (skip
                 obtain rfl := Option.some.inj H
                 go_enter Try.func7, Try.ntmps7
                 go_wp2_with (first | ((with_reducible refine gate_callee (f := 15) rfl ?_); refine goesL_ (some 27) rfl rfl Try.func15 (by kernel_rfl) rfl #[.int .i64 (Int.tmod a0 1125899906842625), .int .i64 (Int.tmod a1 1125899906842625), .int .i64 (Int.tmod a1 1125899906842625), .int .i64 (wrap64 (Int.tmod a2 3))] rfl (by (try simp only [List.map_toArray, List.map_cons, List.map_nil]); first | done | rfl | (simp only [List.length_drop, List.length_take]; rfl)) ?_; (with_reducible refine (num_MulDiv.calls (Int.tmod a0 1125899906842625) (Int.tmod a1 1125899906842625) (Int.tmod a1 1125899906842625) (wrap64 (Int.tmod a2 3)) t218 t219 _ A7.out).mono ?_); rintro e w14 ⟨rfl, hb⟩; refine ⟨_, rfl, ?_⟩; have n0_ := Aside0.mk (below_step (by repeat (first | (with_reducible first | exact HB.out | apply below_alloc | apply pw_below_drewN | apply below_drew1) | exact HB.out)) hb); clear HB; have HB := n0_; clear n0_; (try clear hb); (try clear hb2); (try clear hk); (try clear hi)) | ((with_reducible refine gate_callee (f := 15) rfl ?_); refine goesL_ (some 37) rfl rfl Try.func15 (by kernel_rfl) rfl #[.int .i64 (Int.tmod a1 1125899906842625), .int .i64 (Int.tmod a0 1125899906842625), .int .i64 (Int.tmod a1 1125899906842625), .int .i64 (wrap64 (Int.tmod a2 3))] rfl (by (try simp only [List.map_toArray, List.map_cons, List.map_nil]); first | done | rfl | (simp only [List.length_drop, List.length_take]; rfl)) ?_; (with_reducible refine (num_MulDiv.calls (Int.tmod a1 1125899906842625) (Int.tmod a0 1125899906842625) (Int.tmod a1 1125899906842625) (wrap64 (Int.tmod a2 3)) t220 t221 _ A8.out).mono ?_); rintro e w15 ⟨rfl, hb⟩; refine ⟨_, rfl, ?_⟩; have n0_ := Aside0.mk (below_step (by repeat (first | (with_reducible first | exact HB.out | apply below_alloc | apply pw_below_drewN | apply below_drew1) | exact HB.out)) hb); clear HB; have HB := n0_; clear n0_; (try clear hb); (try clear hb2); (try clear hk); (try clear hi)) | (go_at_call 12; (with_reducible refine (papermilllaw01_awake.calls k  t222 _ A13.out).mono ?_); rintro e w16 ⟨rfl, hb⟩; have n0_ := Aside0.mk (below_step (by repeat (first | (with_reducible first | exact HB.out | apply below_alloc | apply pw_below_drewN | apply below_drew1) | exact HB.out)) hb); clear HB; have HB := n0_; clear n0_; (try clear hb); (try clear hb2); (try clear hk); (try clear hi)))
                 go_ret
                 exact ⟨by first | rfl | (simp [errW_none, errW_some] <;> rfl) | (simp [*, errW_none, errW_some] <;> rfl), by repeat (first | (with_reducible first | exact HB.out | apply below_alloc | apply pw_below_drewN | apply below_drew1) | exact HB.out)⟩)
          · rw [if_neg c12] at H
            have c12b0 : (t221 == 0) = false := beq_eq_false_iff_ne.mpr c12
            have c12b1 : (t221 != 0) = true := bne_iff_ne.mpr c12
            exact absurd ((Option.some.inj H).trans hr_.out) (by decide)
        · rw [if_neg c11] at H
          have c11b0 : (t220 == (Int.tmod a0 1125899906842625)) = false := beq_eq_false_iff_ne.mpr c11
          have c11b1 : (t220 != (Int.tmod a0 1125899906842625)) = true := bne_iff_ne.mpr c11
          exact absurd ((Option.some.inj H).trans hr_.out) (by decide)
      · rw [if_neg c10] at H
        have c10b0 : (t219 == 0) = false := beq_eq_false_iff_ne.mpr c10
        have c10b1 : (t219 != 0) = true := bne_iff_ne.mpr c10
        exact absurd ((Option.some.inj H).trans hr_.out) (by decide)
    · rw [if_neg c9] at H
      have c9b0 : (t218 == (Int.tmod a0 1125899906842625)) = false := beq_eq_false_iff_ne.mpr c9
      have c9b1 : (t218 != (Int.tmod a0 1125899906842625)) = true := bne_iff_ne.mpr c9
      exact absurd ((Option.some.inj H).trans hr_.out) (by decide)

/-- THE ONE PURE STATEMENT of papermilllaw01_NumWhole: yours. -/
def papermilllaw01_NumWhole.Pure : Prop := ∀ (a0 : Int) (a1 : Int) (a2 : Int), (Lit.int .i64 a0).wf = true → (Lit.int .i64 a1).wf = true → (Lit.int .u8 a2).wf = true → ∃ k, papermilllaw01_NumWhole.f k a0 a1 a2 = some true
theorem papermilllaw01_NumWhole.walk (P : papermilllaw01_NumWhole.Pure) (a0 : Int) (a1 : Int) (a2 : Int) (w : World) (w0 : (Lit.int .i64 a0).wf = true) (w1 : (Lit.int .i64 a1).wf = true) (w2 : (Lit.int .u8 a2).wf = true) :
    Calls Try.prog 7 #[.int .i64 a0, .int .i64 a1, .int .u8 a2] w fun e w' => e = .returned (.bool true) ∧ Below w.heap.size w w' := by
  obtain ⟨k, h⟩ := P a0 a1 a2 w0 w1 w2
  refine (papermilllaw01_NumWhole.calls k a0 a1 a2 true w ⟨rfl⟩ h).mono ?_
  rintro e w' ⟨rfl, hd⟩
  exact ⟨rfl, hd⟩

end Go.Proofs.Yteibjgfeaimaiaa.P
