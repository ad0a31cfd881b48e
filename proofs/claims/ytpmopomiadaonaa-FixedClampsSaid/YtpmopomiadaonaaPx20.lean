-- Written by a program (wip/prog/pp.py) over the kit's print; some of its functions are proved by hand. Not trusted: Lean checks it.
import Derived.Test.YtpmopomiadaonaaPx0
import Derived.Test.YtpmopomiadaonaaPx9
import Derived.Test.YtpmopomiadaonaaPx18
namespace Go.Proofs.Ytpmopomiadaonaa.P
open Go.RowKit Go.Proofs.YtpmopomiadaonaaW.PrintWords Go.Proofs.YtpmopomiadaonaaW.PrintLast Go.Proofs.YtpmopomiadaonaaW.PrintMore
attribute [local go_sem] max2_int min2_int max_two min_two max_three min_three max_four min_four   -- for this text's walks alone
set_option linter.unusedVariables false
set_option linter.unusedSimpArgs false

/-! ### papermilllaw23_FixedClamps: function 11 -/
def papermilllaw23_FixedClamps.f (k : Nat) (a0 : Int) (a1 : Int) (a2 : Int) : Option (Bool) := (fixed_Clamp.f k a0 a1 a2).bind fun bt272 => (if bt272.2 = 0 then ((fixed_Clamp.f k bt272.1 a1 a2).bind fun bt274 => (if bt272.1 ≥ a1 then (if bt272.1 ≤ a2 then (if bt272.1 = a0 then (if bt274.2 = 0 then (if bt274.1 = bt272.1 then ((papermilllaw23_awake.f k).bind fun t276 => (some t276)) else (some false)) else (some false)) else (if bt272.1 = a1 then (if a0 < a1 then (if bt274.2 = 0 then (if bt274.1 = bt272.1 then ((papermilllaw23_awake.f k).bind fun t277 => (some t277)) else (some false)) else (some false)) else (if bt272.1 = a2 then (if a0 > a2 then (if bt274.2 = 0 then (if bt274.1 = bt272.1 then ((papermilllaw23_awake.f k).bind fun t278 => (some t278)) else (some false)) else (some false)) else (some false)) else (some false))) else (if bt272.1 = a2 then (if a0 > a2 then (if bt274.2 = 0 then (if bt274.1 = bt272.1 then ((papermilllaw23_awake.f k).bind fun t279 => (some t279)) else (some false)) else (some false)) else (some false)) else (some false)))) else (some false)) else (some false))) else (if bt272.1 = 0 then ((papermilllaw23_awake.f k).bind fun t280 => (some t280)) else (some false)))
theorem papermilllaw23_FixedClamps.mono : ∀ a0 a1 a2 k, LeO (papermilllaw23_FixedClamps.f k a0 a1 a2) (papermilllaw23_FixedClamps.f (k + 1) a0 a1 a2) := by
  intro a0 a1 a2 k
  unfold papermilllaw23_FixedClamps.f
  repeat' first
      | (with_reducible exact fixed_Clamp.mono _ _ _ _)
      | (with_reducible exact papermilllaw23_awake.mono _)
      | (with_reducible exact LeO.refl _)
      | (with_reducible exact LeO.none _)
      | (with_reducible refine LeO.ite ?_ ?_)
      | (with_reducible refine LeO.bind ?_ (fun _ => ?_))
      | exact fixed_Clamp.mono _ _ _ _
      | exact papermilllaw23_awake.mono _
      | exact LeO.none _
      | refine LeO.ite ?_ ?_
      | refine LeO.bind ?_ (fun _ => ?_)
set_option maxHeartbeats 8000000 in
set_option maxRecDepth 100000 in
theorem papermilllaw23_FixedClamps.calls (k : Nat) (a0 : Int) (a1 : Int) (a2 : Int) (r : Bool) (w : World) (hr_ : Aside0 (r = true)) (h : papermilllaw23_FixedClamps.f k a0 a1 a2 = some r) :
    Calls Try.prog 11 #[.int .i64 a0, .int .i64 a1, .int .i64 a2] w fun e w' => e = .returned (.bool r) ∧ Below w.heap.size w w' := by
  have HB := Aside0.mk (Below.refl w.heap.size w)
  have H : ((fixed_Clamp.f k a0 a1 a2).bind fun bt272 => (if bt272.2 = 0 then ((fixed_Clamp.f k bt272.1 a1 a2).bind fun bt274 => (if bt272.1 ≥ a1 then (if bt272.1 ≤ a2 then (if bt272.1 = a0 then (if bt274.2 = 0 then (if bt274.1 = bt272.1 then ((papermilllaw23_awake.f k).bind fun t276 => (some t276)) else (some false)) else (some false)) else (if bt272.1 = a1 then (if a0 < a1 then (if bt274.2 = 0 then (if bt274.1 = bt272.1 then ((papermilllaw23_awake.f k).bind fun t277 => (some t277)) else (some false)) else (some false)) else (if bt272.1 = a2 then (if a0 > a2 then (if bt274.2 = 0 then (if bt274.1 = bt272.1 then ((papermilllaw23_awake.f k).bind fun t278 => (some t278)) else (some false)) else (some false)) else (some false)) else (some false))) else (if bt272.1 = a2 then (if a0 > a2 then (if bt274.2 = 0 then (if bt274.1 = bt272.1 then ((papermilllaw23_awake.f k).bind fun t279 => (some t279)) else (some false)) else (some false)) else (some false)) else (some false)))) else (some false)) else (some false))) else (if bt272.1 = 0 then ((papermilllaw23_awake.f k).bind fun t280 => (some t280)) else (some false)))) = some r := h
  clear h
  replace H := Option.bind_eq_some_iff.mp H
  obtain ⟨⟨t272, t273⟩, A40, H⟩ := H
  replace H : (if t273 = 0 then ((fixed_Clamp.f k t272 a1 a2).bind fun bt274 => (if t272 ≥ a1 then (if t272 ≤ a2 then (if t272 = a0 then (if bt274.2 = 0 then (if bt274.1 = t272 then ((papermilllaw23_awake.f k).bind fun t276 => (some t276)) else (some false)) else (some false)) else (if t272 = a1 then (if a0 < a1 then (if bt274.2 = 0 then (if bt274.1 = t272 then ((papermilllaw23_awake.f k).bind fun t277 => (some t277)) else (some false)) else (some false)) else (if t272 = a2 then (if a0 > a2 then (if bt274.2 = 0 then (if bt274.1 = t272 then ((papermilllaw23_awake.f k).bind fun t278 => (some t278)) else (some false)) else (some false)) else (some false)) else (some false))) else (if t272 = a2 then (if a0 > a2 then (if bt274.2 = 0 then (if bt274.1 = t272 then ((papermilllaw23_awake.f k).bind fun t279 => (some t279)) else (some false)) else (some false)) else (some false)) else (some false)))) else (some false)) else (some false))) else (if t272 = 0 then ((papermilllaw23_awake.f k).bind fun t280 => (some t280)) else (some false))) = some r := H
  have A4 := Aside0.mk A40
  clear A40
  by_cases c5 : t273 = 0
  · rw [if_pos c5] at H
    have c5b0 : (t273 == 0) = true := beq_iff_eq.mpr c5
    have c5b1 : (t273 != 0) = false := bne_eq_false_iff_eq.mpr c5
    clear c5
    replace H := Option.bind_eq_some_iff.mp H
    obtain ⟨⟨t274, t275⟩, A60, H⟩ := H
    replace H : (if t272 ≥ a1 then (if t272 ≤ a2 then (if t272 = a0 then (if t275 = 0 then (if t274 = t272 then ((papermilllaw23_awake.f k).bind fun t276 => (some t276)) else (some false)) else (some false)) else (if t272 = a1 then (if a0 < a1 then (if t275 = 0 then (if t274 = t272 then ((papermilllaw23_awake.f k).bind fun t277 => (some t277)) else (some false)) else (some false)) else (if t272 = a2 then (if a0 > a2 then (if t275 = 0 then (if t274 = t272 then ((papermilllaw23_awake.f k).bind fun t278 => (some t278)) else (some false)) else (some false)) else (some false)) else (some false))) else (if t272 = a2 then (if a0 > a2 then (if t275 = 0 then (if t274 = t272 then ((papermilllaw23_awake.f k).bind fun t279 => (some t279)) else (some false)) else (some false)) else (some false)) else (some false)))) else (some false)) else (some false)) = some r := H
    have A6 := Aside0.mk A60
    clear A60
    by_cases c7 : t272 ≥ a1
    · rw [if_pos c7] at H
      have c7b0 : decide (a1 ≤ t272) = true := decide_eq_true c7
      clear c7
      by_cases c8 : t272 ≤ a2
      · rw [if_pos c8] at H
        have c8b0 : decide (t272 ≤ a2) = true := decide_eq_true c8
        clear c8
        by_cases c9 : t272 = a0
        · rw [if_pos c9] at H
          have c9b0 : (t272 == a0) = true := beq_iff_eq.mpr c9
          have c9b1 : (t272 != a0) = false := bne_eq_false_iff_eq.mpr c9
          clear c9
          by_cases c10 : t275 = 0
          · rw [if_pos c10] at H
            have c10b0 : (t275 == 0) = true := beq_iff_eq.mpr c10
            have c10b1 : (t275 != 0) = false := bne_eq_false_iff_eq.mpr c10
            clear c10
            by_cases c11 : t274 = t272
            · rw [if_pos c11] at H
              have c11b0 : (t274 == t272) = true := beq_iff_eq.mpr c11
              have c11b1 : (t274 != t272) = false := bne_eq_false_iff_eq.mpr c11
              clear c11
              replace H := Option.bind_eq_some_iff.mp H
              obtain ⟨t276, A120, H⟩ := H
              replace H : (some t276) = some r := H
              have A12 := Aside0.mk A120
              clear A120
              first
                | exact absurd ((Option.some.inj H).trans hr_.out) (by decide)
                | (skip
                   obtain rfl := Option.some.inj H
                   go_enter Try.func11, Try.ntmps11
                   go_wp2_with (first | ((with_reducible refine gate_callee (f := 26) rfl ?_); refine goesL_ (some 15) rfl rfl Try.func26 (by kernel_rfl) rfl #[.int .i64 a0, .int .i64 a1, .int .i64 a2] rfl (by (try simp only [List.map_toArray, List.map_cons, List.map_nil]); first | done | rfl | (simp only [List.length_drop, List.length_take]; rfl)) ?_; (with_reducible refine (fixed_Clamp.calls k a0 a1 a2 t272 t273 _ A4.out).mono ?_); rintro e w13 ⟨rfl, hb⟩; refine ⟨_, rfl, ?_⟩; have n0_ := Aside0.mk (below_step (by repeat (first | (with_reducible first | exact HB.out | apply below_alloc | apply pw_below_drewN | apply below_drew1) | exact HB.out)) hb); clear HB; have HB := n0_; clear n0_; (try clear hb); (try clear hb2); (try clear hk); (try clear hi)) | ((with_reducible refine gate_callee (f := 26) rfl ?_); refine goesL_ (some 29) rfl rfl Try.func26 (by kernel_rfl) rfl #[.int .i64 t272, .int .i64 a1, .int .i64 a2] rfl (by (try simp only [List.map_toArray, List.map_cons, List.map_nil]); first | done | rfl | (simp only [List.length_drop, List.length_take]; rfl)) ?_; (with_reducible refine (fixed_Clamp.calls k t272 a1 a2 t274 t275 _ A6.out).mono ?_); rintro e w14 ⟨rfl, hb⟩; refine ⟨_, rfl, ?_⟩; have n0_ := Aside0.mk (below_step (by repeat (first | (with_reducible first | exact HB.out | apply below_alloc | apply pw_below_drewN | apply below_drew1) | exact HB.out)) hb); clear HB; have HB := n0_; clear n0_; (try clear hb); (try clear hb2); (try clear hk); (try clear hi)) | (go_at_call 16; (with_reducible refine (papermilllaw23_awake.calls k  t276 _ A12.out).mono ?_); rintro e w15 ⟨rfl, hb⟩; have n0_ := Aside0.mk (below_step (by repeat (first | (with_reducible first | exact HB.out | apply below_alloc | apply pw_below_drewN | apply below_drew1) | exact HB.out)) hb); clear HB; have HB := n0_; clear n0_; (try clear hb); (try clear hb2); (try clear hk); (try clear hi)))
                   go_ret
                   exact ⟨by first | rfl | (simp [errW_none, errW_some] <;> rfl) | (simp [*, errW_none, errW_some] <;> rfl), by repeat (first | (with_reducible first | exact HB.out | apply below_alloc | apply pw_below_drewN | apply below_drew1) | exact HB.out)⟩)
            · rw [if_neg c11] at H
              have c11b0 : (t274 == t272) = false := beq_eq_false_iff_ne.mpr c11
              have c11b1 : (t274 != t272) = true := bne_iff_ne.mpr c11
              exact absurd ((Option.some.inj H).trans hr_.out) (by decide)
          · rw [if_neg c10] at H
            have c10b0 : (t275 == 0) = false := beq_eq_false_iff_ne.mpr c10
            have c10b1 : (t275 != 0) = true := bne_iff_ne.mpr c10
            exact absurd ((Option.some.inj H).trans hr_.out) (by decide)
        · rw [if_neg c9] at H
          have c9b0 : (t272 == a0) = false := beq_eq_false_iff_ne.mpr c9
          have c9b1 : (t272 != a0) = true := bne_iff_ne.mpr c9
          by_cases c20 : t272 = a1
          · rw [if_pos c20] at H
            have c20b0 : (t272 == a1) = true := beq_iff_eq.mpr c20
            have c20b1 : (t272 != a1) = false := bne_eq_false_iff_eq.mpr c20
            clear c20
            by_cases c21 : a0 < a1
            · rw [if_pos c21] at H
              have c21b0 : decide (a0 < a1) = true := decide_eq_true c21
              clear c21
              by_cases c22 : t275 = 0
              · rw [if_pos c22] at H
                have c22b0 : (t275 == 0) = true := beq_iff_eq.mpr c22
                have c22b1 : (t275 != 0) = false := bne_eq_false_iff_eq.mpr c22
                clear c22
                by_cases c23 : t274 = t272
                · rw [if_pos c23] at H
                  have c23b0 : (t274 == t272) = true := beq_iff_eq.mpr c23
                  have c23b1 : (t274 != t272) = false := bne_eq_false_iff_eq.mpr c23
                  clear c23
                  replace H := Option.bind_eq_some_iff.mp H
                  obtain ⟨t277, A240, H⟩ := H
                  replace H : (some t277) = some r := H
                  have A24 := Aside0.mk A240
                  clear A240
                  first
                    | exact absurd ((Option.some.inj H).trans hr_.out) (by decide)
                    | (skip
                       obtain rfl := Option.some.inj H
                       go_enter Try.func11, Try.ntmps11
                       go_wp2_with (first | ((with_reducible refine gate_callee (f := 26) rfl ?_); refine goesL_ (some 15) rfl rfl Try.func26 (by kernel_rfl) rfl #[.int .i64 a0, .int .i64 a1, .int .i64 a2] rfl (by (try simp only [List.map_toArray, List.map_cons, List.map_nil]); first | done | rfl | (simp only [List.length_drop, List.length_take]; rfl)) ?_; (with_reducible refine (fixed_Clamp.calls k a0 a1 a2 t272 t273 _ A4.out).mono ?_); rintro e w25 ⟨rfl, hb⟩; refine ⟨_, rfl, ?_⟩; have n0_ := Aside0.mk (below_step (by repeat (first | (with_reducible first | exact HB.out | apply below_alloc | apply pw_below_drewN | apply below_drew1) | exact HB.out)) hb); clear HB; have HB := n0_; clear n0_; (try clear hb); (try clear hb2); (try clear hk); (try clear hi)) | ((with_reducible refine gate_callee (f := 26) rfl ?_); refine goesL_ (some 29) rfl rfl Try.func26 (by kernel_rfl) rfl #[.int .i64 t272, .int .i64 a1, .int .i64 a2] rfl (by (try simp only [List.map_toArray, List.map_cons, List.map_nil]); first | done | rfl | (simp only [List.length_drop, List.length_take]; rfl)) ?_; (with_reducible refine (fixed_Clamp.calls k t272 a1 a2 t274 t275 _ A6.out).mono ?_); rintro e w26 ⟨rfl, hb⟩; refine ⟨_, rfl, ?_⟩; have n0_ := Aside0.mk (below_step (by repeat (first | (with_reducible first | exact HB.out | apply below_alloc | apply pw_below_drewN | apply below_drew1) | exact HB.out)) hb); clear HB; have HB := n0_; clear n0_; (try clear hb); (try clear hb2); (try clear hk); (try clear hi)) | (go_at_call 16; (with_reducible refine (papermilllaw23_awake.calls k  t277 _ A24.out).mono ?_); rintro e w27 ⟨rfl, hb⟩; have n0_ := Aside0.mk (below_step (by repeat (first | (with_reducible first | exact HB.out | apply below_alloc | apply pw_below_drewN | apply below_drew1) | exact HB.out)) hb); clear HB; have HB := n0_; clear n0_; (try clear hb); (try clear hb2); (try clear hk); (try clear hi)))
                       go_ret
                       exact ⟨by first | rfl | (simp [errW_none, errW_some] <;> rfl) | (simp [*, errW_none, errW_some] <;> rfl), by repeat (first | (with_reducible first | exact HB.out | apply below_alloc | apply pw_below_drewN | apply below_drew1) | exact HB.out)⟩)
                · rw [if_neg c23] at H
                  have c23b0 : (t274 == t272) = false := beq_eq_false_iff_ne.mpr c23
                  have c23b1 : (t274 != t272) = true := bne_iff_ne.mpr c23
                  exact absurd ((Option.some.inj H).trans hr_.out) (by decide)
              · rw [if_neg c22] at H
                have c22b0 : (t275 == 0) = false := beq_eq_false_iff_ne.mpr c22
                have c22b1 : (t275 != 0) = true := bne_iff_ne.mpr c22
                exact absurd ((Option.some.inj H).trans hr_.out) (by decide)
            · rw [if_neg c21] at H
              have c21b0 : decide (a0 < a1) = false := decide_eq_false c21
              clear c21
              by_cases c32 : t272 = a2
              · rw [if_pos c32] at H
                have c32b0 : (t272 == a2) = true := beq_iff_eq.mpr c32
                have c32b1 : (t272 != a2) = false := bne_eq_false_iff_eq.mpr c32
                clear c32
                by_cases c33 : a0 > a2
                · rw [if_pos c33] at H
                  have c33b0 : decide (a2 < a0) = true := decide_eq_true c33
                  clear c33
                  by_cases c34 : t275 = 0
                  · rw [if_pos c34] at H
                    have c34b0 : (t275 == 0) = true := beq_iff_eq.mpr c34
                    have c34b1 : (t275 != 0) = false := bne_eq_false_iff_eq.mpr c34
                    clear c34
                    by_cases c35 : t274 = t272
                    · rw [if_pos c35] at H
                      have c35b0 : (t274 == t272) = true := beq_iff_eq.mpr c35
                      have c35b1 : (t274 != t272) = false := bne_eq_false_iff_eq.mpr c35
                      clear c35
                      replace H := Option.bind_eq_some_iff.mp H
                      obtain ⟨t278, A360, H⟩ := H
                      replace H : (some t278) = some r := H
                      have A36 := Aside0.mk A360
                      clear A360
                      first
                        | exact absurd ((Option.some.inj H).trans hr_.out) (by decide)
                        | (skip
                           obtain rfl := Option.some.inj H
                           go_enter Try.func11, Try.ntmps11
                           go_wp2_with (first | ((with_reducible refine gate_callee (f := 26) rfl ?_); refine goesL_ (some 15) rfl rfl Try.func26 (by kernel_rfl) rfl #[.int .i64 a0, .int .i64 a1, .int .i64 a2] rfl (by (try simp only [List.map_toArray, List.map_cons, List.map_nil]); first | done | rfl | (simp only [List.length_drop, List.length_take]; rfl)) ?_; (with_reducible refine (fixed_Clamp.calls k a0 a1 a2 t272 t273 _ A4.out).mono ?_); rintro e w37 ⟨rfl, hb⟩; refine ⟨_, rfl, ?_⟩; have n0_ := Aside0.mk (below_step (by repeat (first | (with_reducible first | exact HB.out | apply below_alloc | apply pw_below_drewN | apply below_drew1) | exact HB.out)) hb); clear HB; have HB := n0_; clear n0_; (try clear hb); (try clear hb2); (try clear hk); (try clear hi)) | ((with_reducible refine gate_callee (f := 26) rfl ?_); refine goesL_ (some 29) rfl rfl Try.func26 (by kernel_rfl) rfl #[.int .i64 t272, .int .i64 a1, .int .i64 a2] rfl (by (try simp only [List.map_toArray, List.map_cons, List.map_nil]); first | done | rfl | (simp only [List.length_drop, List.length_take]; rfl)) ?_; (with_reducible refine (fixed_Clamp.calls k t272 a1 a2 t274 t275 _ A6.out).mono ?_); rintro e w38 ⟨rfl, hb⟩; refine ⟨_, rfl, ?_⟩; have n0_ := Aside0.mk (below_step (by repeat (first | (with_reducible first | exact HB.out | apply below_alloc | apply pw_below_drewN | apply below_drew1) | exact HB.out)) hb); clear HB; have HB := n0_; clear n0_; (try clear hb); (try clear hb2); (try clear hk); (try clear hi)) | (go_at_call 16; (with_reducible refine (papermilllaw23_awake.calls k  t278 _ A36.out).mono ?_); rintro e w39 ⟨rfl, hb⟩; have n0_ := Aside0.mk (below_step (by repeat (first | (with_reducible first | exact HB.out | apply below_alloc | apply pw_below_drewN | apply below_drew1) | exact HB.out)) hb); clear HB; have HB := n0_; clear n0_; (try clear hb); (try clear hb2); (try clear hk); (try clear hi)))
                           go_ret
                           exact ⟨by first | rfl | (simp [errW_none, errW_some] <;> rfl) | (simp [*, errW_none, errW_some] <;> rfl), by repeat (first | (with_reducible first | exact HB.out | apply below_alloc | apply pw_below_drewN | apply below_drew1) | exact HB.out)⟩)
                    · rw [if_neg c35] at H
                      have c35b0 : (t274 == t272) = false := beq_eq_false_iff_ne.mpr c35
                      have c35b1 : (t274 != t272) = true := bne_iff_ne.mpr c35
                      exact absurd ((Option.some.inj H).trans hr_.out) (by decide)
                  · rw [if_neg c34] at H
                    have c34b0 : (t275 == 0) = false := beq_eq_false_iff_ne.mpr c34
                    have c34b1 : (t275 != 0) = true := bne_iff_ne.mpr c34
                    exact absurd ((Option.some.inj H).trans hr_.out) (by decide)
                · rw [if_neg c33] at H
                  have c33b0 : decide (a2 < a0) = false := decide_eq_false c33
                  clear c33
                  exact absurd ((Option.some.inj H).trans hr_.out) (by decide)
              · rw [if_neg c32] at H
                have c32b0 : (t272 == a2) = false := beq_eq_false_iff_ne.mpr c32
                have c32b1 : (t272 != a2) = true := bne_iff_ne.mpr c32
                exact absurd ((Option.some.inj H).trans hr_.out) (by decide)
          · rw [if_neg c20] at H
            have c20b0 : (t272 == a1) = false := beq_eq_false_iff_ne.mpr c20
            have c20b1 : (t272 != a1) = true := bne_iff_ne.mpr c20
            by_cases c48 : t272 = a2
            · rw [if_pos c48] at H
              have c48b0 : (t272 == a2) = true := beq_iff_eq.mpr c48
              have c48b1 : (t272 != a2) = false := bne_eq_false_iff_eq.mpr c48
              clear c48
              by_cases c49 : a0 > a2
              · rw [if_pos c49] at H
                have c49b0 : decide (a2 < a0) = true := decide_eq_true c49
                clear c49
                by_cases c50 : t275 = 0
                · rw [if_pos c50] at H
                  have c50b0 : (t275 == 0) = true := beq_iff_eq.mpr c50
                  have c50b1 : (t275 != 0) = false := bne_eq_false_iff_eq.mpr c50
                  clear c50
                  by_cases c51 : t274 = t272
                  · rw [if_pos c51] at H
                    have c51b0 : (t274 == t272) = true := beq_iff_eq.mpr c51
                    have c51b1 : (t274 != t272) = false := bne_eq_false_iff_eq.mpr c51
                    clear c51
                    replace H := Option.bind_eq_some_iff.mp H
                    obtain ⟨t279, A520, H⟩ := H
                    replace H : (some t279) = some r := H
                    have A52 := Aside0.mk A520
                    clear A520
                    first
                      | exact absurd ((Option.some.inj H).trans hr_.out) (by decide)
                      | (skip
                         obtain rfl := Option.some.inj H
                         go_enter Try.func11, Try.ntmps11
                         go_wp2_with (first | ((with_reducible refine gate_callee (f := 26) rfl ?_); refine goesL_ (some 15) rfl rfl Try.func26 (by kernel_rfl) rfl #[.int .i64 a0, .int .i64 a1, .int .i64 a2] rfl (by (try simp only [List.map_toArray, List.map_cons, List.map_nil]); first | done | rfl | (simp only [List.length_drop, List.length_take]; rfl)) ?_; (with_reducible refine (fixed_Clamp.calls k a0 a1 a2 t272 t273 _ A4.out).mono ?_); rintro e w53 ⟨rfl, hb⟩; refine ⟨_, rfl, ?_⟩; have n0_ := Aside0.mk (below_step (by repeat (first | (with_reducible first | exact HB.out | apply below_alloc | apply pw_below_drewN | apply below_drew1) | exact HB.out)) hb); clear HB; have HB := n0_; clear n0_; (try clear hb); (try clear hb2); (try clear hk); (try clear hi)) | ((with_reducible refine gate_callee (f := 26) rfl ?_); refine goesL_ (some 29) rfl rfl Try.func26 (by kernel_rfl) rfl #[.int .i64 t272, .int .i64 a1, .int .i64 a2] rfl (by (try simp only [List.map_toArray, List.map_cons, List.map_nil]); first | done | rfl | (simp only [List.length_drop, List.length_take]; rfl)) ?_; (with_reducible refine (fixed_Clamp.calls k t272 a1 a2 t274 t275 _ A6.out).mono ?_); rintro e w54 ⟨rfl, hb⟩; refine ⟨_, rfl, ?_⟩; have n0_ := Aside0.mk (below_step (by repeat (first | (with_reducible first | exact HB.out | apply below_alloc | apply pw_below_drewN | apply below_drew1) | exact HB.out)) hb); clear HB; have HB := n0_; clear n0_; (try clear hb); (try clear hb2); (try clear hk); (try clear hi)) | (go_at_call 16; (with_reducible refine (papermilllaw23_awake.calls k  t279 _ A52.out).mono ?_); rintro e w55 ⟨rfl, hb⟩; have n0_ := Aside0.mk (below_step (by repeat (first | (with_reducible first | exact HB.out | apply below_alloc | apply pw_below_drewN | apply below_drew1) | exact HB.out)) hb); clear HB; have HB := n0_; clear n0_; (try clear hb); (try clear hb2); (try clear hk); (try clear hi)))
                         go_ret
                         exact ⟨by first | rfl | (simp [errW_none, errW_some] <;> rfl) | (simp [*, errW_none, errW_some] <;> rfl), by repeat (first | (with_reducible first | exact HB.out | apply below_alloc | apply pw_below_drewN | apply below_drew1) | exact HB.out)⟩)
                  · rw [if_neg c51] at H
                    have c51b0 : (t274 == t272) = false := beq_eq_false_iff_ne.mpr c51
                    have c51b1 : (t274 != t272) = true := bne_iff_ne.mpr c51
                    exact absurd ((Option.some.inj H).trans hr_.out) (by decide)
                · rw [if_neg c50] at H
                  have c50b0 : (t275 == 0) = false := beq_eq_false_iff_ne.mpr c50
                  have c50b1 : (t275 != 0) = true := bne_iff_ne.mpr c50
                  exact absurd ((Option.some.inj H).trans hr_.out) (by decide)
              · rw [if_neg c49] at H
                have c49b0 : decide (a2 < a0) = false := decide_eq_false c49
                clear c49
                exact absurd ((Option.some.inj H).trans hr_.out) (by decide)
            · rw [if_neg c48] at H
              have c48b0 : (t272 == a2) = false := beq_eq_false_iff_ne.mpr c48
              have c48b1 : (t272 != a2) = true := bne_iff_ne.mpr c48
              exact absurd ((Option.some.inj H).trans hr_.out) (by decide)
      · rw [if_neg c8] at H
        have c8b0 : decide (t272 ≤ a2) = false := decide_eq_false c8
        clear c8
        exact absurd ((Option.some.inj H).trans hr_.out) (by decide)
    · rw [if_neg c7] at H
      have c7b0 : decide (a1 ≤ t272) = false := decide_eq_false c7
      clear c7
      exact absurd ((Option.some.inj H).trans hr_.out) (by decide)
  · rw [if_neg c5] at H
    have c5b0 : (t273 == 0) = false := beq_eq_false_iff_ne.mpr c5
    have c5b1 : (t273 != 0) = true := bne_iff_ne.mpr c5
    by_cases c68 : t272 = 0
    · rw [if_pos c68] at H
      have c68b0 : (t272 == 0) = true := beq_iff_eq.mpr c68
      have c68b1 : (t272 != 0) = false := bne_eq_false_iff_eq.mpr c68
      clear c68
      replace H := Option.bind_eq_some_iff.mp H
      obtain ⟨t280, A690, H⟩ := H
      replace H : (some t280) = some r := H
      have A69 := Aside0.mk A690
      clear A690
      first
        | exact absurd ((Option.some.inj H).trans hr_.out) (by decide)
        | (skip
           obtain rfl := Option.some.inj H
           go_enter Try.func11, Try.ntmps11
           go_wp2_with (first | ((with_reducible refine gate_callee (f := 26) rfl ?_); refine goesL_ (some 15) rfl rfl Try.func26 (by kernel_rfl) rfl #[.int .i64 a0, .int .i64 a1, .int .i64 a2] rfl (by (try simp only [List.map_toArray, List.map_cons, List.map_nil]); first | done | rfl | (simp only [List.length_drop, List.length_take]; rfl)) ?_; (with_reducible refine (fixed_Clamp.calls k a0 a1 a2 t272 t273 _ A4.out).mono ?_); rintro e w70 ⟨rfl, hb⟩; refine ⟨_, rfl, ?_⟩; have n0_ := Aside0.mk (below_step (by repeat (first | (with_reducible first | exact HB.out | apply below_alloc | apply pw_below_drewN | apply below_drew1) | exact HB.out)) hb); clear HB; have HB := n0_; clear n0_; (try clear hb); (try clear hb2); (try clear hk); (try clear hi)) | (go_at_call 16; (with_reducible refine (papermilllaw23_awake.calls k  t280 _ A69.out).mono ?_); rintro e w71 ⟨rfl, hb⟩; have n0_ := Aside0.mk (below_step (by repeat (first | (with_reducible first | exact HB.out | apply below_alloc | apply pw_below_drewN | apply below_drew1) | exact HB.out)) hb); clear HB; have HB := n0_; clear n0_; (try clear hb); (try clear hb2); (try clear hk); (try clear hi)))
           go_ret
           exact ⟨by first | rfl | (simp [errW_none, errW_some] <;> rfl) | (simp [*, errW_none, errW_some] <;> rfl), by repeat (first | (with_reducible first | exact HB.out | apply below_alloc | apply pw_below_drewN | apply below_drew1) | exact HB.out)⟩)
    · rw [if_neg c68] at H
      have c68b0 : (t272 == 0) = false := beq_eq_false_iff_ne.mpr c68
      have c68b1 : (t272 != 0) = true := bne_iff_ne.mpr c68
      exact absurd ((Option.some.inj H).trans hr_.out) (by decide)

/-- THE ONE PURE STATEMENT of papermilllaw23_FixedClamps: yours. -/
def papermilllaw23_FixedClamps.Pure : Prop := ∀ (a0 : Int) (a1 : Int) (a2 : Int), (Lit.int .i64 a0).wf = true → (Lit.int .i64 a1).wf = true → (Lit.int .i64 a2).wf = true → ∃ k, papermilllaw23_FixedClamps.f k a0 a1 a2 = some true
theorem papermilllaw23_FixedClamps.walk (P : papermilllaw23_FixedClamps.Pure) (a0 : Int) (a1 : Int) (a2 : Int) (w : World) (w0 : (Lit.int .i64 a0).wf = true) (w1 : (Lit.int .i64 a1).wf = true) (w2 : (Lit.int .i64 a2).wf = true) :
    Calls Try.prog 11 #[.int .i64 a0, .int .i64 a1, .int .i64 a2] w fun e w' => e = .returned (.bool true) ∧ Below w.heap.size w w' := by
  obtain ⟨k, h⟩ := P a0 a1 a2 w0 w1 w2
  refine (papermilllaw23_FixedClamps.calls k a0 a1 a2 true w ⟨rfl⟩ h).mono ?_
  rintro e w' ⟨rfl, hd⟩
  exact ⟨rfl, hd⟩

end Go.Proofs.Ytpmopomiadaonaa.P
