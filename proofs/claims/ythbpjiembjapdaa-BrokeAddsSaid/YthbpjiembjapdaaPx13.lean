-- Written by a program (wip/prog/pp.py) over the kit's print; some of its functions are proved by hand. Not trusted: Lean checks it.
import Derived.Test.YthbpjiembjapdaaPx0
import Derived.Test.YthbpjiembjapdaaPx7
namespace Go.Proofs.Ythbpjiembjapdaa.P
open Go.RowKit Go.Proofs.YthbpjiembjapdaaW.PrintWords Go.Proofs.YthbpjiembjapdaaW.PrintLast Go.Proofs.YthbpjiembjapdaaW.PrintMore
attribute [local go_sem] max2_int min2_int max_two min_two max_three min_three max_four min_four   -- for this text's walks alone
set_option linter.unusedVariables false
set_option linter.unusedSimpArgs false

/-! ### papermilllaw22_BrokeAdds: function 7 -/
def papermilllaw22_BrokeAdds.j0 : Nat → Int → Int → Int → Int → Int → Bool → Option (Bool)
  | 0, _, _, _, _, _, _ => none
  | k + 1, x0, x1, x2, x7, x9, x31 => if x31 = true then ((papermilllaw22_awake.f k).bind fun t191 => (some t191)) else ((broke_Mass.f (wrap64 (x0 + x1)) x2).bind fun bt192 => (if (wrap64 (x0 + x1)) > 206158430208000 then (if bt192.1 = 0 then (if bt192.2 = 1 then ((papermilllaw22_awake.f k).bind fun t194 => (some t194)) else (some false)) else (some false)) else (if bt192.2 = 0 then (if (wrap64 ((wrap64 (bt192.1 - x7)) - x9)) ≥ (-1) then (if (wrap64 ((wrap64 (bt192.1 - x7)) - x9)) ≤ 1 then (if bt192.1 ≥ x7 then (if bt192.1 ≥ x9 then ((papermilllaw22_awake.f k).bind fun t195 => (some t195)) else (some false)) else (some false)) else (some false)) else (some false)) else (some false))))
def papermilllaw22_BrokeAdds.f (k : Nat) (a0 : Int) (a1 : Int) (a2 : Int) : Option (Bool) := (broke_Mass.f a0 a2).bind fun bt187 => ((broke_Mass.f a1 a2).bind fun bt189 => (if bt187.2 = 0 then (papermilllaw22_BrokeAdds.j0 k a0 a1 a2 bt187.1 bt189.1 (bt189.2 != 0)) else (papermilllaw22_BrokeAdds.j0 k a0 a1 a2 bt187.1 bt189.1 true)))
theorem papermilllaw22_BrokeAdds.mono_l : ∀ k, (∀ y0 y1 y2 y3 y4 y5, LeO (papermilllaw22_BrokeAdds.j0 k y0 y1 y2 y3 y4 y5) (papermilllaw22_BrokeAdds.j0 (k + 1) y0 y1 y2 y3 y4 y5))
  | 0 => fun _ _ _ _ _ _ r h => by simp [papermilllaw22_BrokeAdds.j0] at h
  | k + 1 => by
    have ih0 := papermilllaw22_BrokeAdds.mono_l k
    · intro y0 y1 y2 y3 y4 y5
      unfold papermilllaw22_BrokeAdds.j0
      repeat' first
      | (with_reducible exact ih0 _ _ _ _ _ _)
      | (with_reducible exact papermilllaw22_awake.mono _)
      | (with_reducible exact LeO.refl _)
      | (with_reducible exact LeO.none _)
      | (with_reducible refine LeO.ite ?_ ?_)
      | (with_reducible refine LeO.bind ?_ (fun _ => ?_))
      | exact ih0 _ _ _ _ _ _
      | exact papermilllaw22_awake.mono _
      | exact LeO.none _
      | refine LeO.ite ?_ ?_
      | refine LeO.bind ?_ (fun _ => ?_)
theorem papermilllaw22_BrokeAdds.mono : ∀ a0 a1 a2 k, LeO (papermilllaw22_BrokeAdds.f k a0 a1 a2) (papermilllaw22_BrokeAdds.f (k + 1) a0 a1 a2) := by
  intro a0 a1 a2 k
  have ih0 := papermilllaw22_BrokeAdds.mono_l k
  unfold papermilllaw22_BrokeAdds.f
  repeat' first
      | (with_reducible exact ih0 _ _ _ _ _ _)
      | (with_reducible exact papermilllaw22_awake.mono _)
      | (with_reducible exact LeO.refl _)
      | (with_reducible exact LeO.none _)
      | (with_reducible refine LeO.ite ?_ ?_)
      | (with_reducible refine LeO.bind ?_ (fun _ => ?_))
      | exact ih0 _ _ _ _ _ _
      | exact papermilllaw22_awake.mono _
      | exact LeO.none _
      | refine LeO.ite ?_ ?_
      | refine LeO.bind ?_ (fun _ => ?_)
set_option maxHeartbeats 8000000 in
set_option maxRecDepth 100000 in
theorem papermilllaw22_BrokeAdds.calls (k : Nat) (a0 : Int) (a1 : Int) (a2 : Int) (r : Bool) (w : World) (hr_ : Aside0 (r = true)) (h : papermilllaw22_BrokeAdds.f k a0 a1 a2 = some r) :
    Calls Try.prog 7 #[.int .i64 a0, .int .i64 a1, .int .i64 a2] w fun e w' => e = .returned (.bool r) ∧ Below w.heap.size w w' := by
  have HB := Aside0.mk (Below.refl w.heap.size w)
  have H : ((broke_Mass.f a0 a2).bind fun bt187 => ((broke_Mass.f a1 a2).bind fun bt189 => (if bt187.2 = 0 then (papermilllaw22_BrokeAdds.j0 k a0 a1 a2 bt187.1 bt189.1 (bt189.2 != 0)) else (papermilllaw22_BrokeAdds.j0 k a0 a1 a2 bt187.1 bt189.1 true)))) = some r := h
  clear h
  replace H := Option.bind_eq_some_iff.mp H
  obtain ⟨⟨t187, t188⟩, A40, H⟩ := H
  replace H : ((broke_Mass.f a1 a2).bind fun bt189 => (if t188 = 0 then (papermilllaw22_BrokeAdds.j0 k a0 a1 a2 t187 bt189.1 (bt189.2 != 0)) else (papermilllaw22_BrokeAdds.j0 k a0 a1 a2 t187 bt189.1 true))) = some r := H
  have A4 := Aside0.mk A40
  clear A40
  replace H := Option.bind_eq_some_iff.mp H
  obtain ⟨⟨t189, t190⟩, A50, H⟩ := H
  replace H : (if t188 = 0 then (papermilllaw22_BrokeAdds.j0 k a0 a1 a2 t187 t189 (t190 != 0)) else (papermilllaw22_BrokeAdds.j0 k a0 a1 a2 t187 t189 true)) = some r := H
  have A5 := Aside0.mk A50
  clear A50
  have HC6 := Aside0.mk H
  clear H
  go_enter Try.func7, Try.ntmps7
  go_upto_region 3 with (first | ((with_reducible refine gate_callee (f := 15) rfl ?_); refine goesL_ (some 17) rfl rfl Try.func15 (by kernel_rfl) rfl #[.int .i64 a0, .int .i64 a2] rfl (by (try simp only [List.map_toArray, List.map_cons, List.map_nil]); first | done | rfl | (simp only [List.length_drop, List.length_take]; rfl)) ?_; (with_reducible refine (broke_Mass.calls a0 a2 t187 t188 _ A4.out).mono ?_); rintro e w7 ⟨rfl, hb⟩; refine ⟨_, rfl, ?_⟩; have n0_ := Aside0.mk (below_step (by repeat (first | (with_reducible first | exact HB.out | apply below_alloc | apply pw_below_drewN | apply below_drew1) | exact HB.out)) hb); clear HB; have HB := n0_; clear n0_; (try clear hb); (try clear hb2); (try clear hk); (try clear hi)) | ((with_reducible refine gate_callee (f := 15) rfl ?_); refine goesL_ (some 23) rfl rfl Try.func15 (by kernel_rfl) rfl #[.int .i64 a1, .int .i64 a2] rfl (by (try simp only [List.map_toArray, List.map_cons, List.map_nil]); first | done | rfl | (simp only [List.length_drop, List.length_take]; rfl)) ?_; (with_reducible refine (broke_Mass.calls a1 a2 t189 t190 _ A5.out).mono ?_); rintro e w8 ⟨rfl, hb⟩; refine ⟨_, rfl, ?_⟩; have n0_ := Aside0.mk (below_step (by repeat (first | (with_reducible first | exact HB.out | apply below_alloc | apply pw_below_drewN | apply below_drew1) | exact HB.out)) hb); clear HB; have HB := n0_; clear n0_; (try clear hb); (try clear hb2); (try clear hk); (try clear hi)))
  (try simp only [Act.put, List.setIfInBounds_toArray, List.set_cons_zero, List.set_cons_succ])
  go_cut [31] (fun v31 wc => ∃ (kq : Nat) (x31_5 : Bool), v31 = .bool x31_5 ∧ Aside0 (papermilllaw22_BrokeAdds.j0 kq a0 a1 a2 t187 t189 x31_5 = some r) ∧ Aside0 (kq ≤ k) ∧ Aside0 (Below w.heap.size w wc))
  case first =>
    have H := HC6.out
    clear HC6
    by_cases c9 : t188 = 0
    · rw [if_pos c9] at H
      have c9b0 : (t188 == 0) = true := beq_iff_eq.mpr c9
      have c9b1 : (t188 != 0) = false := bne_eq_false_iff_eq.mpr c9
      clear c9
      (first | rw [c9b0] | (simp only [i64_w, i32_w]; rw [c9b0]) | skip)
      have H' := Aside0.mk H
      clear H
      go_wp2
      go_meet
      case rel => exact ⟨_, ((t190 != 0)), (by first | rfl | (simp; done) | (simp [*]; done)), H', ⟨by first | omega | exact Nat.le_refl _⟩, ⟨by repeat (first | (with_reducible first | exact HB.out | apply below_alloc | apply pw_below_drewN | apply below_drew1) | exact HB.out)⟩⟩
    · rw [if_neg c9] at H
      have c9b0 : (t188 == 0) = false := beq_eq_false_iff_ne.mpr c9
      have c9b1 : (t188 != 0) = true := bne_iff_ne.mpr c9
      (first | rw [c9b0] | (simp only [i64_w, i32_w]; rw [c9b0]) | skip)
      have H' := Aside0.mk H
      clear H
      go_wp2
      go_meet
      case rel => exact ⟨_, (true), (by first | rfl | (simp; done) | (simp [*]; done)), H', ⟨by first | omega | exact Nat.le_refl _⟩, ⟨by repeat (first | (with_reducible first | exact HB.out | apply below_alloc | apply pw_below_drewN | apply below_drew1) | exact HB.out)⟩⟩
  case rest =>
    clear HC6
    try clear c1
    try clear p2
    try clear c7
    try clear c9
    try clear c9b0
    try clear c9b1
    obtain ⟨kq, x31_5, rfl, HA, HJ5, HB⟩ := hcut
    cases kq with
    | zero => exact absurd HA.out (by simp [papermilllaw22_BrokeAdds.j0])
    | succ kj5 =>
      have H := HA.out
      clear HA
      simp only [papermilllaw22_BrokeAdds.j0] at H
      by_cases c10 : x31_5 = true
      · subst c10
        have H1 : ((papermilllaw22_awake.f kj5).bind fun t191 => (some t191)) = some r := by rw [if_pos rfl] at H; exact H
        clear H
        have H := H1
        clear H1
        replace H := Option.bind_eq_some_iff.mp H
        obtain ⟨t191, A110, H⟩ := H
        replace H : (some t191) = some r := H
        have A11 := Aside0.mk A110
        clear A110
        first
          | exact absurd ((Option.some.inj H).trans hr_.out) (by decide)
          | (skip
             obtain rfl := Option.some.inj H
             go_wp2_with (first | ((with_reducible refine gate_callee (f := 10) rfl ?_); refine goesL_ (some 32) rfl rfl Try.func10 (by kernel_rfl) rfl #[] rfl (by (try simp only [List.map_toArray, List.map_cons, List.map_nil]); first | done | rfl | (simp only [List.length_drop, List.length_take]; rfl)) ?_; (with_reducible refine (papermilllaw22_awake.calls kj5  t191 _ A11.out).mono ?_); rintro e w12 ⟨rfl, hb⟩; refine ⟨_, rfl, ?_⟩; have n0_ := Aside0.mk (below_step (by repeat (first | (with_reducible first | exact HB.out | apply below_alloc | apply pw_below_drewN | apply below_drew1) | exact HB.out)) hb); clear HB; have HB := n0_; clear n0_; (try clear hb); (try clear hb2); (try clear hk); (try clear hi)))
             go_ret
             exact ⟨by first | rfl | (simp [errW_none, errW_some] <;> rfl) | (simp [*, errW_none, errW_some] <;> rfl), by repeat (first | (with_reducible first | exact HB.out | apply below_alloc | apply pw_below_drewN | apply below_drew1) | exact HB.out)⟩)
      · replace c10 := Bool.eq_false_iff.mpr c10
        subst c10
        have H1 : ((broke_Mass.f (wrap64 (a0 + a1)) a2).bind fun bt192 => (if (wrap64 (a0 + a1)) > 206158430208000 then (if bt192.1 = 0 then (if bt192.2 = 1 then ((papermilllaw22_awake.f kj5).bind fun t194 => (some t194)) else (some false)) else (some false)) else (if bt192.2 = 0 then (if (wrap64 ((wrap64 (bt192.1 - t187)) - t189)) ≥ (-1) then (if (wrap64 ((wrap64 (bt192.1 - t187)) - t189)) ≤ 1 then (if bt192.1 ≥ t187 then (if bt192.1 ≥ t189 then ((papermilllaw22_awake.f kj5).bind fun t195 => (some t195)) else (some false)) else (some false)) else (some false)) else (some false)) else (some false)))) = some r := by rw [if_neg (show ¬ (false = true) by decide)] at H; exact H
        clear H
        have H := H1
        clear H1
        replace H := Option.bind_eq_some_iff.mp H
        obtain ⟨⟨t192, t193⟩, A130, H⟩ := H
        replace H : (if (wrap64 (a0 + a1)) > 206158430208000 then (if t192 = 0 then (if t193 = 1 then ((papermilllaw22_awake.f kj5).bind fun t194 => (some t194)) else (some false)) else (some false)) else (if t193 = 0 then (if (wrap64 ((wrap64 (t192 - t187)) - t189)) ≥ (-1) then (if (wrap64 ((wrap64 (t192 - t187)) - t189)) ≤ 1 then (if t192 ≥ t187 then (if t192 ≥ t189 then ((papermilllaw22_awake.f kj5).bind fun t195 => (some t195)) else (some false)) else (some false)) else (some false)) else (some false)) else (some false))) = some r := H
        have A13 := Aside0.mk A130
        clear A130
        by_cases c14 : (wrap64 (a0 + a1)) > 206158430208000
        · rw [if_pos c14] at H
          have c14b0 : decide (206158430208000 < (wrap64 (a0 + a1))) = true := decide_eq_true c14
          clear c14
          by_cases c15 : t192 = 0
          · rw [if_pos c15] at H
            have c15b0 : (t192 == 0) = true := beq_iff_eq.mpr c15
            have c15b1 : (t192 != 0) = false := bne_eq_false_iff_eq.mpr c15
            clear c15
            by_cases c16 : t193 = 1
            · rw [if_pos c16] at H
              have c16b0 : (t193 == 1) = true := beq_iff_eq.mpr c16
              have c16b1 : (t193 != 1) = false := bne_eq_false_iff_eq.mpr c16
              clear c16
              replace H := Option.bind_eq_some_iff.mp H
              obtain ⟨t194, A170, H⟩ := H
              replace H : (some t194) = some r := H
              have A17 := Aside0.mk A170
              clear A170
              first
                | exact absurd ((Option.some.inj H).trans hr_.out) (by decide)
                | (skip
                   obtain rfl := Option.some.inj H
                   go_wp2_with (first | ((with_reducible refine gate_callee (f := 15) rfl ?_); refine goesL_ (some 38) rfl rfl Try.func15 (by kernel_rfl) rfl #[.int .i64 (wrap64 (a0 + a1)), .int .i64 a2] rfl (by (try simp only [List.map_toArray, List.map_cons, List.map_nil]); first | done | rfl | (simp only [List.length_drop, List.length_take]; rfl)) ?_; (with_reducible refine (broke_Mass.calls (wrap64 (a0 + a1)) a2 t192 t193 _ A13.out).mono ?_); rintro e w18 ⟨rfl, hb⟩; refine ⟨_, rfl, ?_⟩; have n0_ := Aside0.mk (below_step (by repeat (first | (with_reducible first | exact HB.out | apply below_alloc | apply pw_below_drewN | apply below_drew1) | exact HB.out)) hb); clear HB; have HB := n0_; clear n0_; (try clear hb); (try clear hb2); (try clear hk); (try clear hi)) | (go_at_call 10; (with_reducible refine (papermilllaw22_awake.calls kj5  t194 _ A17.out).mono ?_); rintro e w19 ⟨rfl, hb⟩; have n0_ := Aside0.mk (below_step (by repeat (first | (with_reducible first | exact HB.out | apply below_alloc | apply pw_below_drewN | apply below_drew1) | exact HB.out)) hb); clear HB; have HB := n0_; clear n0_; (try clear hb); (try clear hb2); (try clear hk); (try clear hi)))
                   go_ret
                   exact ⟨by first | rfl | (simp [errW_none, errW_some] <;> rfl) | (simp [*, errW_none, errW_some] <;> rfl), by repeat (first | (with_reducible first | exact HB.out | apply below_alloc | apply pw_below_drewN | apply below_drew1) | exact HB.out)⟩)
            · rw [if_neg c16] at H
              have c16b0 : (t193 == 1) = false := beq_eq_false_iff_ne.mpr c16
              have c16b1 : (t193 != 1) = true := bne_iff_ne.mpr c16
              exact absurd ((Option.some.inj H).trans hr_.out) (by decide)
          · rw [if_neg c15] at H
            have c15b0 : (t192 == 0) = false := beq_eq_false_iff_ne.mpr c15
            have c15b1 : (t192 != 0) = true := bne_iff_ne.mpr c15
            exact absurd ((Option.some.inj H).trans hr_.out) (by decide)
        · rw [if_neg c14] at H
          have c14b0 : decide (206158430208000 < (wrap64 (a0 + a1))) = false := decide_eq_false c14
          clear c14
          by_cases c22 : t193 = 0
          · rw [if_pos c22] at H
            have c22b0 : (t193 == 0) = true := beq_iff_eq.mpr c22
            have c22b1 : (t193 != 0) = false := bne_eq_false_iff_eq.mpr c22
            clear c22
            by_cases c23 : (wrap64 ((wrap64 (t192 - t187)) - t189)) ≥ (-1)
            · rw [if_pos c23] at H
              have c23b0 : decide ((-1) ≤ (wrap64 ((wrap64 (t192 - t187)) - t189))) = true := decide_eq_true c23
              clear c23
              by_cases c24 : (wrap64 ((wrap64 (t192 - t187)) - t189)) ≤ 1
              · rw [if_pos c24] at H
                have c24b0 : decide ((wrap64 ((wrap64 (t192 - t187)) - t189)) ≤ 1) = true := decide_eq_true c24
                clear c24
                by_cases c25 : t192 ≥ t187
                · rw [if_pos c25] at H
                  have c25b0 : decide (t187 ≤ t192) = true := decide_eq_true c25
                  clear c25
                  by_cases c26 : t192 ≥ t189
                  · rw [if_pos c26] at H
                    have c26b0 : decide (t189 ≤ t192) = true := decide_eq_true c26
                    clear c26
                    replace H := Option.bind_eq_some_iff.mp H
                    obtain ⟨t195, A270, H⟩ := H
                    replace H : (some t195) = some r := H
                    have A27 := Aside0.mk A270
                    clear A270
                    first
                      | exact absurd ((Option.some.inj H).trans hr_.out) (by decide)
                      | (skip
                         obtain rfl := Option.some.inj H
                         go_wp2_with (first | ((with_reducible refine gate_callee (f := 15) rfl ?_); refine goesL_ (some 38) rfl rfl Try.func15 (by kernel_rfl) rfl #[.int .i64 (wrap64 (a0 + a1)), .int .i64 a2] rfl (by (try simp only [List.map_toArray, List.map_cons, List.map_nil]); first | done | rfl | (simp only [List.length_drop, List.length_take]; rfl)) ?_; (with_reducible refine (broke_Mass.calls (wrap64 (a0 + a1)) a2 t192 t193 _ A13.out).mono ?_); rintro e w28 ⟨rfl, hb⟩; refine ⟨_, rfl, ?_⟩; have n0_ := Aside0.mk (below_step (by repeat (first | (with_reducible first | exact HB.out | apply below_alloc | apply pw_below_drewN | apply below_drew1) | exact HB.out)) hb); clear HB; have HB := n0_; clear n0_; (try clear hb); (try clear hb2); (try clear hk); (try clear hi)) | (go_at_call 10; (with_reducible refine (papermilllaw22_awake.calls kj5  t195 _ A27.out).mono ?_); rintro e w29 ⟨rfl, hb⟩; have n0_ := Aside0.mk (below_step (by repeat (first | (with_reducible first | exact HB.out | apply below_alloc | apply pw_below_drewN | apply below_drew1) | exact HB.out)) hb); clear HB; have HB := n0_; clear n0_; (try clear hb); (try clear hb2); (try clear hk); (try clear hi)))
                         go_ret
                         exact ⟨by first | rfl | (simp [errW_none, errW_some] <;> rfl) | (simp [*, errW_none, errW_some] <;> rfl), by repeat (first | (with_reducible first | exact HB.out | apply below_alloc | apply pw_below_drewN | apply below_drew1) | exact HB.out)⟩)
                  · rw [if_neg c26] at H
                    have c26b0 : decide (t189 ≤ t192) = false := decide_eq_false c26
                    clear c26
                    exact absurd ((Option.some.inj H).trans hr_.out) (by decide)
                · rw [if_neg c25] at H
                  have c25b0 : decide (t187 ≤ t192) = false := decide_eq_false c25
                  clear c25
                  exact absurd ((Option.some.inj H).trans hr_.out) (by decide)
              · rw [if_neg c24] at H
                have c24b0 : decide ((wrap64 ((wrap64 (t192 - t187)) - t189)) ≤ 1) = false := decide_eq_false c24
                clear c24
                exact absurd ((Option.some.inj H).trans hr_.out) (by decide)
            · rw [if_neg c23] at H
              have c23b0 : decide ((-1) ≤ (wrap64 ((wrap64 (t192 - t187)) - t189))) = false := decide_eq_false c23
              clear c23
              exact absurd ((Option.some.inj H).trans hr_.out) (by decide)
          · rw [if_neg c22] at H
            have c22b0 : (t193 == 0) = false := beq_eq_false_iff_ne.mpr c22
            have c22b1 : (t193 != 0) = true := bne_iff_ne.mpr c22
            exact absurd ((Option.some.inj H).trans hr_.out) (by decide)

/-- THE ONE PURE STATEMENT of papermilllaw22_BrokeAdds: yours. -/
def papermilllaw22_BrokeAdds.Pure : Prop := ∀ (a0 : Int) (a1 : Int) (a2 : Int), (Lit.int .i64 a0).wf = true → (Lit.int .i64 a1).wf = true → (Lit.int .i64 a2).wf = true → ∃ k, papermilllaw22_BrokeAdds.f k a0 a1 a2 = some true
theorem papermilllaw22_BrokeAdds.walk (P : papermilllaw22_BrokeAdds.Pure) (a0 : Int) (a1 : Int) (a2 : Int) (w : World) (w0 : (Lit.int .i64 a0).wf = true) (w1 : (Lit.int .i64 a1).wf = true) (w2 : (Lit.int .i64 a2).wf = true) :
    Calls Try.prog 7 #[.int .i64 a0, .int .i64 a1, .int .i64 a2] w fun e w' => e = .returned (.bool true) ∧ Below w.heap.size w w' := by
  obtain ⟨k, h⟩ := P a0 a1 a2 w0 w1 w2
  refine (papermilllaw22_BrokeAdds.calls k a0 a1 a2 true w ⟨rfl⟩ h).mono ?_
  rintro e w' ⟨rfl, hd⟩
  exact ⟨rfl, hd⟩

end Go.Proofs.Ythbpjiembjapdaa.P
