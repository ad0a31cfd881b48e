-- Written by a program (wip/prog/pp.py) over the kit's print; some of its functions are proved by hand. Not trusted: Lean checks it.
import Derived.Test.YtpmopomiadaonaaPx0
import Derived.Test.YtpmopomiadaonaaPx8
import Derived.Test.YtpmopomiadaonaaPx9
import Derived.Test.YtpmopomiadaonaaPx12
namespace Go.Proofs.Ytpmopomiadaonaa.P
open Go.RowKit Go.Proofs.YtpmopomiadaonaaW.PrintWords Go.Proofs.YtpmopomiadaonaaW.PrintLast Go.Proofs.YtpmopomiadaonaaW.PrintMore
attribute [local go_sem] max2_int min2_int max_two min_two max_three min_three max_four min_four   -- for this text's walks alone
set_option linter.unusedVariables false
set_option linter.unusedSimpArgs false

/-! ### papermilllaw23_FixedSigns: function 8 -/
def papermilllaw23_FixedSigns.j0 : Nat → Int → Int → Bool → Option (Bool)
  | 0, _, _, _ => none
  | k + 1, x0, x1, x30 => if x30 = true then ((papermilllaw23_awake.f k).bind fun t231 => (some t231)) else ((fixed_Mul.f k x0 x1).bind fun bt232 => ((fixed_Mul.f k x1 x0).bind fun bt234 => ((fixed_Mul.f k (wrap64 (-x0)) (wrap64 (-x1))).bind fun bt236 => ((fixed_Div.f k x0 x1).bind fun bt238 => ((fixed_Div.f k (wrap64 (-x0)) (wrap64 (-x1))).bind fun bt240 => ((fixed_Div.f k (wrap64 (-x0)) x1).bind fun bt242 => (if bt232.1 = bt234.1 then (if bt232.2 = bt234.2 then (if bt232.1 = bt236.1 then (if bt232.2 = bt236.2 then (if bt238.1 = bt240.1 then (if bt238.2 = bt240.2 then (if bt242.1 = (wrap64 (-bt238.1)) then (if bt242.2 = bt238.2 then ((papermilllaw23_awake.f k).bind fun t244 => (some t244)) else (some false)) else (some false)) else (some false)) else (some false)) else (some false)) else (some false)) else (some false)) else (some false))))))))
def papermilllaw23_FixedSigns.f (k : Nat) (a0 : Int) (a1 : Int) : Option (Bool) := if a0 < (-1099511627776) then (papermilllaw23_FixedSigns.j0 k a0 a1 true) else (if a0 > 1099511627776 then (papermilllaw23_FixedSigns.j0 k a0 a1 true) else (if a1 < (-1099511627776) then (papermilllaw23_FixedSigns.j0 k a0 a1 true) else (papermilllaw23_FixedSigns.j0 k a0 a1 (decide (a1 > 1099511627776)))))
theorem papermilllaw23_FixedSigns.mono_l : ∀ k, (∀ y0 y1 y2, LeO (papermilllaw23_FixedSigns.j0 k y0 y1 y2) (papermilllaw23_FixedSigns.j0 (k + 1) y0 y1 y2))
  | 0 => fun _ _ _ r h => by simp [papermilllaw23_FixedSigns.j0] at h
  | k + 1 => by
    have ih0 := papermilllaw23_FixedSigns.mono_l k
    · intro y0 y1 y2
      unfold papermilllaw23_FixedSigns.j0
      repeat' first
      | (with_reducible exact ih0 _ _ _)
      | (with_reducible exact fixed_Div.mono _ _ _)
      | (with_reducible exact fixed_Mul.mono _ _ _)
      | (with_reducible exact papermilllaw23_awake.mono _)
      | (with_reducible exact LeO.refl _)
      | (with_reducible exact LeO.none _)
      | (with_reducible refine LeO.ite ?_ ?_)
      | (with_reducible refine LeO.bind ?_ (fun _ => ?_))
      | exact ih0 _ _ _
      | exact fixed_Div.mono _ _ _
      | exact fixed_Mul.mono _ _ _
      | exact papermilllaw23_awake.mono _
      | exact LeO.none _
      | refine LeO.ite ?_ ?_
      | refine LeO.bind ?_ (fun _ => ?_)
theorem papermilllaw23_FixedSigns.mono : ∀ a0 a1 k, LeO (papermilllaw23_FixedSigns.f k a0 a1) (papermilllaw23_FixedSigns.f (k + 1) a0 a1) := by
  intro a0 a1 k
  have ih0 := papermilllaw23_FixedSigns.mono_l k
  unfold papermilllaw23_FixedSigns.f
  repeat' first
      | (with_reducible exact ih0 _ _ _)
      | (with_reducible exact fixed_Div.mono _ _ _)
      | (with_reducible exact fixed_Mul.mono _ _ _)
      | (with_reducible exact papermilllaw23_awake.mono _)
      | (with_reducible exact LeO.refl _)
      | (with_reducible exact LeO.none _)
      | (with_reducible refine LeO.ite ?_ ?_)
      | (with_reducible refine LeO.bind ?_ (fun _ => ?_))
      | exact ih0 _ _ _
      | exact fixed_Div.mono _ _ _
      | exact fixed_Mul.mono _ _ _
      | exact papermilllaw23_awake.mono _
      | exact LeO.none _
      | refine LeO.ite ?_ ?_
      | refine LeO.bind ?_ (fun _ => ?_)
set_option maxHeartbeats 8000000 in
set_option maxRecDepth 100000 in
theorem papermilllaw23_FixedSigns.calls (k : Nat) (a0 : Int) (a1 : Int) (r : Bool) (w : World) (hr_ : Aside0 (r = true)) (h : papermilllaw23_FixedSigns.f k a0 a1 = some r) :
    Calls Try.prog 8 #[.int .i64 a0, .int .i64 a1] w fun e w' => e = .returned (.bool r) ∧ Below w.heap.size w w' := by
  have HB := Aside0.mk (Below.refl w.heap.size w)
  have H : (if a0 < (-1099511627776) then (papermilllaw23_FixedSigns.j0 k a0 a1 true) else (if a0 > 1099511627776 then (papermilllaw23_FixedSigns.j0 k a0 a1 true) else (if a1 < (-1099511627776) then (papermilllaw23_FixedSigns.j0 k a0 a1 true) else (papermilllaw23_FixedSigns.j0 k a0 a1 (decide (a1 > 1099511627776)))))) = some r := h
  clear h
  have HC3 := Aside0.mk H
  clear H
  go_enter Try.func8, Try.ntmps8
  go_upto_region 1 with (fail)
  go_cut [30] (fun v30 wc => ∃ (kq : Nat) (x30_2 : Bool), v30 = .bool x30_2 ∧ Aside0 (papermilllaw23_FixedSigns.j0 kq a0 a1 x30_2 = some r) ∧ Aside0 (kq ≤ k) ∧ Aside0 (Below w.heap.size w wc))
  case first =>
    have H := HC3.out
    clear HC3
    by_cases c4 : a0 < (-1099511627776)
    · rw [if_pos c4] at H
      have c4b0 : decide (a0 < (-1099511627776)) = true := decide_eq_true c4
      clear c4
      (first | rw [c4b0] | (simp only [i64_w, i32_w]; rw [c4b0]) | skip)
      have H' := Aside0.mk H
      clear H
      go_wp2
      go_meet
      case rel => exact ⟨_, (true), (by first | rfl | (simp; done) | (simp [*]; done)), H', ⟨by first | omega | exact Nat.le_refl _⟩, ⟨by repeat (first | (with_reducible first | exact HB.out | apply below_alloc | apply pw_below_drewN | apply below_drew1) | exact HB.out)⟩⟩
    · rw [if_neg c4] at H
      have c4b0 : decide (a0 < (-1099511627776)) = false := decide_eq_false c4
      clear c4
      (first | rw [c4b0] | (simp only [i64_w, i32_w]; rw [c4b0]) | skip)
      by_cases c5 : a0 > 1099511627776
      · rw [if_pos c5] at H
        have c5b0 : decide (1099511627776 < a0) = true := decide_eq_true c5
        clear c5
        have H' := Aside0.mk H
        clear H
        go_wp2
        go_meet
        case rel => exact ⟨_, (true), (by first | rfl | (simp; done) | (simp [*]; done)), H', ⟨by first | omega | exact Nat.le_refl _⟩, ⟨by repeat (first | (with_reducible first | exact HB.out | apply below_alloc | apply pw_below_drewN | apply below_drew1) | exact HB.out)⟩⟩
      · rw [if_neg c5] at H
        have c5b0 : decide (1099511627776 < a0) = false := decide_eq_false c5
        clear c5
        by_cases c6 : a1 < (-1099511627776)
        · rw [if_pos c6] at H
          have c6b0 : decide (a1 < (-1099511627776)) = true := decide_eq_true c6
          clear c6
          have H' := Aside0.mk H
          clear H
          go_wp2
          go_meet
          case rel => exact ⟨_, (true), (by first | rfl | (simp; done) | (simp [*]; done)), H', ⟨by first | omega | exact Nat.le_refl _⟩, ⟨by repeat (first | (with_reducible first | exact HB.out | apply below_alloc | apply pw_below_drewN | apply below_drew1) | exact HB.out)⟩⟩
        · rw [if_neg c6] at H
          have c6b0 : decide (a1 < (-1099511627776)) = false := decide_eq_false c6
          clear c6
          have H' := Aside0.mk H
          clear H
          go_wp2
          go_meet
          case rel => exact ⟨_, (decide (a1 > 1099511627776)), (by first | rfl | (simp; done) | (simp [*]; done)), H', ⟨by first | omega | exact Nat.le_refl _⟩, ⟨by repeat (first | (with_reducible first | exact HB.out | apply below_alloc | apply pw_below_drewN | apply below_drew1) | exact HB.out)⟩⟩
  case rest =>
    clear HC3
    try clear p2
    try clear c4
    try clear c4b0
    try clear c5
    try clear c5b0
    try clear c6
    try clear c6b0
    obtain ⟨kq, x30_2, rfl, HA, HJ2, HB⟩ := hcut
    cases kq with
    | zero => exact absurd HA.out (by simp [papermilllaw23_FixedSigns.j0])
    | succ kj2 =>
      have H := HA.out
      clear HA
      simp only [papermilllaw23_FixedSigns.j0] at H
      by_cases c7 : x30_2 = true
      · subst c7
        have H1 : ((papermilllaw23_awake.f kj2).bind fun t231 => (some t231)) = some r := by rw [if_pos rfl] at H; exact H
        clear H
        have H := H1
        clear H1
        replace H := Option.bind_eq_some_iff.mp H
        obtain ⟨t231, A80, H⟩ := H
        replace H : (some t231) = some r := H
        have A8 := Aside0.mk A80
        clear A80
        first
          | exact absurd ((Option.some.inj H).trans hr_.out) (by decide)
          | (skip
             obtain rfl := Option.some.inj H
             go_wp2_with (first | ((with_reducible refine gate_callee (f := 16) rfl ?_); refine goesL_ (some 31) rfl rfl Try.func16 (by kernel_rfl) rfl #[] rfl (by (try simp only [List.map_toArray, List.map_cons, List.map_nil]); first | done | rfl | (simp only [List.length_drop, List.length_take]; rfl)) ?_; (with_reducible refine (papermilllaw23_awake.calls kj2  t231 _ A8.out).mono ?_); rintro e w9 ⟨rfl, hb⟩; refine ⟨_, rfl, ?_⟩; have n0_ := Aside0.mk (below_step (by repeat (first | (with_reducible first | exact HB.out | apply below_alloc | apply pw_below_drewN | apply below_drew1) | exact HB.out)) hb); clear HB; have HB := n0_; clear n0_; (try clear hb); (try clear hb2); (try clear hk); (try clear hi)))
             go_ret
             exact ⟨by first | rfl | (simp [errW_none, errW_some] <;> rfl) | (simp [*, errW_none, errW_some] <;> rfl), by repeat (first | (with_reducible first | exact HB.out | apply below_alloc | apply pw_below_drewN | apply below_drew1) | exact HB.out)⟩)
      · replace c7 := Bool.eq_false_iff.mpr c7
        subst c7
        have H1 : ((fixed_Mul.f kj2 a0 a1).bind fun bt232 => ((fixed_Mul.f kj2 a1 a0).bind fun bt234 => ((fixed_Mul.f kj2 (wrap64 (-a0)) (wrap64 (-a1))).bind fun bt236 => ((fixed_Div.f kj2 a0 a1).bind fun bt238 => ((fixed_Div.f kj2 (wrap64 (-a0)) (wrap64 (-a1))).bind fun bt240 => ((fixed_Div.f kj2 (wrap64 (-a0)) a1).bind fun bt242 => (if bt232.1 = bt234.1 then (if bt232.2 = bt234.2 then (if bt232.1 = bt236.1 then (if bt232.2 = bt236.2 then (if bt238.1 = bt240.1 then (if bt238.2 = bt240.2 then (if bt242.1 = (wrap64 (-bt238.1)) then (if bt242.2 = bt238.2 then ((papermilllaw23_awake.f kj2).bind fun t244 => (some t244)) else (some false)) else (some false)) else (some false)) else (some false)) else (some false)) else (some false)) else (some false)) else (some false)))))))) = some r := by rw [if_neg (show ¬ (false = true) by decide)] at H; exact H
        clear H
        have H := H1
        clear H1
        replace H := Option.bind_eq_some_iff.mp H
        obtain ⟨⟨t232, t233⟩, A100, H⟩ := H
        replace H : ((fixed_Mul.f kj2 a1 a0).bind fun bt234 => ((fixed_Mul.f kj2 (wrap64 (-a0)) (wrap64 (-a1))).bind fun bt236 => ((fixed_Div.f kj2 a0 a1).bind fun bt238 => ((fixed_Div.f kj2 (wrap64 (-a0)) (wrap64 (-a1))).bind fun bt240 => ((fixed_Div.f kj2 (wrap64 (-a0)) a1).bind fun bt242 => (if t232 = bt234.1 then (if t233 = bt234.2 then (if t232 = bt236.1 then (if t233 = bt236.2 then (if bt238.1 = bt240.1 then (if bt238.2 = bt240.2 then (if bt242.1 = (wrap64 (-bt238.1)) then (if bt242.2 = bt238.2 then ((papermilllaw23_awake.f kj2).bind fun t244 => (some t244)) else (some false)) else (some false)) else (some false)) else (some false)) else (some false)) else (some false)) else (some false)) else (some false))))))) = some r := H
        have A10 := Aside0.mk A100
        clear A100
        replace H := Option.bind_eq_some_iff.mp H
        obtain ⟨⟨t234, t235⟩, A110, H⟩ := H
        replace H : ((fixed_Mul.f kj2 (wrap64 (-a0)) (wrap64 (-a1))).bind fun bt236 => ((fixed_Div.f kj2 a0 a1).bind fun bt238 => ((fixed_Div.f kj2 (wrap64 (-a0)) (wrap64 (-a1))).bind fun bt240 => ((fixed_Div.f kj2 (wrap64 (-a0)) a1).bind fun bt242 => (if t232 = t234 then (if t233 = t235 then (if t232 = bt236.1 then (if t233 = bt236.2 then (if bt238.1 = bt240.1 then (if bt238.2 = bt240.2 then (if bt242.1 = (wrap64 (-bt238.1)) then (if bt242.2 = bt238.2 then ((papermilllaw23_awake.f kj2).bind fun t244 => (some t244)) else (some false)) else (some false)) else (some false)) else (some false)) else (some false)) else (some false)) else (some false)) else (some false)))))) = some r := H
        have A11 := Aside0.mk A110
        clear A110
        replace H := Option.bind_eq_some_iff.mp H
        obtain ⟨⟨t236, t237⟩, A120, H⟩ := H
        replace H : ((fixed_Div.f kj2 a0 a1).bind fun bt238 => ((fixed_Div.f kj2 (wrap64 (-a0)) (wrap64 (-a1))).bind fun bt240 => ((fixed_Div.f kj2 (wrap64 (-a0)) a1).bind fun bt242 => (if t232 = t234 then (if t233 = t235 then (if t232 = t236 then (if t233 = t237 then (if bt238.1 = bt240.1 then (if bt238.2 = bt240.2 then (if bt242.1 = (wrap64 (-bt238.1)) then (if bt242.2 = bt238.2 then ((papermilllaw23_awake.f kj2).bind fun t244 => (some t244)) else (some false)) else (some false)) else (some false)) else (some false)) else (some false)) else (some false)) else (some false)) else (some false))))) = some r := H
        have A12 := Aside0.mk A120
        clear A120
        replace H := Option.bind_eq_some_iff.mp H
        obtain ⟨⟨t238, t239⟩, A130, H⟩ := H
        replace H : ((fixed_Div.f kj2 (wrap64 (-a0)) (wrap64 (-a1))).bind fun bt240 => ((fixed_Div.f kj2 (wrap64 (-a0)) a1).bind fun bt242 => (if t232 = t234 then (if t233 = t235 then (if t232 = t236 then (if t233 = t237 then (if t238 = bt240.1 then (if t239 = bt240.2 then (if bt242.1 = (wrap64 (-t238)) then (if bt242.2 = t239 then ((papermilllaw23_awake.f kj2).bind fun t244 => (some t244)) else (some false)) else (some false)) else (some false)) else (some false)) else (some false)) else (some false)) else (some false)) else (some false)))) = some r := H
        have A13 := Aside0.mk A130
        clear A130
        replace H := Option.bind_eq_some_iff.mp H
        obtain ⟨⟨t240, t241⟩, A140, H⟩ := H
        replace H : ((fixed_Div.f kj2 (wrap64 (-a0)) a1).bind fun bt242 => (if t232 = t234 then (if t233 = t235 then (if t232 = t236 then (if t233 = t237 then (if t238 = t240 then (if t239 = t241 then (if bt242.1 = (wrap64 (-t238)) then (if bt242.2 = t239 then ((papermilllaw23_awake.f kj2).bind fun t244 => (some t244)) else (some false)) else (some false)) else (some false)) else (some false)) else (some false)) else (some false)) else (some false)) else (some false))) = some r := H
        have A14 := Aside0.mk A140
        clear A140
        replace H := Option.bind_eq_some_iff.mp H
        obtain ⟨⟨t242, t243⟩, A150, H⟩ := H
        replace H : (if t232 = t234 then (if t233 = t235 then (if t232 = t236 then (if t233 = t237 then (if t238 = t240 then (if t239 = t241 then (if t242 = (wrap64 (-t238)) then (if t243 = t239 then ((papermilllaw23_awake.f kj2).bind fun t244 => (some t244)) else (some false)) else (some false)) else (some false)) else (some false)) else (some false)) else (some false)) else (some false)) else (some false)) = some r := H
        have A15 := Aside0.mk A150
        clear A150
        by_cases c16 : t232 = t234
        · rw [if_pos c16] at H
          have c16b0 : (t232 == t234) = true := beq_iff_eq.mpr c16
          have c16b1 : (t232 != t234) = false := bne_eq_false_iff_eq.mpr c16
          clear c16
          by_cases c17 : t233 = t235
          · rw [if_pos c17] at H
            have c17b0 : (t233 == t235) = true := beq_iff_eq.mpr c17
            have c17b1 : (t233 != t235) = false := bne_eq_false_iff_eq.mpr c17
            clear c17
            by_cases c18 : t232 = t236
            · rw [if_pos c18] at H
              have c18b0 : (t232 == t236) = true := beq_iff_eq.mpr c18
              have c18b1 : (t232 != t236) = false := bne_eq_false_iff_eq.mpr c18
              clear c18
              by_cases c19 : t233 = t237
              · rw [if_pos c19] at H
                have c19b0 : (t233 == t237) = true := beq_iff_eq.mpr c19
                have c19b1 : (t233 != t237) = false := bne_eq_false_iff_eq.mpr c19
                clear c19
                by_cases c20 : t238 = t240
                · rw [if_pos c20] at H
                  have c20b0 : (t238 == t240) = true := beq_iff_eq.mpr c20
                  have c20b1 : (t238 != t240) = false := bne_eq_false_iff_eq.mpr c20
                  clear c20
                  by_cases c21 : t239 = t241
                  · rw [if_pos c21] at H
                    have c21b0 : (t239 == t241) = true := beq_iff_eq.mpr c21
                    have c21b1 : (t239 != t241) = false := bne_eq_false_iff_eq.mpr c21
                    clear c21
                    by_cases c22 : t242 = (wrap64 (-t238))
                    · rw [if_pos c22] at H
                      have c22b0 : (t242 == (wrap64 (-t238))) = true := beq_iff_eq.mpr c22
                      have c22b1 : (t242 != (wrap64 (-t238))) = false := bne_eq_false_iff_eq.mpr c22
                      clear c22
                      by_cases c23 : t243 = t239
                      · rw [if_pos c23] at H
                        have c23b0 : (t243 == t239) = true := beq_iff_eq.mpr c23
                        have c23b1 : (t243 != t239) = false := bne_eq_false_iff_eq.mpr c23
                        clear c23
                        replace H := Option.bind_eq_some_iff.mp H
                        obtain ⟨t244, A240, H⟩ := H
                        replace H : (some t244) = some r := H
                        have A24 := Aside0.mk A240
                        clear A240
                        first
                          | exact absurd ((Option.some.inj H).trans hr_.out) (by decide)
                          | (skip
                             obtain rfl := Option.some.inj H
                             go_wp2_with (first | ((with_reducible refine gate_callee (f := 19) rfl ?_); refine goesL_ (some 35) rfl rfl Try.func19 (by kernel_rfl) rfl #[.int .i64 a0, .int .i64 a1] rfl (by (try simp only [List.map_toArray, List.map_cons, List.map_nil]); first | done | rfl | (simp only [List.length_drop, List.length_take]; rfl)) ?_; (with_reducible refine (fixed_Mul.calls kj2 a0 a1 t232 t233 _ A10.out).mono ?_); rintro e w25 ⟨rfl, hb⟩; refine ⟨_, rfl, ?_⟩; have n0_ := Aside0.mk (below_step (by repeat (first | (with_reducible first | exact HB.out | apply below_alloc | apply pw_below_drewN | apply below_drew1) | exact HB.out)) hb); clear HB; have HB := n0_; clear n0_; (try clear hb); (try clear hb2); (try clear hk); (try clear hi)) | ((with_reducible refine gate_callee (f := 19) rfl ?_); refine goesL_ (some 41) rfl rfl Try.func19 (by kernel_rfl) rfl #[.int .i64 a1, .int .i64 a0] rfl (by (try simp only [List.map_toArray, List.map_cons, List.map_nil]); first | done | rfl | (simp only [List.length_drop, List.length_take]; rfl)) ?_; (with_reducible refine (fixed_Mul.calls kj2 a1 a0 t234 t235 _ A11.out).mono ?_); rintro e w26 ⟨rfl, hb⟩; refine ⟨_, rfl, ?_⟩; have n0_ := Aside0.mk (below_step (by repeat (first | (with_reducible first | exact HB.out | apply below_alloc | apply pw_below_drewN | apply below_drew1) | exact HB.out)) hb); clear HB; have HB := n0_; clear n0_; (try clear hb); (try clear hb2); (try clear hk); (try clear hi)) | ((with_reducible refine gate_callee (f := 19) rfl ?_); refine goesL_ (some 49) rfl rfl Try.func19 (by kernel_rfl) rfl #[.int .i64 (wrap64 (-a0)), .int .i64 (wrap64 (-a1))] rfl (by (try simp only [List.map_toArray, List.map_cons, List.map_nil]); first | done | rfl | (simp only [List.length_drop, List.length_take]; rfl)) ?_; (with_reducible refine (fixed_Mul.calls kj2 (wrap64 (-a0)) (wrap64 (-a1)) t236 t237 _ A12.out).mono ?_); rintro e w27 ⟨rfl, hb⟩; refine ⟨_, rfl, ?_⟩; have n0_ := Aside0.mk (below_step (by repeat (first | (with_reducible first | exact HB.out | apply below_alloc | apply pw_below_drewN | apply below_drew1) | exact HB.out)) hb); clear HB; have HB := n0_; clear n0_; (try clear hb); (try clear hb2); (try clear hk); (try clear hi)) | ((with_reducible refine gate_callee (f := 21) rfl ?_); refine goesL_ (some 55) rfl rfl Try.func21 (by kernel_rfl) rfl #[.int .i64 a0, .int .i64 a1] rfl (by (try simp only [List.map_toArray, List.map_cons, List.map_nil]); first | done | rfl | (simp only [List.length_drop, List.length_take]; rfl)) ?_; (with_reducible refine (fixed_Div.calls kj2 a0 a1 t238 t239 _ A13.out).mono ?_); rintro e w28 ⟨rfl, hb⟩; refine ⟨_, rfl, ?_⟩; have n0_ := Aside0.mk (below_step (by repeat (first | (with_reducible first | exact HB.out | apply below_alloc | apply pw_below_drewN | apply below_drew1) | exact HB.out)) hb); clear HB; have HB := n0_; clear n0_; (try clear hb); (try clear hb2); (try clear hk); (try clear hi)) | ((with_reducible refine gate_callee (f := 21) rfl ?_); refine goesL_ (some 63) rfl rfl Try.func21 (by kernel_rfl) rfl #[.int .i64 (wrap64 (-a0)), .int .i64 (wrap64 (-a1))] rfl (by (try simp only [List.map_toArray, List.map_cons, List.map_nil]); first | done | rfl | (simp only [List.length_drop, List.length_take]; rfl)) ?_; (with_reducible refine (fixed_Div.calls kj2 (wrap64 (-a0)) (wrap64 (-a1)) t240 t241 _ A14.out).mono ?_); rintro e w29 ⟨rfl, hb⟩; refine ⟨_, rfl, ?_⟩; have n0_ := Aside0.mk (below_step (by repeat (first | (with_reducible first | exact HB.out | apply below_alloc | apply pw_below_drewN | apply below_drew1) | exact HB.out)) hb); clear HB; have HB := n0_; clear n0_; (try clear hb); (try clear hb2); (try clear hk); (try clear hi)) | ((with_reducible refine gate_callee (f := 21) rfl ?_); refine goesL_ (some 70) rfl rfl Try.func21 (by kernel_rfl) rfl #[.int .i64 (wrap64 (-a0)), .int .i64 a1] rfl (by (try simp only [List.map_toArray, List.map_cons, List.map_nil]); first | done | rfl | (simp only [List.length_drop, List.length_take]; rfl)) ?_; (with_reducible refine (fixed_Div.calls kj2 (wrap64 (-a0)) a1 t242 t243 _ A15.out).mono ?_); rintro e w30 ⟨rfl, hb⟩; refine ⟨_, rfl, ?_⟩; have n0_ := Aside0.mk (below_step (by repeat (first | (with_reducible first | exact HB.out | apply below_alloc | apply pw_below_drewN | apply below_drew1) | exact HB.out)) hb); clear HB; have HB := n0_; clear n0_; (try clear hb); (try clear hb2); (try clear hk); (try clear hi)) | (go_at_call 16; (with_reducible refine (papermilllaw23_awake.calls kj2  t244 _ A24.out).mono ?_); rintro e w31 ⟨rfl, hb⟩; have n0_ := Aside0.mk (below_step (by repeat (first | (with_reducible first | exact HB.out | apply below_alloc | apply pw_below_drewN | apply below_drew1) | exact HB.out)) hb); clear HB; have HB := n0_; clear n0_; (try clear hb); (try clear hb2); (try clear hk); (try clear hi)))
                             go_ret
                             exact ⟨by first | rfl | (simp [errW_none, errW_some] <;> rfl) | (simp [*, errW_none, errW_some] <;> rfl), by repeat (first | (with_reducible first | exact HB.out | apply below_alloc | apply pw_below_drewN | apply below_drew1) | exact HB.out)⟩)
                      · rw [if_neg c23] at H
                        have c23b0 : (t243 == t239) = false := beq_eq_false_iff_ne.mpr c23
                        have c23b1 : (t243 != t239) = true := bne_iff_ne.mpr c23
                        exact absurd ((Option.some.inj H).trans hr_.out) (by decide)
                    · rw [if_neg c22] at H
                      have c22b0 : (t242 == (wrap64 (-t238))) = false := beq_eq_false_iff_ne.mpr c22
                      have c22b1 : (t242 != (wrap64 (-t238))) = true := bne_iff_ne.mpr c22
                      exact absurd ((Option.some.inj H).trans hr_.out) (by decide)
                  · rw [if_neg c21] at H
                    have c21b0 : (t239 == t241) = false := beq_eq_false_iff_ne.mpr c21
                    have c21b1 : (t239 != t241) = true := bne_iff_ne.mpr c21
                    exact absurd ((Option.some.inj H).trans hr_.out) (by decide)
                · rw [if_neg c20] at H
                  have c20b0 : (t238 == t240) = false := beq_eq_false_iff_ne.mpr c20
                  have c20b1 : (t238 != t240) = true := bne_iff_ne.mpr c20
                  exact absurd ((Option.some.inj H).trans hr_.out) (by decide)
              · rw [if_neg c19] at H
                have c19b0 : (t233 == t237) = false := beq_eq_false_iff_ne.mpr c19
                have c19b1 : (t233 != t237) = true := bne_iff_ne.mpr c19
                exact absurd ((Option.some.inj H).trans hr_.out) (by decide)
            · rw [if_neg c18] at H
              have c18b0 : (t232 == t236) = false := beq_eq_false_iff_ne.mpr c18
              have c18b1 : (t232 != t236) = true := bne_iff_ne.mpr c18
              exact absurd ((Option.some.inj H).trans hr_.out) (by decide)
          · rw [if_neg c17] at H
            have c17b0 : (t233 == t235) = false := beq_eq_false_iff_ne.mpr c17
            have c17b1 : (t233 != t235) = true := bne_iff_ne.mpr c17
            exact absurd ((Option.some.inj H).trans hr_.out) (by decide)
        · rw [if_neg c16] at H
          have c16b0 : (t232 == t234) = false := beq_eq_false_iff_ne.mpr c16
          have c16b1 : (t232 != t234) = true := bne_iff_ne.mpr c16
          exact absurd ((Option.some.inj H).trans hr_.out) (by decide)

/-- THE ONE PURE STATEMENT of papermilllaw23_FixedSigns: yours. -/
def papermilllaw23_FixedSigns.Pure : Prop := ∀ (a0 : Int) (a1 : Int), (Lit.int .i64 a0).wf = true → (Lit.int .i64 a1).wf = true → ∃ k, papermilllaw23_FixedSigns.f k a0 a1 = some true
theorem papermilllaw23_FixedSigns.walk (P : papermilllaw23_FixedSigns.Pure) (a0 : Int) (a1 : Int) (w : World) (w0 : (Lit.int .i64 a0).wf = true) (w1 : (Lit.int .i64 a1).wf = true) :
    Calls Try.prog 8 #[.int .i64 a0, .int .i64 a1] w fun e w' => e = .returned (.bool true) ∧ Below w.heap.size w w' := by
  obtain ⟨k, h⟩ := P a0 a1 w0 w1
  refine (papermilllaw23_FixedSigns.calls k a0 a1 true w ⟨rfl⟩ h).mono ?_
  rintro e w' ⟨rfl, hd⟩
  exact ⟨rfl, hd⟩

end Go.Proofs.Ytpmopomiadaonaa.P
