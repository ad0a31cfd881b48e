-- Written by a program (wip/prog/pp.py) over the kit's print; some of its functions are proved by hand. Not trusted: Lean checks it.
import Derived.Test.YtpmopomiadaonaaPx0
import Derived.Test.YtpmopomiadaonaaPx8
import Derived.Test.YtpmopomiadaonaaPx9
import Derived.Test.YtpmopomiadaonaaPx12
namespace Go.Proofs.Ytpmopomiadaonaa.P
open Go.RowKit Go.Proofs.YtpmopomiadaonaaW.PrintWords Go.Proofs.YtpmopomiadaonaaW.PrintLast Go.Proofs.YtpmopomiadaonaaW.PrintMore
attribute [local go_sem] max2_int min2_int max_two min_two max_three min_three max_four min_four   -- for this text's walks alone
set_option linter.unusedVariables false
set_option linter.unusedSimpArgs false

/-! ### papermilllaw23_FixedBack: function 9 -/
def papermilllaw23_FixedBack.j0 : Nat → Int → Int → Int → Bool → Option (Bool)
  | 0, _, _, _, _ => none
  | k + 1, x0, x1, x5, x22 => if x22 = true then ((papermilllaw23_awake.f k).bind fun t247 => (some t247)) else ((fixed_Div.f k x5 x1).bind fun bt248 => (if bt248.2 = 0 then (if x1 < 0 then (if (wrap64 (-x1)) < 1 then (some false) else (if (wrap64 (-x1)) > 1099511627776 then (some false) else (if x0 < (-1099511627776) then (some false) else (if x0 > 1099511627776 then (some false) else (if bt248.1 < (-1099511627776) then (some false) else (if bt248.1 > 1099511627776 then (some false) else (if (wrap64 (-x1)) = 0 then (none) else (if (wrap64 (bt248.1 - x0)) ≤ (wrap64 (Int.tdiv (wrap64 ((wrap64 (65536 + (wrap64 (-x1)))) - 1)) (wrap64 (-x1)))) then (if (wrap64 (x0 - bt248.1)) ≤ (wrap64 (Int.tdiv (wrap64 ((wrap64 (65536 + (wrap64 (-x1)))) - 1)) (wrap64 (-x1)))) then ((papermilllaw23_awake.f k).bind fun t251 => (some t251)) else (some false)) else (some false))))))))) else (if x1 < 1 then (some false) else (if x1 > 1099511627776 then (some false) else (if x0 < (-1099511627776) then (some false) else (if x0 > 1099511627776 then (some false) else (if bt248.1 < (-1099511627776) then (some false) else (if bt248.1 > 1099511627776 then (some false) else (if x1 = 0 then (none) else (if (wrap64 (bt248.1 - x0)) ≤ (wrap64 (Int.tdiv (wrap64 ((wrap64 (65536 + x1)) - 1)) x1)) then (if (wrap64 (x0 - bt248.1)) ≤ (wrap64 (Int.tdiv (wrap64 ((wrap64 (65536 + x1)) - 1)) x1)) then ((papermilllaw23_awake.f k).bind fun t252 => (some t252)) else (some false)) else (some false)))))))))) else (if bt248.2 = 2 then (if bt248.1 = 0 then ((papermilllaw23_awake.f k).bind fun t250 => (some t250)) else (some false)) else (some false))))
def papermilllaw23_FixedBack.f (k : Nat) (a0 : Int) (a1 : Int) : Option (Bool) := (fixed_Mul.f k a0 a1).bind fun bt245 => (if bt245.2 = 0 then (papermilllaw23_FixedBack.j0 k a0 a1 bt245.1 (a1 == 0)) else (papermilllaw23_FixedBack.j0 k a0 a1 bt245.1 true))
theorem papermilllaw23_FixedBack.mono_l : ∀ k, (∀ y0 y1 y2 y3, LeO (papermilllaw23_FixedBack.j0 k y0 y1 y2 y3) (papermilllaw23_FixedBack.j0 (k + 1) y0 y1 y2 y3))
  | 0 => fun _ _ _ _ r h => by simp [papermilllaw23_FixedBack.j0] at h
  | k + 1 => by
    have ih0 := papermilllaw23_FixedBack.mono_l k
    · intro y0 y1 y2 y3
      unfold papermilllaw23_FixedBack.j0
      repeat' first
      | (with_reducible exact ih0 _ _ _ _)
      | (with_reducible exact fixed_Div.mono _ _ _)
      | (with_reducible exact fixed_Mul.mono _ _ _)
      | (with_reducible exact papermilllaw23_awake.mono _)
      | (with_reducible exact LeO.refl _)
      | (with_reducible exact LeO.none _)
      | (with_reducible refine LeO.ite ?_ ?_)
      | (with_reducible refine LeO.bind ?_ (fun _ => ?_))
      | exact ih0 _ _ _ _
      | exact fixed_Div.mono _ _ _
      | exact fixed_Mul.mono _ _ _
      | exact papermilllaw23_awake.mono _
      | exact LeO.none _
      | refine LeO.ite ?_ ?_
      | refine LeO.bind ?_ (fun _ => ?_)
theorem papermilllaw23_FixedBack.mono : ∀ a0 a1 k, LeO (papermilllaw23_FixedBack.f k a0 a1) (papermilllaw23_FixedBack.f (k + 1) a0 a1) := by
  intro a0 a1 k
  have ih0 := papermilllaw23_FixedBack.mono_l k
  unfold papermilllaw23_FixedBack.f
  repeat' first
      | (with_reducible exact ih0 _ _ _ _)
      | (with_reducible exact fixed_Div.mono _ _ _)
      | (with_reducible exact fixed_Mul.mono _ _ _)
      | (with_reducible exact papermilllaw23_awake.mono _)
      | (with_reducible exact LeO.refl _)
      | (with_reducible exact LeO.none _)
      | (with_reducible refine LeO.ite ?_ ?_)
      | (with_reducible refine LeO.bind ?_ (fun _ => ?_))
      | exact ih0 _ _ _ _
      | exact fixed_Div.mono _ _ _
      | exact fixed_Mul.mono _ _ _
      | exact papermilllaw23_awake.mono _
      | exact LeO.none _
      | refine LeO.ite ?_ ?_
      | refine LeO.bind ?_ (fun _ => ?_)
set_option maxHeartbeats 8000000 in
set_option maxRecDepth 100000 in
theorem papermilllaw23_FixedBack.calls (k : Nat) (a0 : Int) (a1 : Int) (r : Bool) (w : World) (hr_ : Aside0 (r = true)) (h : papermilllaw23_FixedBack.f k a0 a1 = some r) :
    Calls Try.prog 9 #[.int .i64 a0, .int .i64 a1] w fun e w' => e = .returned (.bool r) ∧ Below w.heap.size w w' := by
  have HB := Aside0.mk (Below.refl w.heap.size w)
  have H : ((fixed_Mul.f k a0 a1).bind fun bt245 => (if bt245.2 = 0 then (papermilllaw23_FixedBack.j0 k a0 a1 bt245.1 (a1 == 0)) else (papermilllaw23_FixedBack.j0 k a0 a1 bt245.1 true))) = some r := h
  clear h
  replace H := Option.bind_eq_some_iff.mp H
  obtain ⟨⟨t245, t246⟩, A30, H⟩ := H
  replace H : (if t246 = 0 then (papermilllaw23_FixedBack.j0 k a0 a1 t245 (a1 == 0)) else (papermilllaw23_FixedBack.j0 k a0 a1 t245 true)) = some r := H
  have A3 := Aside0.mk A30
  clear A30
  have HC4 := Aside0.mk H
  clear H
  go_enter Try.func9, Try.ntmps9
  go_upto_region 2 with (first | ((with_reducible refine gate_callee (f := 19) rfl ?_); refine goesL_ (some 14) rfl rfl Try.func19 (by kernel_rfl) rfl #[.int .i64 a0, .int .i64 a1] rfl (by (try simp only [List.map_toArray, List.map_cons, List.map_nil]); first | done | rfl | (simp only [List.length_drop, List.length_take]; rfl)) ?_; (with_reducible refine (fixed_Mul.calls k a0 a1 t245 t246 _ A3.out).mono ?_); rintro e w5 ⟨rfl, hb⟩; refine ⟨_, rfl, ?_⟩; have n0_ := Aside0.mk (below_step (by repeat (first | (with_reducible first | exact HB.out | apply below_alloc | apply pw_below_drewN | apply below_drew1) | exact HB.out)) hb); clear HB; have HB := n0_; clear n0_; (try clear hb); (try clear hb2); (try clear hk); (try clear hi)))
  (try simp only [Act.put, List.setIfInBounds_toArray, List.set_cons_zero, List.set_cons_succ])
  go_cut [22] (fun v22 wc => ∃ (kq : Nat) (x22_3 : Bool), v22 = .bool x22_3 ∧ Aside0 (papermilllaw23_FixedBack.j0 kq a0 a1 t245 x22_3 = some r) ∧ Aside0 (kq ≤ k) ∧ Aside0 (Below w.heap.size w wc))
  case first =>
    have H := HC4.out
    clear HC4
    by_cases c6 : t246 = 0
    · rw [if_pos c6] at H
      have c6b0 : (t246 == 0) = true := beq_iff_eq.mpr c6
      have c6b1 : (t246 != 0) = false := bne_eq_false_iff_eq.mpr c6
      clear c6
      (first | rw [c6b0] | (simp only [i64_w, i32_w]; rw [c6b0]) | skip)
      have H' := Aside0.mk H
      clear H
      go_wp2
      go_meet
      case rel => exact ⟨_, ((a1 == 0)), (by first | rfl | (simp; done) | (simp [*]; done)), H', ⟨by first | omega | exact Nat.le_refl _⟩, ⟨by repeat (first | (with_reducible first | exact HB.out | apply below_alloc | apply pw_below_drewN | apply below_drew1) | exact HB.out)⟩⟩
    · rw [if_neg c6] at H
      have c6b0 : (t246 == 0) = false := beq_eq_false_iff_ne.mpr c6
      have c6b1 : (t246 != 0) = true := bne_iff_ne.mpr c6
      (first | rw [c6b0] | (simp only [i64_w, i32_w]; rw [c6b0]) | skip)
      have H' := Aside0.mk H
      clear H
      go_wp2
      go_meet
      case rel => exact ⟨_, (true), (by first | rfl | (simp; done) | (simp [*]; done)), H', ⟨by first | omega | exact Nat.le_refl _⟩, ⟨by repeat (first | (with_reducible first | exact HB.out | apply below_alloc | apply pw_below_drewN | apply below_drew1) | exact HB.out)⟩⟩
  case rest =>
    clear HC4
    try clear c1
    try clear p2
    try clear c6
    try clear c6b0
    try clear c6b1
    obtain ⟨kq, x22_3, rfl, HA, HJ3, HB⟩ := hcut
    cases kq with
    | zero => exact absurd HA.out (by simp [papermilllaw23_FixedBack.j0])
    | succ kj3 =>
      have H := HA.out
      clear HA
      simp only [papermilllaw23_FixedBack.j0] at H
      by_cases c7 : x22_3 = true
      · subst c7
        have H1 : ((papermilllaw23_awake.f kj3).bind fun t247 => (some t247)) = some r := by rw [if_pos rfl] at H; exact H
        clear H
        have H := H1
        clear H1
        replace H := Option.bind_eq_some_iff.mp H
        obtain ⟨t247, A80, H⟩ := H
        replace H : (some t247) = some r := H
        have A8 := Aside0.mk A80
        clear A80
        first
          | exact absurd ((Option.some.inj H).trans hr_.out) (by decide)
          | (skip
             obtain rfl := Option.some.inj H
             go_wp2_with (first | ((with_reducible refine gate_callee (f := 16) rfl ?_); refine goesL_ (some 23) rfl rfl Try.func16 (by kernel_rfl) rfl #[] rfl (by (try simp only [List.map_toArray, List.map_cons, List.map_nil]); first | done | rfl | (simp only [List.length_drop, List.length_take]; rfl)) ?_; (with_reducible refine (papermilllaw23_awake.calls kj3  t247 _ A8.out).mono ?_); rintro e w9 ⟨rfl, hb⟩; refine ⟨_, rfl, ?_⟩; have n0_ := Aside0.mk (below_step (by repeat (first | (with_reducible first | exact HB.out | apply below_alloc | apply pw_below_drewN | apply below_drew1) | exact HB.out)) hb); clear HB; have HB := n0_; clear n0_; (try clear hb); (try clear hb2); (try clear hk); (try clear hi)))
             go_ret
             exact ⟨by first | rfl | (simp [errW_none, errW_some] <;> rfl) | (simp [*, errW_none, errW_some] <;> rfl), by repeat (first | (with_reducible first | exact HB.out | apply below_alloc | apply pw_below_drewN | apply below_drew1) | exact HB.out)⟩)
      · replace c7 := Bool.eq_false_iff.mpr c7
        subst c7
        have H1 : ((fixed_Div.f kj3 t245 a1).bind fun bt248 => (if bt248.2 = 0 then (if a1 < 0 then (if (wrap64 (-a1)) < 1 then (some false) else (if (wrap64 (-a1)) > 1099511627776 then (some false) else (if a0 < (-1099511627776) then (some false) else (if a0 > 1099511627776 then (some false) else (if bt248.1 < (-1099511627776) then (some false) else (if bt248.1 > 1099511627776 then (some false) else (if (wrap64 (-a1)) = 0 then (none) else (if (wrap64 (bt248.1 - a0)) ≤ (wrap64 (Int.tdiv (wrap64 ((wrap64 (65536 + (wrap64 (-a1)))) - 1)) (wrap64 (-a1)))) then (if (wrap64 (a0 - bt248.1)) ≤ (wrap64 (Int.tdiv (wrap64 ((wrap64 (65536 + (wrap64 (-a1)))) - 1)) (wrap64 (-a1)))) then ((papermilllaw23_awake.f kj3).bind fun t251 => (some t251)) else (some false)) else (some false))))))))) else (if a1 < 1 then (some false) else (if a1 > 1099511627776 then (some false) else (if a0 < (-1099511627776) then (some false) else (if a0 > 1099511627776 then (some false) else (if bt248.1 < (-1099511627776) then (some false) else (if bt248.1 > 1099511627776 then (some false) else (if a1 = 0 then (none) else (if (wrap64 (bt248.1 - a0)) ≤ (wrap64 (Int.tdiv (wrap64 ((wrap64 (65536 + a1)) - 1)) a1)) then (if (wrap64 (a0 - bt248.1)) ≤ (wrap64 (Int.tdiv (wrap64 ((wrap64 (65536 + a1)) - 1)) a1)) then ((papermilllaw23_awake.f kj3).bind fun t252 => (some t252)) else (some false)) else (some false)))))))))) else (if bt248.2 = 2 then (if bt248.1 = 0 then ((papermilllaw23_awake.f kj3).bind fun t250 => (some t250)) else (some false)) else (some false)))) = some r := by rw [if_neg (show ¬ (false = true) by decide)] at H; exact H
        clear H
        have H := H1
        clear H1
        replace H := Option.bind_eq_some_iff.mp H
        obtain ⟨⟨t248, t249⟩, A100, H⟩ := H
        replace H : (if t249 = 0 then (if a1 < 0 then (if (wrap64 (-a1)) < 1 then (some false) else (if (wrap64 (-a1)) > 1099511627776 then (some false) else (if a0 < (-1099511627776) then (some false) else (if a0 > 1099511627776 then (some false) else (if t248 < (-1099511627776) then (some false) else (if t248 > 1099511627776 then (some false) else (if (wrap64 (-a1)) = 0 then (none) else (if (wrap64 (t248 - a0)) ≤ (wrap64 (Int.tdiv (wrap64 ((wrap64 (65536 + (wrap64 (-a1)))) - 1)) (wrap64 (-a1)))) then (if (wrap64 (a0 - t248)) ≤ (wrap64 (Int.tdiv (wrap64 ((wrap64 (65536 + (wrap64 (-a1)))) - 1)) (wrap64 (-a1)))) then ((papermilllaw23_awake.f kj3).bind fun t251 => (some t251)) else (some false)) else (some false))))))))) else (if a1 < 1 then (some false) else (if a1 > 1099511627776 then (some false) else (if a0 < (-1099511627776) then (some false) else (if a0 > 1099511627776 then (some false) else (if t248 < (-1099511627776) then (some false) else (if t248 > 1099511627776 then (some false) else (if a1 = 0 then (none) else (if (wrap64 (t248 - a0)) ≤ (wrap64 (Int.tdiv (wrap64 ((wrap64 (65536 + a1)) - 1)) a1)) then (if (wrap64 (a0 - t248)) ≤ (wrap64 (Int.tdiv (wrap64 ((wrap64 (65536 + a1)) - 1)) a1)) then ((papermilllaw23_awake.f kj3).bind fun t252 => (some t252)) else (some false)) else (some false)))))))))) else (if t249 = 2 then (if t248 = 0 then ((papermilllaw23_awake.f kj3).bind fun t250 => (some t250)) else (some false)) else (some false))) = some r := H
        have A10 := Aside0.mk A100
        clear A100
        by_cases c11 : t249 = 0
        · rw [if_pos c11] at H
          have c11b0 : (t249 == 0) = true := beq_iff_eq.mpr c11
          have c11b1 : (t249 != 0) = false := bne_eq_false_iff_eq.mpr c11
          clear c11
          by_cases c12 : a1 < 0
          · rw [if_pos c12] at H
            have c12b0 : decide (a1 < 0) = true := decide_eq_true c12
            clear c12
            by_cases c13 : (wrap64 (-a1)) < 1
            · rw [if_pos c13] at H
              have c13b0 : decide ((wrap64 (-a1)) < 1) = true := decide_eq_true c13
              clear c13
              exact absurd ((Option.some.inj H).trans hr_.out) (by decide)
            · rw [if_neg c13] at H
              have c13b0 : decide ((wrap64 (-a1)) < 1) = false := decide_eq_false c13
              clear c13
              by_cases c15 : (wrap64 (-a1)) > 1099511627776
              · rw [if_pos c15] at H
                have c15b0 : decide (1099511627776 < (wrap64 (-a1))) = true := decide_eq_true c15
                clear c15
                exact absurd ((Option.some.inj H).trans hr_.out) (by decide)
              · rw [if_neg c15] at H
                have c15b0 : decide (1099511627776 < (wrap64 (-a1))) = false := decide_eq_false c15
                clear c15
                by_cases c17 : a0 < (-1099511627776)
                · rw [if_pos c17] at H
                  have c17b0 : decide (a0 < (-1099511627776)) = true := decide_eq_true c17
                  clear c17
                  exact absurd ((Option.some.inj H).trans hr_.out) (by decide)
                · rw [if_neg c17] at H
                  have c17b0 : decide (a0 < (-1099511627776)) = false := decide_eq_false c17
                  clear c17
                  by_cases c19 : a0 > 1099511627776
                  · rw [if_pos c19] at H
                    have c19b0 : decide (1099511627776 < a0) = true := decide_eq_true c19
                    clear c19
                    exact absurd ((Option.some.inj H).trans hr_.out) (by decide)
                  · rw [if_neg c19] at H
                    have c19b0 : decide (1099511627776 < a0) = false := decide_eq_false c19
                    clear c19
                    by_cases c21 : t248 < (-1099511627776)
                    · rw [if_pos c21] at H
                      have c21b0 : decide (t248 < (-1099511627776)) = true := decide_eq_true c21
                      clear c21
                      exact absurd ((Option.some.inj H).trans hr_.out) (by decide)
                    · rw [if_neg c21] at H
                      have c21b0 : decide (t248 < (-1099511627776)) = false := decide_eq_false c21
                      clear c21
                      by_cases c23 : t248 > 1099511627776
                      · rw [if_pos c23] at H
                        have c23b0 : decide (1099511627776 < t248) = true := decide_eq_true c23
                        clear c23
                        exact absurd ((Option.some.inj H).trans hr_.out) (by decide)
                      · rw [if_neg c23] at H
                        have c23b0 : decide (1099511627776 < t248) = false := decide_eq_false c23
                        clear c23
                        by_cases c25 : (wrap64 (-a1)) = 0
                        · rw [if_pos c25] at H
                          exact absurd H (by simp)
                        · rw [if_neg c25] at H
                          have c25b0 : ((wrap64 (-a1)) == 0) = false := beq_eq_false_iff_ne.mpr c25
                          have c25b1 : ((wrap64 (-a1)) != 0) = true := bne_iff_ne.mpr c25
                          by_cases c26 : (wrap64 (t248 - a0)) ≤ (wrap64 (Int.tdiv (wrap64 ((wrap64 (65536 + (wrap64 (-a1)))) - 1)) (wrap64 (-a1))))
                          · rw [if_pos c26] at H
                            have c26b0 : decide ((wrap64 (t248 - a0)) ≤ (wrap64 (Int.tdiv (wrap64 ((wrap64 (65536 + (wrap64 (-a1)))) - 1)) (wrap64 (-a1))))) = true := decide_eq_true c26
                            clear c26
                            by_cases c27 : (wrap64 (a0 - t248)) ≤ (wrap64 (Int.tdiv (wrap64 ((wrap64 (65536 + (wrap64 (-a1)))) - 1)) (wrap64 (-a1))))
                            · rw [if_pos c27] at H
                              have c27b0 : decide ((wrap64 (a0 - t248)) ≤ (wrap64 (Int.tdiv (wrap64 ((wrap64 (65536 + (wrap64 (-a1)))) - 1)) (wrap64 (-a1))))) = true := decide_eq_true c27
                              clear c27
                              replace H := Option.bind_eq_some_iff.mp H
                              obtain ⟨t251, A280, H⟩ := H
                              replace H : (some t251) = some r := H
                              have A28 := Aside0.mk A280
                              clear A280
                              first
                                | exact absurd ((Option.some.inj H).trans hr_.out) (by decide)
                                | (skip
                                   obtain rfl := Option.some.inj H
                                   go_wp2_with (first | ((with_reducible refine gate_callee (f := 21) rfl ?_); refine goesL_ (some 27) rfl rfl Try.func21 (by kernel_rfl) rfl #[.int .i64 t245, .int .i64 a1] rfl (by (try simp only [List.map_toArray, List.map_cons, List.map_nil]); first | done | rfl | (simp only [List.length_drop, List.length_take]; rfl)) ?_; (with_reducible refine (fixed_Div.calls kj3 t245 a1 t248 t249 _ A10.out).mono ?_); rintro e w29 ⟨rfl, hb⟩; refine ⟨_, rfl, ?_⟩; have n0_ := Aside0.mk (below_step (by repeat (first | (with_reducible first | exact HB.out | apply below_alloc | apply pw_below_drewN | apply below_drew1) | exact HB.out)) hb); clear HB; have HB := n0_; clear n0_; (try clear hb); (try clear hb2); (try clear hk); (try clear hi)) | (go_at_call 16; (with_reducible refine (papermilllaw23_awake.calls kj3  t251 _ A28.out).mono ?_); rintro e w30 ⟨rfl, hb⟩; have n0_ := Aside0.mk (below_step (by repeat (first | (with_reducible first | exact HB.out | apply below_alloc | apply pw_below_drewN | apply below_drew1) | exact HB.out)) hb); clear HB; have HB := n0_; clear n0_; (try clear hb); (try clear hb2); (try clear hk); (try clear hi)))
                                   go_ret
                                   exact ⟨by first | rfl | (simp [errW_none, errW_some] <;> rfl) | (simp [*, errW_none, errW_some] <;> rfl), by repeat (first | (with_reducible first | exact HB.out | apply below_alloc | apply pw_below_drewN | apply below_drew1) | exact HB.out)⟩)
                            · rw [if_neg c27] at H
                              have c27b0 : decide ((wrap64 (a0 - t248)) ≤ (wrap64 (Int.tdiv (wrap64 ((wrap64 (65536 + (wrap64 (-a1)))) - 1)) (wrap64 (-a1))))) = false := decide_eq_false c27
                              clear c27
                              exact absurd ((Option.some.inj H).trans hr_.out) (by decide)
                          · rw [if_neg c26] at H
                            have c26b0 : decide ((wrap64 (t248 - a0)) ≤ (wrap64 (Int.tdiv (wrap64 ((wrap64 (65536 + (wrap64 (-a1)))) - 1)) (wrap64 (-a1))))) = false := decide_eq_false c26
                            clear c26
                            exact absurd ((Option.some.inj H).trans hr_.out) (by decide)
          · rw [if_neg c12] at H
            have c12b0 : decide (a1 < 0) = false := decide_eq_false c12
            clear c12
            by_cases c33 : a1 < 1
            · rw [if_pos c33] at H
              have c33b0 : decide (a1 < 1) = true := decide_eq_true c33
              clear c33
              exact absurd ((Option.some.inj H).trans hr_.out) (by decide)
            · rw [if_neg c33] at H
              have c33b0 : decide (a1 < 1) = false := decide_eq_false c33
              clear c33
              by_cases c35 : a1 > 1099511627776
              · rw [if_pos c35] at H
                have c35b0 : decide (1099511627776 < a1) = true := decide_eq_true c35
                clear c35
                exact absurd ((Option.some.inj H).trans hr_.out) (by decide)
              · rw [if_neg c35] at H
                have c35b0 : decide (1099511627776 < a1) = false := decide_eq_false c35
                clear c35
                by_cases c37 : a0 < (-1099511627776)
                · rw [if_pos c37] at H
                  have c37b0 : decide (a0 < (-1099511627776)) = true := decide_eq_true c37
                  clear c37
                  exact absurd ((Option.some.inj H).trans hr_.out) (by decide)
                · rw [if_neg c37] at H
                  have c37b0 : decide (a0 < (-1099511627776)) = false := decide_eq_false c37
                  clear c37
                  by_cases c39 : a0 > 1099511627776
                  · rw [if_pos c39] at H
                    have c39b0 : decide (1099511627776 < a0) = true := decide_eq_true c39
                    clear c39
                    exact absurd ((Option.some.inj H).trans hr_.out) (by decide)
                  · rw [if_neg c39] at H
                    have c39b0 : decide (1099511627776 < a0) = false := decide_eq_false c39
                    clear c39
                    by_cases c41 : t248 < (-1099511627776)
                    · rw [if_pos c41] at H
                      have c41b0 : decide (t248 < (-1099511627776)) = true := decide_eq_true c41
                      clear c41
                      exact absurd ((Option.some.inj H).trans hr_.out) (by decide)
                    · rw [if_neg c41] at H
                      have c41b0 : decide (t248 < (-1099511627776)) = false := decide_eq_false c41
                      clear c41
                      by_cases c43 : t248 > 1099511627776
                      · rw [if_pos c43] at H
                        have c43b0 : decide (1099511627776 < t248) = true := decide_eq_true c43
                        clear c43
                        exact absurd ((Option.some.inj H).trans hr_.out) (by decide)
                      · rw [if_neg c43] at H
                        have c43b0 : decide (1099511627776 < t248) = false := decide_eq_false c43
                        clear c43
                        by_cases c45 : a1 = 0
                        · rw [if_pos c45] at H
                          exact absurd H (by simp)
                        · rw [if_neg c45] at H
                          have c45b0 : (a1 == 0) = false := beq_eq_false_iff_ne.mpr c45
                          have c45b1 : (a1 != 0) = true := bne_iff_ne.mpr c45
                          by_cases c46 : (wrap64 (t248 - a0)) ≤ (wrap64 (Int.tdiv (wrap64 ((wrap64 (65536 + a1)) - 1)) a1))
                          · rw [if_pos c46] at H
                            have c46b0 : decide ((wrap64 (t248 - a0)) ≤ (wrap64 (Int.tdiv (wrap64 ((wrap64 (65536 + a1)) - 1)) a1))) = true := decide_eq_true c46
                            clear c46
                            by_cases c47 : (wrap64 (a0 - t248)) ≤ (wrap64 (Int.tdiv (wrap64 ((wrap64 (65536 + a1)) - 1)) a1))
                            · rw [if_pos c47] at H
                              have c47b0 : decide ((wrap64 (a0 - t248)) ≤ (wrap64 (Int.tdiv (wrap64 ((wrap64 (65536 + a1)) - 1)) a1))) = true := decide_eq_true c47
                              clear c47
                              replace H := Option.bind_eq_some_iff.mp H
                              obtain ⟨t252, A480, H⟩ := H
                              replace H : (some t252) = some r := H
                              have A48 := Aside0.mk A480
                              clear A480
                              first
                                | exact absurd ((Option.some.inj H).trans hr_.out) (by decide)
                                | (skip
                                   obtain rfl := Option.some.inj H
                                   go_wp2_with (first | ((with_reducible refine gate_callee (f := 21) rfl ?_); refine goesL_ (some 27) rfl rfl Try.func21 (by kernel_rfl) rfl #[.int .i64 t245, .int .i64 a1] rfl (by (try simp only [List.map_toArray, List.map_cons, List.map_nil]); first | done | rfl | (simp only [List.length_drop, List.length_take]; rfl)) ?_; (with_reducible refine (fixed_Div.calls kj3 t245 a1 t248 t249 _ A10.out).mono ?_); rintro e w49 ⟨rfl, hb⟩; refine ⟨_, rfl, ?_⟩; have n0_ := Aside0.mk (below_step (by repeat (first | (with_reducible first | exact HB.out | apply below_alloc | apply pw_below_drewN | apply below_drew1) | exact HB.out)) hb); clear HB; have HB := n0_; clear n0_; (try clear hb); (try clear hb2); (try clear hk); (try clear hi)) | (go_at_call 16; (with_reducible refine (papermilllaw23_awake.calls kj3  t252 _ A48.out).mono ?_); rintro e w50 ⟨rfl, hb⟩; have n0_ := Aside0.mk (below_step (by repeat (first | (with_reducible first | exact HB.out | apply below_alloc | apply pw_below_drewN | apply below_drew1) | exact HB.out)) hb); clear HB; have HB := n0_; clear n0_; (try clear hb); (try clear hb2); (try clear hk); (try clear hi)))
                                   go_ret
                                   exact ⟨by first | rfl | (simp [errW_none, errW_some] <;> rfl) | (simp [*, errW_none, errW_some] <;> rfl), by repeat (first | (with_reducible first | exact HB.out | apply below_alloc | apply pw_below_drewN | apply below_drew1) | exact HB.out)⟩)
                            · rw [if_neg c47] at H
                              have c47b0 : decide ((wrap64 (a0 - t248)) ≤ (wrap64 (Int.tdiv (wrap64 ((wrap64 (65536 + a1)) - 1)) a1))) = false := decide_eq_false c47
                              clear c47
                              exact absurd ((Option.some.inj H).trans hr_.out) (by decide)
                          · rw [if_neg c46] at H
                            have c46b0 : decide ((wrap64 (t248 - a0)) ≤ (wrap64 (Int.tdiv (wrap64 ((wrap64 (65536 + a1)) - 1)) a1))) = false := decide_eq_false c46
                            clear c46
                            exact absurd ((Option.some.inj H).trans hr_.out) (by decide)
        · rw [if_neg c11] at H
          have c11b0 : (t249 == 0) = false := beq_eq_false_iff_ne.mpr c11
          have c11b1 : (t249 != 0) = true := bne_iff_ne.mpr c11
          by_cases c53 : t249 = 2
          · rw [if_pos c53] at H
            have c53b0 : (t249 == 2) = true := beq_iff_eq.mpr c53
            have c53b1 : (t249 != 2) = false := bne_eq_false_iff_eq.mpr c53
            clear c53
            by_cases c54 : t248 = 0
            · rw [if_pos c54] at H
              have c54b0 : (t248 == 0) = true := beq_iff_eq.mpr c54
              have c54b1 : (t248 != 0) = false := bne_eq_false_iff_eq.mpr c54
              clear c54
              replace H := Option.bind_eq_some_iff.mp H
              obtain ⟨t250, A550, H⟩ := H
              replace H : (some t250) = some r := H
              have A55 := Aside0.mk A550
              clear A550
              first
                | exact absurd ((Option.some.inj H).trans hr_.out) (by decide)
                | (skip
                   obtain rfl := Option.some.inj H
                   go_wp2_with (first | ((with_reducible refine gate_callee (f := 21) rfl ?_); refine goesL_ (some 27) rfl rfl Try.func21 (by kernel_rfl) rfl #[.int .i64 t245, .int .i64 a1] rfl (by (try simp only [List.map_toArray, List.map_cons, List.map_nil]); first | done | rfl | (simp only [List.length_drop, List.length_take]; rfl)) ?_; (with_reducible refine (fixed_Div.calls kj3 t245 a1 t248 t249 _ A10.out).mono ?_); rintro e w56 ⟨rfl, hb⟩; refine ⟨_, rfl, ?_⟩; have n0_ := Aside0.mk (below_step (by repeat (first | (with_reducible first | exact HB.out | apply below_alloc | apply pw_below_drewN | apply below_drew1) | exact HB.out)) hb); clear HB; have HB := n0_; clear n0_; (try clear hb); (try clear hb2); (try clear hk); (try clear hi)) | (go_at_call 16; (with_reducible refine (papermilllaw23_awake.calls kj3  t250 _ A55.out).mono ?_); rintro e w57 ⟨rfl, hb⟩; have n0_ := Aside0.mk (below_step (by repeat (first | (with_reducible first | exact HB.out | apply below_alloc | apply pw_below_drewN | apply below_drew1) | exact HB.out)) hb); clear HB; have HB := n0_; clear n0_; (try clear hb); (try clear hb2); (try clear hk); (try clear hi)))
                   go_ret
                   exact ⟨by first | rfl | (simp [errW_none, errW_some] <;> rfl) | (simp [*, errW_none, errW_some] <;> rfl), by repeat (first | (with_reducible first | exact HB.out | apply below_alloc | apply pw_below_drewN | apply below_drew1) | exact HB.out)⟩)
            · rw [if_neg c54] at H
              have c54b0 : (t248 == 0) = false := beq_eq_false_iff_ne.mpr c54
              have c54b1 : (t248 != 0) = true := bne_iff_ne.mpr c54
              exact absurd ((Option.some.inj H).trans hr_.out) (by decide)
          · rw [if_neg c53] at H
            have c53b0 : (t249 == 2) = false := beq_eq_false_iff_ne.mpr c53
            have c53b1 : (t249 != 2) = true := bne_iff_ne.mpr c53
            exact absurd ((Option.some.inj H).trans hr_.out) (by decide)

/-- THE ONE PURE STATEMENT of papermilllaw23_FixedBack: yours. -/
def papermilllaw23_FixedBack.Pure : Prop := ∀ (a0 : Int) (a1 : Int), (Lit.int .i64 a0).wf = true → (Lit.int .i64 a1).wf = true → ∃ k, papermilllaw23_FixedBack.f k a0 a1 = some true
theorem papermilllaw23_FixedBack.walk (P : papermilllaw23_FixedBack.Pure) (a0 : Int) (a1 : Int) (w : World) (w0 : (Lit.int .i64 a0).wf = true) (w1 : (Lit.int .i64 a1).wf = true) :
    Calls Try.prog 9 #[.int .i64 a0, .int .i64 a1] w fun e w' => e = .returned (.bool true) ∧ Below w.heap.size w w' := by
  obtain ⟨k, h⟩ := P a0 a1 w0 w1
  refine (papermilllaw23_FixedBack.calls k a0 a1 true w ⟨rfl⟩ h).mono ?_
  rintro e w' ⟨rfl, hd⟩
  exact ⟨rfl, hd⟩

end Go.Proofs.Ytpmopomiadaonaa.P
