-- Written by a program (wip/prog/pp.py) over the kit's print; some of its functions are proved by hand. Not trusted: Lean checks it.
import Derived.Test.YtpmopomiadaonaaPx0
import Derived.Test.YtpmopomiadaonaaPx8
import Derived.Test.YtpmopomiadaonaaPx9
import Derived.Test.YtpmopomiadaonaaPx12
import Derived.Test.YtpmopomiadaonaaPx13
namespace Go.Proofs.Ytpmopomiadaonaa.P
open Go.RowKit Go.Proofs.YtpmopomiadaonaaW.PrintWords Go.Proofs.YtpmopomiadaonaaW.PrintLast Go.Proofs.YtpmopomiadaonaaW.PrintMore
attribute [local go_sem] max2_int min2_int max_two min_two max_three min_three max_four min_four   -- for this text's walks alone
set_option linter.unusedVariables false
set_option linter.unusedSimpArgs false

/-! ### papermilllaw23_FixedNear: function 6 -/
def papermilllaw23_FixedNear.j0 : Nat → Int → Int → Bool → Option (Bool)
  | 0, _, _, _ => none
  | k + 1, x5, x6, x41 => if x41 = true then (some false) else ((fixed_Div.f k x5 x6).bind fun bt213 => (if x6 = 0 then (if bt213.1 = 0 then (if bt213.2 = 16 then ((papermilllaw23_awake.f k).bind fun t215 => (some t215)) else (some false)) else (some false)) else (if bt213.2 = 0 then (if x6 < 0 then (if bt213.1 ≥ (-35184372088832) then (if bt213.1 ≤ 35184372088832 then ((papermilllaw23_half.f (wrap64 (-(wrap64 (x5 * 65536)))) (wrap64 (-x6)) bt213.1).bind fun t218 => (if t218 = true then ((papermilllaw23_awake.f k).bind fun t219 => (some t219)) else (some false))) else (some false)) else (some false)) else (if bt213.1 ≥ (-35184372088832) then (if bt213.1 ≤ 35184372088832 then ((papermilllaw23_half.f (wrap64 (x5 * 65536)) x6 bt213.1).bind fun t220 => (if t220 = true then ((papermilllaw23_awake.f k).bind fun t221 => (some t221)) else (some false))) else (some false)) else (some false))) else (if bt213.2 = 2 then (if bt213.1 = 0 then (if x5 > 16777216 then ((papermilllaw23_awake.f k).bind fun t216 => (some t216)) else (if x5 < (-16777216) then ((papermilllaw23_awake.f k).bind fun t217 => (some t217)) else (some false))) else (some false)) else (some false)))))
def papermilllaw23_FixedNear.f (k : Nat) (a0 : Int) (a1 : Int) : Option (Bool) := (fixed_Mul.f k (Int.tmod (wrap64 (a0)) 268435456) (Int.tmod (wrap64 (a1)) 268435456)).bind fun bt210 => (if bt210.2 = 0 then (if bt210.1 < (-2199023255552) then (papermilllaw23_FixedNear.j0 k (Int.tmod (wrap64 (a0)) 268435456) (Int.tmod (wrap64 (a1)) 268435456) true) else (if bt210.1 > 2199023255552 then (papermilllaw23_FixedNear.j0 k (Int.tmod (wrap64 (a0)) 268435456) (Int.tmod (wrap64 (a1)) 268435456) true) else ((papermilllaw23_half.f (wrap64 ((Int.tmod (wrap64 (a0)) 268435456) * (Int.tmod (wrap64 (a1)) 268435456))) 65536 bt210.1).bind fun t212 => (papermilllaw23_FixedNear.j0 k (Int.tmod (wrap64 (a0)) 268435456) (Int.tmod (wrap64 (a1)) 268435456) (!t212))))) else (papermilllaw23_FixedNear.j0 k (Int.tmod (wrap64 (a0)) 268435456) (Int.tmod (wrap64 (a1)) 268435456) true))
theorem papermilllaw23_FixedNear.mono_l : ∀ k, (∀ y0 y1 y2, LeO (papermilllaw23_FixedNear.j0 k y0 y1 y2) (papermilllaw23_FixedNear.j0 (k + 1) y0 y1 y2))
  | 0 => fun _ _ _ r h => by simp [papermilllaw23_FixedNear.j0] at h
  | k + 1 => by
    have ih0 := papermilllaw23_FixedNear.mono_l k
    · intro y0 y1 y2
      unfold papermilllaw23_FixedNear.j0
      repeat' first
      | (with_reducible exact ih0 _ _ _)
      | (with_reducible exact fixed_Div.mono _ _ _)
      | (with_reducible exact fixed_Mul.mono _ _ _)
      | (with_reducible exact papermilllaw23_awake.mono _)
      | (with_reducible exact LeO.refl _)
      | (with_reducible exact LeO.none _)
      | (with_reducible refine LeO.ite ?_ ?_)
      | (with_reducible refine LeO.bind ?_ (fun _ => ?_))
      | exact ih0 _ _ _
      | exact fixed_Div.mono _ _ _
      | exact fixed_Mul.mono _ _ _
      | exact papermilllaw23_awake.mono _
      | exact LeO.none _
      | refine LeO.ite ?_ ?_
      | refine LeO.bind ?_ (fun _ => ?_)
theorem papermilllaw23_FixedNear.mono : ∀ a0 a1 k, LeO (papermilllaw23_FixedNear.f k a0 a1) (papermilllaw23_FixedNear.f (k + 1) a0 a1) := by
  intro a0 a1 k
  have ih0 := papermilllaw23_FixedNear.mono_l k
  unfold papermilllaw23_FixedNear.f
  repeat' first
      | (with_reducible exact ih0 _ _ _)
      | (with_reducible exact fixed_Div.mono _ _ _)
      | (with_reducible exact fixed_Mul.mono _ _ _)
      | (with_reducible exact papermilllaw23_awake.mono _)
      | (with_reducible exact LeO.refl _)
      | (with_reducible exact LeO.none _)
      | (with_reducible refine LeO.ite ?_ ?_)
      | (with_reducible refine LeO.bind ?_ (fun _ => ?_))
      | exact ih0 _ _ _
      | exact fixed_Div.mono _ _ _
      | exact fixed_Mul.mono _ _ _
      | exact papermilllaw23_awake.mono _
      | exact LeO.none _
      | refine LeO.ite ?_ ?_
      | refine LeO.bind ?_ (fun _ => ?_)
set_option maxHeartbeats 8000000 in
set_option maxRecDepth 100000 in
theorem papermilllaw23_FixedNear.calls (k : Nat) (a0 : Int) (a1 : Int) (r : Bool) (w : World) (hr_ : Aside0 (r = true)) (h : papermilllaw23_FixedNear.f k a0 a1 = some r) :
    Calls Try.prog 6 #[.int .i32 a0, .int .i32 a1] w fun e w' => e = .returned (.bool r) ∧ Below w.heap.size w w' := by
  have HB := Aside0.mk (Below.refl w.heap.size w)
  have H : ((fixed_Mul.f k (Int.tmod (wrap64 (a0)) 268435456) (Int.tmod (wrap64 (a1)) 268435456)).bind fun bt210 => (if bt210.2 = 0 then (if bt210.1 < (-2199023255552) then (papermilllaw23_FixedNear.j0 k (Int.tmod (wrap64 (a0)) 268435456) (Int.tmod (wrap64 (a1)) 268435456) true) else (if bt210.1 > 2199023255552 then (papermilllaw23_FixedNear.j0 k (Int.tmod (wrap64 (a0)) 268435456) (Int.tmod (wrap64 (a1)) 268435456) true) else ((papermilllaw23_half.f (wrap64 ((Int.tmod (wrap64 (a0)) 268435456) * (Int.tmod (wrap64 (a1)) 268435456))) 65536 bt210.1).bind fun t212 => (papermilllaw23_FixedNear.j0 k (Int.tmod (wrap64 (a0)) 268435456) (Int.tmod (wrap64 (a1)) 268435456) (!t212))))) else (papermilllaw23_FixedNear.j0 k (Int.tmod (wrap64 (a0)) 268435456) (Int.tmod (wrap64 (a1)) 268435456) true))) = some r := h
  clear h
  replace H := Option.bind_eq_some_iff.mp H
  obtain ⟨⟨t210, t211⟩, A30, H⟩ := H
  replace H : (if t211 = 0 then (if t210 < (-2199023255552) then (papermilllaw23_FixedNear.j0 k (Int.tmod (wrap64 (a0)) 268435456) (Int.tmod (wrap64 (a1)) 268435456) true) else (if t210 > 2199023255552 then (papermilllaw23_FixedNear.j0 k (Int.tmod (wrap64 (a0)) 268435456) (Int.tmod (wrap64 (a1)) 268435456) true) else ((papermilllaw23_half.f (wrap64 ((Int.tmod (wrap64 (a0)) 268435456) * (Int.tmod (wrap64 (a1)) 268435456))) 65536 t210).bind fun t212 => (papermilllaw23_FixedNear.j0 k (Int.tmod (wrap64 (a0)) 268435456) (Int.tmod (wrap64 (a1)) 268435456) (!t212))))) else (papermilllaw23_FixedNear.j0 k (Int.tmod (wrap64 (a0)) 268435456) (Int.tmod (wrap64 (a1)) 268435456) true)) = some r := H
  have A3 := Aside0.mk A30
  clear A30
  have HC4 := Aside0.mk H
  clear H
  go_enter Try.func6, Try.ntmps6
  go_upto_region 3 with (first | ((with_reducible refine gate_callee (f := 19) rfl ?_); refine goesL_ (some 21) rfl rfl Try.func19 (by kernel_rfl) rfl #[.int .i64 (Int.tmod (wrap64 (a0)) 268435456), .int .i64 (Int.tmod (wrap64 (a1)) 268435456)] rfl (by (try simp only [List.map_toArray, List.map_cons, List.map_nil]); first | done | rfl | (simp only [List.length_drop, List.length_take]; rfl)) ?_; (with_reducible refine (fixed_Mul.calls k (Int.tmod (wrap64 (a0)) 268435456) (Int.tmod (wrap64 (a1)) 268435456) t210 t211 _ A3.out).mono ?_); rintro e w5 ⟨rfl, hb⟩; refine ⟨_, rfl, ?_⟩; have n0_ := Aside0.mk (below_step (by repeat (first | (with_reducible first | exact HB.out | apply below_alloc | apply pw_below_drewN | apply below_drew1) | exact HB.out)) hb); clear HB; have HB := n0_; clear n0_; (try clear hb); (try clear hb2); (try clear hk); (try clear hi)))
  (try simp only [Act.put, List.setIfInBounds_toArray, List.set_cons_zero, List.set_cons_succ])
  go_cut [41] (fun v41 wc => ∃ (kq : Nat) (x41_3 : Bool), v41 = .bool x41_3 ∧ Aside0 (papermilllaw23_FixedNear.j0 kq (Int.tmod (wrap64 (a0)) 268435456) (Int.tmod (wrap64 (a1)) 268435456) x41_3 = some r) ∧ Aside0 (kq ≤ k) ∧ Aside0 (Below w.heap.size w wc))
  case first =>
    have H := HC4.out
    clear HC4
    by_cases c6 : t211 = 0
    · rw [if_pos c6] at H
      have c6b0 : (t211 == 0) = true := beq_iff_eq.mpr c6
      have c6b1 : (t211 != 0) = false := bne_eq_false_iff_eq.mpr c6
      clear c6
      (first | rw [c6b0] | (simp only [i64_w, i32_w]; rw [c6b0]) | skip)
      by_cases c7 : t210 < (-2199023255552)
      · rw [if_pos c7] at H
        have c7b0 : decide (t210 < (-2199023255552)) = true := decide_eq_true c7
        clear c7
        have H' := Aside0.mk H
        clear H
        go_wp2
        go_meet
        case rel => exact ⟨_, (true), (by first | rfl | (simp; done) | (simp [*]; done)), H', ⟨by first | omega | exact Nat.le_refl _⟩, ⟨by repeat (first | (with_reducible first | exact HB.out | apply below_alloc | apply pw_below_drewN | apply below_drew1) | exact HB.out)⟩⟩
      · rw [if_neg c7] at H
        have c7b0 : decide (t210 < (-2199023255552)) = false := decide_eq_false c7
        clear c7
        by_cases c8 : t210 > 2199023255552
        · rw [if_pos c8] at H
          have c8b0 : decide (2199023255552 < t210) = true := decide_eq_true c8
          clear c8
          have H' := Aside0.mk H
          clear H
          go_wp2
          go_meet
          case rel => exact ⟨_, (true), (by first | rfl | (simp; done) | (simp [*]; done)), H', ⟨by first | omega | exact Nat.le_refl _⟩, ⟨by repeat (first | (with_reducible first | exact HB.out | apply below_alloc | apply pw_below_drewN | apply below_drew1) | exact HB.out)⟩⟩
        · rw [if_neg c8] at H
          have c8b0 : decide (2199023255552 < t210) = false := decide_eq_false c8
          clear c8
          replace H := Option.bind_eq_some_iff.mp H
          obtain ⟨t212, A90, H⟩ := H
          replace H : (papermilllaw23_FixedNear.j0 k (Int.tmod (wrap64 (a0)) 268435456) (Int.tmod (wrap64 (a1)) 268435456) (!t212)) = some r := H
          have A9 := Aside0.mk A90
          clear A90
          have H' := Aside0.mk H
          clear H
          go_wp2_with (first | (go_at_call 23; (with_reducible refine (papermilllaw23_half.calls (wrap64 ((Int.tmod (wrap64 (a0)) 268435456) * (Int.tmod (wrap64 (a1)) 268435456))) 65536 t210 t212 _ A9.out).mono ?_); rintro e w' ⟨rfl, ⟨nd, rfl⟩⟩))
          go_meet
          case rel => exact ⟨_, (!t212), (by first | rfl | (simp; done) | (simp [*]; done)), H', ⟨by first | omega | exact Nat.le_refl _⟩, ⟨by repeat (first | (with_reducible first | exact HB.out | apply below_alloc | apply pw_below_drewN | apply below_drew1) | exact HB.out)⟩⟩
    · rw [if_neg c6] at H
      have c6b0 : (t211 == 0) = false := beq_eq_false_iff_ne.mpr c6
      have c6b1 : (t211 != 0) = true := bne_iff_ne.mpr c6
      (first | rw [c6b0] | (simp only [i64_w, i32_w]; rw [c6b0]) | skip)
      have H' := Aside0.mk H
      clear H
      go_wp2
      go_meet
      case rel => exact ⟨_, (true), (by first | rfl | (simp; done) | (simp [*]; done)), H', ⟨by first | omega | exact Nat.le_refl _⟩, ⟨by repeat (first | (with_reducible first | exact HB.out | apply below_alloc | apply pw_below_drewN | apply below_drew1) | exact HB.out)⟩⟩
  case rest =>
    clear HC4
    try clear c1
    try clear p2
    try clear c6
    try clear c6b0
    try clear c6b1
    try clear p6
    try clear c7
    try clear c7b0
    try clear c8
    try clear c8b0
    obtain ⟨kq, x41_3, rfl, HA, HJ3, HB⟩ := hcut
    cases kq with
    | zero => exact absurd HA.out (by simp [papermilllaw23_FixedNear.j0])
    | succ kj3 =>
      have H := HA.out
      clear HA
      simp only [papermilllaw23_FixedNear.j0] at H
      by_cases c10 : x41_3 = true
      · subst c10
        have H1 : (some false) = some r := by rw [if_pos rfl] at H; exact H
        clear H
        have H := H1
        clear H1
        exact absurd ((Option.some.inj H).trans hr_.out) (by decide)
      · replace c10 := Bool.eq_false_iff.mpr c10
        subst c10
        have H1 : ((fixed_Div.f kj3 (Int.tmod (wrap64 (a0)) 268435456) (Int.tmod (wrap64 (a1)) 268435456)).bind fun bt213 => (if (Int.tmod (wrap64 (a1)) 268435456) = 0 then (if bt213.1 = 0 then (if bt213.2 = 16 then ((papermilllaw23_awake.f kj3).bind fun t215 => (some t215)) else (some false)) else (some false)) else (if bt213.2 = 0 then (if (Int.tmod (wrap64 (a1)) 268435456) < 0 then (if bt213.1 ≥ (-35184372088832) then (if bt213.1 ≤ 35184372088832 then ((papermilllaw23_half.f (wrap64 (-(wrap64 ((Int.tmod (wrap64 (a0)) 268435456) * 65536)))) (wrap64 (-(Int.tmod (wrap64 (a1)) 268435456))) bt213.1).bind fun t218 => (if t218 = true then ((papermilllaw23_awake.f kj3).bind fun t219 => (some t219)) else (some false))) else (some false)) else (some false)) else (if bt213.1 ≥ (-35184372088832) then (if bt213.1 ≤ 35184372088832 then ((papermilllaw23_half.f (wrap64 ((Int.tmod (wrap64 (a0)) 268435456) * 65536)) (Int.tmod (wrap64 (a1)) 268435456) bt213.1).bind fun t220 => (if t220 = true then ((papermilllaw23_awake.f kj3).bind fun t221 => (some t221)) else (some false))) else (some false)) else (some false))) else (if bt213.2 = 2 then (if bt213.1 = 0 then (if (Int.tmod (wrap64 (a0)) 268435456) > 16777216 then ((papermilllaw23_awake.f kj3).bind fun t216 => (some t216)) else (if (Int.tmod (wrap64 (a0)) 268435456) < (-16777216) then ((papermilllaw23_awake.f kj3).bind fun t217 => (some t217)) else (some false))) else (some false)) else (some false))))) = some r := by rw [if_neg (show ¬ (false = true) by decide)] at H; exact H
        clear H
        have H := H1
        clear H1
        replace H := Option.bind_eq_some_iff.mp H
        obtain ⟨⟨t213, t214⟩, A110, H⟩ := H
        replace H : (if (Int.tmod (wrap64 (a1)) 268435456) = 0 then (if t213 = 0 then (if t214 = 16 then ((papermilllaw23_awake.f kj3).bind fun t215 => (some t215)) else (some false)) else (some false)) else (if t214 = 0 then (if (Int.tmod (wrap64 (a1)) 268435456) < 0 then (if t213 ≥ (-35184372088832) then (if t213 ≤ 35184372088832 then ((papermilllaw23_half.f (wrap64 (-(wrap64 ((Int.tmod (wrap64 (a0)) 268435456) * 65536)))) (wrap64 (-(Int.tmod (wrap64 (a1)) 268435456))) t213).bind fun t218 => (if t218 = true then ((papermilllaw23_awake.f kj3).bind fun t219 => (some t219)) else (some false))) else (some false)) else (some false)) else (if t213 ≥ (-35184372088832) then (if t213 ≤ 35184372088832 then ((papermilllaw23_half.f (wrap64 ((Int.tmod (wrap64 (a0)) 268435456) * 65536)) (Int.tmod (wrap64 (a1)) 268435456) t213).bind fun t220 => (if t220 = true then ((papermilllaw23_awake.f kj3).bind fun t221 => (some t221)) else (some false))) else (some false)) else (some false))) else (if t214 = 2 then (if t213 = 0 then (if (Int.tmod (wrap64 (a0)) 268435456) > 16777216 then ((papermilllaw23_awake.f kj3).bind fun t216 => (some t216)) else (if (Int.tmod (wrap64 (a0)) 268435456) < (-16777216) then ((papermilllaw23_awake.f kj3).bind fun t217 => (some t217)) else (some false))) else (some false)) else (some false)))) = some r := H
        have A11 := Aside0.mk A110
        clear A110
        by_cases c12 : (Int.tmod (wrap64 (a1)) 268435456) = 0
        · rw [if_pos c12] at H
          have c12b0 : ((Int.tmod (wrap64 (a1)) 268435456) == 0) = true := beq_iff_eq.mpr c12
          have c12b1 : ((Int.tmod (wrap64 (a1)) 268435456) != 0) = false := bne_eq_false_iff_eq.mpr c12
          clear c12
          by_cases c13 : t213 = 0
          · rw [if_pos c13] at H
            have c13b0 : (t213 == 0) = true := beq_iff_eq.mpr c13
            have c13b1 : (t213 != 0) = false := bne_eq_false_iff_eq.mpr c13
            clear c13
            by_cases c14 : t214 = 16
            · rw [if_pos c14] at H
              have c14b0 : (t214 == 16) = true := beq_iff_eq.mpr c14
              have c14b1 : (t214 != 16) = false := bne_eq_false_iff_eq.mpr c14
              clear c14
              replace H := Option.bind_eq_some_iff.mp H
              obtain ⟨t215, A150, H⟩ := H
              replace H : (some t215) = some r := H
              have A15 := Aside0.mk A150
              clear A150
              first
                | exact absurd ((Option.some.inj H).trans hr_.out) (by decide)
                | (skip
                   obtain rfl := Option.some.inj H
                   go_wp2_with (first | ((with_reducible refine gate_callee (f := 21) rfl ?_); refine goesL_ (some 45) rfl rfl Try.func21 (by kernel_rfl) rfl #[.int .i64 (Int.tmod (wrap64 (a0)) 268435456), .int .i64 (Int.tmod (wrap64 (a1)) 268435456)] rfl (by (try simp only [List.map_toArray, List.map_cons, List.map_nil]); first | done | rfl | (simp only [List.length_drop, List.length_take]; rfl)) ?_; (with_reducible refine (fixed_Div.calls kj3 (Int.tmod (wrap64 (a0)) 268435456) (Int.tmod (wrap64 (a1)) 268435456) t213 t214 _ A11.out).mono ?_); rintro e w16 ⟨rfl, hb⟩; refine ⟨_, rfl, ?_⟩; have n0_ := Aside0.mk (below_step (by repeat (first | (with_reducible first | exact HB.out | apply below_alloc | apply pw_below_drewN | apply below_drew1) | exact HB.out)) hb); clear HB; have HB := n0_; clear n0_; (try clear hb); (try clear hb2); (try clear hk); (try clear hi)) | (go_at_call 16; (with_reducible refine (papermilllaw23_awake.calls kj3  t215 _ A15.out).mono ?_); rintro e w17 ⟨rfl, hb⟩; have n0_ := Aside0.mk (below_step (by repeat (first | (with_reducible first | exact HB.out | apply below_alloc | apply pw_below_drewN | apply below_drew1) | exact HB.out)) hb); clear HB; have HB := n0_; clear n0_; (try clear hb); (try clear hb2); (try clear hk); (try clear hi)))
                   go_ret
                   exact ⟨by first | rfl | (simp [errW_none, errW_some] <;> rfl) | (simp [*, errW_none, errW_some] <;> rfl), by repeat (first | (with_reducible first | exact HB.out | apply below_alloc | apply pw_below_drewN | apply below_drew1) | exact HB.out)⟩)
            · rw [if_neg c14] at H
              have c14b0 : (t214 == 16) = false := beq_eq_false_iff_ne.mpr c14
              have c14b1 : (t214 != 16) = true := bne_iff_ne.mpr c14
              exact absurd ((Option.some.inj H).trans hr_.out) (by decide)
          · rw [if_neg c13] at H
            have c13b0 : (t213 == 0) = false := beq_eq_false_iff_ne.mpr c13
            have c13b1 : (t213 != 0) = true := bne_iff_ne.mpr c13
            exact absurd ((Option.some.inj H).trans hr_.out) (by decide)
        · rw [if_neg c12] at H
          have c12b0 : ((Int.tmod (wrap64 (a1)) 268435456) == 0) = false := beq_eq_false_iff_ne.mpr c12
          have c12b1 : ((Int.tmod (wrap64 (a1)) 268435456) != 0) = true := bne_iff_ne.mpr c12
          by_cases c20 : t214 = 0
          · rw [if_pos c20] at H
            have c20b0 : (t214 == 0) = true := beq_iff_eq.mpr c20
            have c20b1 : (t214 != 0) = false := bne_eq_false_iff_eq.mpr c20
            clear c20
            by_cases c21 : (Int.tmod (wrap64 (a1)) 268435456) < 0
            · rw [if_pos c21] at H
              have c21b0 : decide ((Int.tmod (wrap64 (a1)) 268435456) < 0) = true := decide_eq_true c21
              clear c21
              by_cases c22 : t213 ≥ (-35184372088832)
              · rw [if_pos c22] at H
                have c22b0 : decide ((-35184372088832) ≤ t213) = true := decide_eq_true c22
                clear c22
                by_cases c23 : t213 ≤ 35184372088832
                · rw [if_pos c23] at H
                  have c23b0 : decide (t213 ≤ 35184372088832) = true := decide_eq_true c23
                  clear c23
                  replace H := Option.bind_eq_some_iff.mp H
                  obtain ⟨t218, A240, H⟩ := H
                  replace H : (if t218 = true then ((papermilllaw23_awake.f kj3).bind fun t219 => (some t219)) else (some false)) = some r := H
                  have A24 := Aside0.mk A240
                  clear A240
                  by_cases c25 : t218 = true
                  · subst c25
                    have H1 : ((papermilllaw23_awake.f kj3).bind fun t219 => (some t219)) = some r := by rw [if_pos rfl] at H; exact H
                    clear H
                    have H := H1
                    clear H1
                    replace H := Option.bind_eq_some_iff.mp H
                    obtain ⟨t219, A260, H⟩ := H
                    replace H : (some t219) = some r := H
                    have A26 := Aside0.mk A260
                    clear A260
                    first
                      | exact absurd ((Option.some.inj H).trans hr_.out) (by decide)
                      | (skip
                         obtain rfl := Option.some.inj H
                         go_wp2_with (first | ((with_reducible refine gate_callee (f := 21) rfl ?_); refine goesL_ (some 45) rfl rfl Try.func21 (by kernel_rfl) rfl #[.int .i64 (Int.tmod (wrap64 (a0)) 268435456), .int .i64 (Int.tmod (wrap64 (a1)) 268435456)] rfl (by (try simp only [List.map_toArray, List.map_cons, List.map_nil]); first | done | rfl | (simp only [List.length_drop, List.length_take]; rfl)) ?_; (with_reducible refine (fixed_Div.calls kj3 (Int.tmod (wrap64 (a0)) 268435456) (Int.tmod (wrap64 (a1)) 268435456) t213 t214 _ A11.out).mono ?_); rintro e w27 ⟨rfl, hb⟩; refine ⟨_, rfl, ?_⟩; have n0_ := Aside0.mk (below_step (by repeat (first | (with_reducible first | exact HB.out | apply below_alloc | apply pw_below_drewN | apply below_drew1) | exact HB.out)) hb); clear HB; have HB := n0_; clear n0_; (try clear hb); (try clear hb2); (try clear hk); (try clear hi)) | (go_at_call 23; (with_reducible refine (papermilllaw23_half.calls (wrap64 (-(wrap64 ((Int.tmod (wrap64 (a0)) 268435456) * 65536)))) (wrap64 (-(Int.tmod (wrap64 (a1)) 268435456))) t213 true _ A24.out).mono ?_); rintro e w' ⟨rfl, ⟨nd, rfl⟩⟩) | (go_at_call 16; (with_reducible refine (papermilllaw23_awake.calls kj3  t219 _ A26.out).mono ?_); rintro e w28 ⟨rfl, hb⟩; have n0_ := Aside0.mk (below_step (by repeat (first | (with_reducible first | exact HB.out | apply below_alloc | apply pw_below_drewN | apply below_drew1) | exact HB.out)) hb); clear HB; have HB := n0_; clear n0_; (try clear hb); (try clear hb2); (try clear hk); (try clear hi)))
                         go_ret
                         exact ⟨by first | rfl | (simp [errW_none, errW_some] <;> rfl) | (simp [*, errW_none, errW_some] <;> rfl), by repeat (first | (with_reducible first | exact HB.out | apply below_alloc | apply pw_below_drewN | apply below_drew1) | exact HB.out)⟩)
                  · replace c25 := Bool.eq_false_iff.mpr c25
                    subst c25
                    have H1 : (some false) = some r := by rw [if_neg (show ¬ (false = true) by decide)] at H; exact H
                    clear H
                    have H := H1
                    clear H1
                    exact absurd ((Option.some.inj H).trans hr_.out) (by decide)
                · rw [if_neg c23] at H
                  have c23b0 : decide (t213 ≤ 35184372088832) = false := decide_eq_false c23
                  clear c23
                  exact absurd ((Option.some.inj H).trans hr_.out) (by decide)
              · rw [if_neg c22] at H
                have c22b0 : decide ((-35184372088832) ≤ t213) = false := decide_eq_false c22
                clear c22
                exact absurd ((Option.some.inj H).trans hr_.out) (by decide)
            · rw [if_neg c21] at H
              have c21b0 : decide ((Int.tmod (wrap64 (a1)) 268435456) < 0) = false := decide_eq_false c21
              clear c21
              by_cases c32 : t213 ≥ (-35184372088832)
              · rw [if_pos c32] at H
                have c32b0 : decide ((-35184372088832) ≤ t213) = true := decide_eq_true c32
                clear c32
                by_cases c33 : t213 ≤ 35184372088832
                · rw [if_pos c33] at H
                  have c33b0 : decide (t213 ≤ 35184372088832) = true := decide_eq_true c33
                  clear c33
                  replace H := Option.bind_eq_some_iff.mp H
                  obtain ⟨t220, A340, H⟩ := H
                  replace H : (if t220 = true then ((papermilllaw23_awake.f kj3).bind fun t221 => (some t221)) else (some false)) = some r := H
                  have A34 := Aside0.mk A340
                  clear A340
                  by_cases c35 : t220 = true
                  · subst c35
                    have H1 : ((papermilllaw23_awake.f kj3).bind fun t221 => (some t221)) = some r := by rw [if_pos rfl] at H; exact H
                    clear H
                    have H := H1
                    clear H1
                    replace H := Option.bind_eq_some_iff.mp H
                    obtain ⟨t221, A360, H⟩ := H
                    replace H : (some t221) = some r := H
                    have A36 := Aside0.mk A360
                    clear A360
                    first
                      | exact absurd ((Option.some.inj H).trans hr_.out) (by decide)
                      | (skip
                         obtain rfl := Option.some.inj H
                         go_wp2_with (first | ((with_reducible refine gate_callee (f := 21) rfl ?_); refine goesL_ (some 45) rfl rfl Try.func21 (by kernel_rfl) rfl #[.int .i64 (Int.tmod (wrap64 (a0)) 268435456), .int .i64 (Int.tmod (wrap64 (a1)) 268435456)] rfl (by (try simp only [List.map_toArray, List.map_cons, List.map_nil]); first | done | rfl | (simp only [List.length_drop, List.length_take]; rfl)) ?_; (with_reducible refine (fixed_Div.calls kj3 (Int.tmod (wrap64 (a0)) 268435456) (Int.tmod (wrap64 (a1)) 268435456) t213 t214 _ A11.out).mono ?_); rintro e w37 ⟨rfl, hb⟩; refine ⟨_, rfl, ?_⟩; have n0_ := Aside0.mk (below_step (by repeat (first | (with_reducible first | exact HB.out | apply below_alloc | apply pw_below_drewN | apply below_drew1) | exact HB.out)) hb); clear HB; have HB := n0_; clear n0_; (try clear hb); (try clear hb2); (try clear hk); (try clear hi)) | (go_at_call 23; (with_reducible refine (papermilllaw23_half.calls (wrap64 ((Int.tmod (wrap64 (a0)) 268435456) * 65536)) (Int.tmod (wrap64 (a1)) 268435456) t213 true _ A34.out).mono ?_); rintro e w' ⟨rfl, ⟨nd, rfl⟩⟩) | (go_at_call 16; (with_reducible refine (papermilllaw23_awake.calls kj3  t221 _ A36.out).mono ?_); rintro e w38 ⟨rfl, hb⟩; have n0_ := Aside0.mk (below_step (by repeat (first | (with_reducible first | exact HB.out | apply below_alloc | apply pw_below_drewN | apply below_drew1) | exact HB.out)) hb); clear HB; have HB := n0_; clear n0_; (try clear hb); (try clear hb2); (try clear hk); (try clear hi)))
                         go_ret
                         exact ⟨by first | rfl | (simp [errW_none, errW_some] <;> rfl) | (simp [*, errW_none, errW_some] <;> rfl), by repeat (first | (with_reducible first | exact HB.out | apply below_alloc | apply pw_below_drewN | apply below_drew1) | exact HB.out)⟩)
                  · replace c35 := Bool.eq_false_iff.mpr c35
                    subst c35
                    have H1 : (some false) = some r := by rw [if_neg (show ¬ (false = true) by decide)] at H; exact H
                    clear H
                    have H := H1
                    clear H1
                    exact absurd ((Option.some.inj H).trans hr_.out) (by decide)
                · rw [if_neg c33] at H
                  have c33b0 : decide (t213 ≤ 35184372088832) = false := decide_eq_false c33
                  clear c33
                  exact absurd ((Option.some.inj H).trans hr_.out) (by decide)
              · rw [if_neg c32] at H
                have c32b0 : decide ((-35184372088832) ≤ t213) = false := decide_eq_false c32
                clear c32
                exact absurd ((Option.some.inj H).trans hr_.out) (by decide)
          · rw [if_neg c20] at H
            have c20b0 : (t214 == 0) = false := beq_eq_false_iff_ne.mpr c20
            have c20b1 : (t214 != 0) = true := bne_iff_ne.mpr c20
            by_cases c42 : t214 = 2
            · rw [if_pos c42] at H
              have c42b0 : (t214 == 2) = true := beq_iff_eq.mpr c42
              have c42b1 : (t214 != 2) = false := bne_eq_false_iff_eq.mpr c42
              clear c42
              by_cases c43 : t213 = 0
              · rw [if_pos c43] at H
                have c43b0 : (t213 == 0) = true := beq_iff_eq.mpr c43
                have c43b1 : (t213 != 0) = false := bne_eq_false_iff_eq.mpr c43
                clear c43
                by_cases c44 : (Int.tmod (wrap64 (a0)) 268435456) > 16777216
                · rw [if_pos c44] at H
                  have c44b0 : decide (16777216 < (Int.tmod (wrap64 (a0)) 268435456)) = true := decide_eq_true c44
                  clear c44
                  replace H := Option.bind_eq_some_iff.mp H
                  obtain ⟨t216, A450, H⟩ := H
                  replace H : (some t216) = some r := H
                  have A45 := Aside0.mk A450
                  clear A450
                  first
                    | exact absurd ((Option.some.inj H).trans hr_.out) (by decide)
                    | (skip
                       obtain rfl := Option.some.inj H
                       go_wp2_with (first | ((with_reducible refine gate_callee (f := 21) rfl ?_); refine goesL_ (some 45) rfl rfl Try.func21 (by kernel_rfl) rfl #[.int .i64 (Int.tmod (wrap64 (a0)) 268435456), .int .i64 (Int.tmod (wrap64 (a1)) 268435456)] rfl (by (try simp only [List.map_toArray, List.map_cons, List.map_nil]); first | done | rfl | (simp only [List.length_drop, List.length_take]; rfl)) ?_; (with_reducible refine (fixed_Div.calls kj3 (Int.tmod (wrap64 (a0)) 268435456) (Int.tmod (wrap64 (a1)) 268435456) t213 t214 _ A11.out).mono ?_); rintro e w46 ⟨rfl, hb⟩; refine ⟨_, rfl, ?_⟩; have n0_ := Aside0.mk (below_step (by repeat (first | (with_reducible first | exact HB.out | apply below_alloc | apply pw_below_drewN | apply below_drew1) | exact HB.out)) hb); clear HB; have HB := n0_; clear n0_; (try clear hb); (try clear hb2); (try clear hk); (try clear hi)) | (go_at_call 16; (with_reducible refine (papermilllaw23_awake.calls kj3  t216 _ A45.out).mono ?_); rintro e w47 ⟨rfl, hb⟩; have n0_ := Aside0.mk (below_step (by repeat (first | (with_reducible first | exact HB.out | apply below_alloc | apply pw_below_drewN | apply below_drew1) | exact HB.out)) hb); clear HB; have HB := n0_; clear n0_; (try clear hb); (try clear hb2); (try clear hk); (try clear hi)))
                       go_ret
                       exact ⟨by first | rfl | (simp [errW_none, errW_some] <;> rfl) | (simp [*, errW_none, errW_some] <;> rfl), by repeat (first | (with_reducible first | exact HB.out | apply below_alloc | apply pw_below_drewN | apply below_drew1) | exact HB.out)⟩)
                · rw [if_neg c44] at H
                  have c44b0 : decide (16777216 < (Int.tmod (wrap64 (a0)) 268435456)) = false := decide_eq_false c44
                  clear c44
                  by_cases c48 : (Int.tmod (wrap64 (a0)) 268435456) < (-16777216)
                  · rw [if_pos c48] at H
                    have c48b0 : decide ((Int.tmod (wrap64 (a0)) 268435456) < (-16777216)) = true := decide_eq_true c48
                    clear c48
                    replace H := Option.bind_eq_some_iff.mp H
                    obtain ⟨t217, A490, H⟩ := H
                    replace H : (some t217) = some r := H
                    have A49 := Aside0.mk A490
                    clear A490
                    first
                      | exact absurd ((Option.some.inj H).trans hr_.out) (by decide)
                      | (skip
                         obtain rfl := Option.some.inj H
                         go_wp2_with (first | ((with_reducible refine gate_callee (f := 21) rfl ?_); refine goesL_ (some 45) rfl rfl Try.func21 (by kernel_rfl) rfl #[.int .i64 (Int.tmod (wrap64 (a0)) 268435456), .int .i64 (Int.tmod (wrap64 (a1)) 268435456)] rfl (by (try simp only [List.map_toArray, List.map_cons, List.map_nil]); first | done | rfl | (simp only [List.length_drop, List.length_take]; rfl)) ?_; (with_reducible refine (fixed_Div.calls kj3 (Int.tmod (wrap64 (a0)) 268435456) (Int.tmod (wrap64 (a1)) 268435456) t213 t214 _ A11.out).mono ?_); rintro e w50 ⟨rfl, hb⟩; refine ⟨_, rfl, ?_⟩; have n0_ := Aside0.mk (below_step (by repeat (first | (with_reducible first | exact HB.out | apply below_alloc | apply pw_below_drewN | apply below_drew1) | exact HB.out)) hb); clear HB; have HB := n0_; clear n0_; (try clear hb); (try clear hb2); (try clear hk); (try clear hi)) | (go_at_call 16; (with_reducible refine (papermilllaw23_awake.calls kj3  t217 _ A49.out).mono ?_); rintro e w51 ⟨rfl, hb⟩; have n0_ := Aside0.mk (below_step (by repeat (first | (with_reducible first | exact HB.out | apply below_alloc | apply pw_below_drewN | apply below_drew1) | exact HB.out)) hb); clear HB; have HB := n0_; clear n0_; (try clear hb); (try clear hb2); (try clear hk); (try clear hi)))
                         go_ret
                         exact ⟨by first | rfl | (simp [errW_none, errW_some] <;> rfl) | (simp [*, errW_none, errW_some] <;> rfl), by repeat (first | (with_reducible first | exact HB.out | apply below_alloc | apply pw_below_drewN | apply below_drew1) | exact HB.out)⟩)
                  · rw [if_neg c48] at H
                    have c48b0 : decide ((Int.tmod (wrap64 (a0)) 268435456) < (-16777216)) = false := decide_eq_false c48
                    clear c48
                    exact absurd ((Option.some.inj H).trans hr_.out) (by decide)
              · rw [if_neg c43] at H
                have c43b0 : (t213 == 0) = false := beq_eq_false_iff_ne.mpr c43
                have c43b1 : (t213 != 0) = true := bne_iff_ne.mpr c43
                exact absurd ((Option.some.inj H).trans hr_.out) (by decide)
            · rw [if_neg c42] at H
              have c42b0 : (t214 == 2) = false := beq_eq_false_iff_ne.mpr c42
              have c42b1 : (t214 != 2) = true := bne_iff_ne.mpr c42
              exact absurd ((Option.some.inj H).trans hr_.out) (by decide)

/-- THE ONE PURE STATEMENT of papermilllaw23_FixedNear: yours. -/
def papermilllaw23_FixedNear.Pure : Prop := ∀ (a0 : Int) (a1 : Int), (Lit.int .i32 a0).wf = true → (Lit.int .i32 a1).wf = true → ∃ k, papermilllaw23_FixedNear.f k a0 a1 = some true
theorem papermilllaw23_FixedNear.walk (P : papermilllaw23_FixedNear.Pure) (a0 : Int) (a1 : Int) (w : World) (w0 : (Lit.int .i32 a0).wf = true) (w1 : (Lit.int .i32 a1).wf = true) :
    Calls Try.prog 6 #[.int .i32 a0, .int .i32 a1] w fun e w' => e = .returned (.bool true) ∧ Below w.heap.size w w' := by
  obtain ⟨k, h⟩ := P a0 a1 w0 w1
  refine (papermilllaw23_FixedNear.calls k a0 a1 true w ⟨rfl⟩ h).mono ?_
  rintro e w' ⟨rfl, hd⟩
  exact ⟨rfl, hd⟩

end Go.Proofs.Ytpmopomiadaonaa.P
