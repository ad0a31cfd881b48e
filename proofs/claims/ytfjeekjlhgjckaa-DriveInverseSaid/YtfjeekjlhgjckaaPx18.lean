-- Written by a program (wip/prog/pp.py) over the kit's print; some of its functions are proved by hand. Not trusted: Lean checks it.
import Derived.Test.YtfjeekjlhgjckaaPx0
import Derived.Test.YtfjeekjlhgjckaaPx3
import Derived.Test.YtfjeekjlhgjckaaPx5
import Derived.Test.YtfjeekjlhgjckaaPx9
import Derived.Test.YtfjeekjlhgjckaaHandWhen
namespace Go.Proofs.Ytfjeekjlhgjckaa.P
open Go.RowKit Go.Proofs.YtfjeekjlhgjckaaW.PrintWords Go.Proofs.YtfjeekjlhgjckaaW.PrintLast Go.Proofs.YtfjeekjlhgjckaaW.PrintMore
attribute [local go_sem] max2_int min2_int max_two min_two max_three min_three max_four min_four   -- for this text's walks alone
set_option linter.unusedVariables false
set_option linter.unusedSimpArgs false

/-! ### papermilllaw29_DriveInverse: function 6 -/
def papermilllaw29_DriveInverse.j0 : Nat → List (S42) → Int → Int → Bool → Option (Bool)
  | 0, _, _, _, _ => none
  | k + 1, x0, x1, x5, x52 => if x52 = true then (some false) else ((drive_Length.f k x0 x5).bind fun bt230 => ((drive_Length.f k x0 (wrap64 (x5 + 1))).bind fun bt232 => (if bt230.2 = 0 then (if bt230.1 ≤ x1 then (if bt232.2 = 0 then (if bt232.1 > x1 then ((papermilllaw29_awake.f k).bind fun t234 => (some t234)) else (if bt232.2 = 21 then ((papermilllaw29_awake.f k).bind fun t235 => (some t235)) else (some false))) else (if bt232.2 = 21 then ((papermilllaw29_awake.f k).bind fun t236 => (some t236)) else (some false))) else (some false)) else (some false))))
def papermilllaw29_DriveInverse.f (k : Nat) (l0 : List (S42)) (a1 : Int) : Option (Bool) := (papermilllaw29_great.f l0).bind fun t222 => (if t222 = true then ((papermilllaw29_awake.f k).bind fun t223 => (some t223)) else ((drive_When.f l0 a1).bind fun bt224 => (if bt224.2 = 0 then (if bt224.1 < 0 then (papermilllaw29_DriveInverse.j0 k l0 a1 bt224.1 true) else (papermilllaw29_DriveInverse.j0 k l0 a1 bt224.1 (decide (bt224.1 > 2147483647)))) else ((drive_Length.f k l0 2147483648).bind fun bt226 => (if bt224.1 = 0 then (if bt224.2 = 7 then (if bt226.2 = 0 then (if bt226.1 ≤ a1 then ((papermilllaw29_awake.f k).bind fun t228 => (some t228)) else (some false)) else (some false)) else ((papermilllaw29_awake.f k).bind fun t229 => (some t229))) else (some false))))))
theorem papermilllaw29_DriveInverse.mono_l : ∀ k, (∀ y0 y1 y2 y3, LeO (papermilllaw29_DriveInverse.j0 k y0 y1 y2 y3) (papermilllaw29_DriveInverse.j0 (k + 1) y0 y1 y2 y3))
  | 0 => fun _ _ _ _ r h => by simp [papermilllaw29_DriveInverse.j0] at h
  | k + 1 => by
    have ih0 := papermilllaw29_DriveInverse.mono_l k
    · intro y0 y1 y2 y3
      unfold papermilllaw29_DriveInverse.j0
      repeat' first
      | (with_reducible exact ih0 _ _ _ _)
      | (with_reducible exact drive_Length.mono _ _ _)
      | (with_reducible exact papermilllaw29_awake.mono _)
      | (with_reducible exact LeO.refl _)
      | (with_reducible exact LeO.none _)
      | (with_reducible refine LeO.ite ?_ ?_)
      | (with_reducible refine LeO.bind ?_ (fun _ => ?_))
      | exact ih0 _ _ _ _
      | exact drive_Length.mono _ _ _
      | exact papermilllaw29_awake.mono _
      | exact LeO.none _
      | refine LeO.ite ?_ ?_
      | refine LeO.bind ?_ (fun _ => ?_)
theorem papermilllaw29_DriveInverse.mono : ∀ a0 a1 k, LeO (papermilllaw29_DriveInverse.f k a0 a1) (papermilllaw29_DriveInverse.f (k + 1) a0 a1) := by
  intro a0 a1 k
  have ih0 := papermilllaw29_DriveInverse.mono_l k
  unfold papermilllaw29_DriveInverse.f
  repeat' first
      | (with_reducible exact ih0 _ _ _ _)
      | (with_reducible exact drive_Length.mono _ _ _)
      | (with_reducible exact papermilllaw29_awake.mono _)
      | (with_reducible exact LeO.refl _)
      | (with_reducible exact LeO.none _)
      | (with_reducible refine LeO.ite ?_ ?_)
      | (with_reducible refine LeO.bind ?_ (fun _ => ?_))
      | exact ih0 _ _ _ _
      | exact drive_Length.mono _ _ _
      | exact papermilllaw29_awake.mono _
      | exact LeO.none _
      | refine LeO.ite ?_ ?_
      | refine LeO.bind ?_ (fun _ => ?_)
set_option maxHeartbeats 8000000 in
set_option maxRecDepth 100000 in
theorem papermilllaw29_DriveInverse.calls (k : Nat) (A0 : Option Addr) (c0 : Nat) (l0 : List (S42)) (a1 : Int) (r : Bool) (w : World) (hr0 : Kd.C k42 w A0 l0.length l0) (hc0 : l0.length ≤ c0) (hr_ : Aside0 (r = true)) (h : papermilllaw29_DriveInverse.f k l0 a1 = some r) :
    Calls Try.prog 6 #[.slice A0 l0.length c0, .int .i64 a1] w fun e w' => e = .returned (.bool r) ∧ Below w.heap.size w w' := by
  have HR0 := Aside0.mk hr0
  have HC0 := Aside0.mk hc0
  clear hr0 hc0
  have HB := Aside0.mk (Below.refl w.heap.size w)
  have H : ((papermilllaw29_great.f l0).bind fun t222 => (if t222 = true then ((papermilllaw29_awake.f k).bind fun t223 => (some t223)) else ((drive_When.f l0 a1).bind fun bt224 => (if bt224.2 = 0 then (if bt224.1 < 0 then (papermilllaw29_DriveInverse.j0 k l0 a1 bt224.1 true) else (papermilllaw29_DriveInverse.j0 k l0 a1 bt224.1 (decide (bt224.1 > 2147483647)))) else ((drive_Length.f k l0 2147483648).bind fun bt226 => (if bt224.1 = 0 then (if bt224.2 = 7 then (if bt226.2 = 0 then (if bt226.1 ≤ a1 then ((papermilllaw29_awake.f k).bind fun t228 => (some t228)) else (some false)) else (some false)) else ((papermilllaw29_awake.f k).bind fun t229 => (some t229))) else (some false))))))) = some r := h
  clear h
  replace H := Option.bind_eq_some_iff.mp H
  obtain ⟨t222, A30, H⟩ := H
  replace H : (if t222 = true then ((papermilllaw29_awake.f k).bind fun t223 => (some t223)) else ((drive_When.f l0 a1).bind fun bt224 => (if bt224.2 = 0 then (if bt224.1 < 0 then (papermilllaw29_DriveInverse.j0 k l0 a1 bt224.1 true) else (papermilllaw29_DriveInverse.j0 k l0 a1 bt224.1 (decide (bt224.1 > 2147483647)))) else ((drive_Length.f k l0 2147483648).bind fun bt226 => (if bt224.1 = 0 then (if bt224.2 = 7 then (if bt226.2 = 0 then (if bt226.1 ≤ a1 then ((papermilllaw29_awake.f k).bind fun t228 => (some t228)) else (some false)) else (some false)) else ((papermilllaw29_awake.f k).bind fun t229 => (some t229))) else (some false)))))) = some r := H
  have A3 := Aside0.mk A30
  clear A30
  by_cases c4 : t222 = true
  · subst c4
    have H1 : ((papermilllaw29_awake.f k).bind fun t223 => (some t223)) = some r := by rw [if_pos rfl] at H; exact H
    clear H
    have H := H1
    clear H1
    replace H := Option.bind_eq_some_iff.mp H
    obtain ⟨t223, A50, H⟩ := H
    replace H : (some t223) = some r := H
    have A5 := Aside0.mk A50
    clear A50
    first
      | exact absurd ((Option.some.inj H).trans hr_.out) (by decide)
      | (skip
         obtain rfl := Option.some.inj H
         go_enter Try.func6, Try.ntmps6
         go_wp2_with (first | ((with_reducible refine gate_callee (f := 12) rfl ?_); refine goesL_ (some 14) rfl rfl Try.func12 (by kernel_rfl) rfl #[.slice A0 l0.length c0] rfl (by (try simp only [List.map_toArray, List.map_cons, List.map_nil]); first | done | rfl | (simp only [List.length_drop, List.length_take]; rfl)) ?_; (with_reducible refine (papermilllaw29_great.calls _ _ l0 true _ ?side1 ?side2 A3.out).mono ?_); (case side1 => repeat (first | exact HR0.out | (with_reducible refine Kd.C_alloc ?_ _) | (with_reducible refine Kd.C_drewN ?_ _) | (with_reducible refine Kd.C_drew ?_))); (case side2 => exact HC0.out); rintro e w' ⟨rfl, ⟨nd, rfl⟩⟩; refine ⟨_, rfl, ?_⟩) | ((with_reducible refine gate_callee (f := 13) rfl ?_); refine goesL_ (some 15) rfl rfl Try.func13 (by kernel_rfl) rfl #[] rfl (by (try simp only [List.map_toArray, List.map_cons, List.map_nil]); first | done | rfl | (simp only [List.length_drop, List.length_take]; rfl)) ?_; (with_reducible refine (papermilllaw29_awake.calls k  t223 _ A5.out).mono ?_); rintro e w6 ⟨rfl, hb⟩; refine ⟨_, rfl, ?_⟩; have n0_ := Aside0.mk (below_step (by repeat (first | (with_reducible first | exact HB.out | apply below_alloc | apply pw_below_drewN | apply below_drew1) | exact HB.out)) hb); clear HB; have HB := n0_; clear n0_; (try clear hb); (try clear hb2); (try clear hk); (try clear hi)))
         go_ret
         exact ⟨by first | rfl | (simp [errW_none, errW_some] <;> rfl) | (simp [*, errW_none, errW_some] <;> rfl), by repeat (first | (with_reducible first | exact HB.out | apply below_alloc | apply pw_below_drewN | apply below_drew1) | exact HB.out)⟩)
  · replace c4 := Bool.eq_false_iff.mpr c4
    subst c4
    have H1 : ((drive_When.f l0 a1).bind fun bt224 => (if bt224.2 = 0 then (if bt224.1 < 0 then (papermilllaw29_DriveInverse.j0 k l0 a1 bt224.1 true) else (papermilllaw29_DriveInverse.j0 k l0 a1 bt224.1 (decide (bt224.1 > 2147483647)))) else ((drive_Length.f k l0 2147483648).bind fun bt226 => (if bt224.1 = 0 then (if bt224.2 = 7 then (if bt226.2 = 0 then (if bt226.1 ≤ a1 then ((papermilllaw29_awake.f k).bind fun t228 => (some t228)) else (some false)) else (some false)) else ((papermilllaw29_awake.f k).bind fun t229 => (some t229))) else (some false))))) = some r := by rw [if_neg (show ¬ (false = true) by decide)] at H; exact H
    clear H
    have H := H1
    clear H1
    replace H := Option.bind_eq_some_iff.mp H
    obtain ⟨⟨t224, t225⟩, A70, H⟩ := H
    replace H : (if t225 = 0 then (if t224 < 0 then (papermilllaw29_DriveInverse.j0 k l0 a1 t224 true) else (papermilllaw29_DriveInverse.j0 k l0 a1 t224 (decide (t224 > 2147483647)))) else ((drive_Length.f k l0 2147483648).bind fun bt226 => (if t224 = 0 then (if t225 = 7 then (if bt226.2 = 0 then (if bt226.1 ≤ a1 then ((papermilllaw29_awake.f k).bind fun t228 => (some t228)) else (some false)) else (some false)) else ((papermilllaw29_awake.f k).bind fun t229 => (some t229))) else (some false)))) = some r := H
    have A7 := Aside0.mk A70
    clear A70
    by_cases c8 : t225 = 0
    · rw [if_pos c8] at H
      have c8b0 : (t225 == 0) = true := beq_iff_eq.mpr c8
      have c8b1 : (t225 != 0) = false := bne_eq_false_iff_eq.mpr c8
      clear c8
      have HC9 := Aside0.mk H
      clear H
      go_enter Try.func6, Try.ntmps6
      go_upto_region 7 with (first | ((with_reducible refine gate_callee (f := 12) rfl ?_); refine goesL_ (some 14) rfl rfl Try.func12 (by kernel_rfl) rfl #[.slice A0 l0.length c0] rfl (by (try simp only [List.map_toArray, List.map_cons, List.map_nil]); first | done | rfl | (simp only [List.length_drop, List.length_take]; rfl)) ?_; (with_reducible refine (papermilllaw29_great.calls _ _ l0 false _ ?side1 ?side2 A3.out).mono ?_); (case side1 => repeat (first | exact HR0.out | (with_reducible refine Kd.C_alloc ?_ _) | (with_reducible refine Kd.C_drewN ?_ _) | (with_reducible refine Kd.C_drew ?_))); (case side2 => exact HC0.out); rintro e w' ⟨rfl, ⟨nd, rfl⟩⟩; refine ⟨_, rfl, ?_⟩) | ((with_reducible refine gate_callee (f := 16) rfl ?_); refine goesL_ (some 19) rfl rfl Try.func16 (by kernel_rfl) rfl #[.slice A0 l0.length c0, .int .i64 a1] rfl (by (try simp only [List.map_toArray, List.map_cons, List.map_nil]); first | done | rfl | (simp only [List.length_drop, List.length_take]; rfl)) ?_; (with_reducible refine (drive_When.calls _ _ l0 a1 t224 t225 _ ?side1 ?side2 A7.out).mono ?_); (case side1 => repeat (first | exact HR0.out | (with_reducible refine Kd.C_alloc ?_ _) | (with_reducible refine Kd.C_drewN ?_ _) | (with_reducible refine Kd.C_drew ?_))); (case side2 => exact HC0.out); rintro e w10 ⟨rfl, hb⟩; refine ⟨_, rfl, ?_⟩; have n0_ := Aside0.mk (below_step (by repeat (first | (with_reducible first | exact HB.out | apply below_alloc | apply pw_below_drewN | apply below_drew1) | exact HB.out)) hb); clear HB; have HB := n0_; clear n0_; (try clear hb); (try clear hb2); (try clear hk); (try clear hi)))
      (try simp only [Act.put, List.setIfInBounds_toArray, List.set_cons_zero, List.set_cons_succ])
      go_cut [52] (fun v52 wc => ∃ (kq : Nat) (x52_8 : Bool), v52 = .bool x52_8 ∧ Aside0 (papermilllaw29_DriveInverse.j0 kq l0 a1 t224 x52_8 = some r) ∧ Aside0 (kq ≤ k) ∧ Aside0 (Below w.heap.size w wc))
      case first =>
        have H := HC9.out
        clear HC9
        by_cases c11 : t224 < 0
        · rw [if_pos c11] at H
          have c11b0 : decide (t224 < 0) = true := decide_eq_true c11
          clear c11
          (first | rw [c11b0] | (simp only [i64_w, i32_w]; rw [c11b0]) | skip)
          have H' := Aside0.mk H
          clear H
          go_wp2
          go_meet
          case rel => exact ⟨_, (true), (by first | rfl | (simp; done) | (simp [*]; done)), H', ⟨by first | omega | exact Nat.le_refl _⟩, ⟨by repeat (first | (with_reducible first | exact HB.out | apply below_alloc | apply pw_below_drewN | apply below_drew1) | exact HB.out)⟩⟩
        · rw [if_neg c11] at H
          have c11b0 : decide (t224 < 0) = false := decide_eq_false c11
          clear c11
          (first | rw [c11b0] | (simp only [i64_w, i32_w]; rw [c11b0]) | skip)
          have H' := Aside0.mk H
          clear H
          go_wp2
          go_meet
          case rel => exact ⟨_, (decide (t224 > 2147483647)), (by first | rfl | (simp; done) | (simp [*]; done)), H', ⟨by first | omega | exact Nat.le_refl _⟩, ⟨by repeat (first | (with_reducible first | exact HB.out | apply below_alloc | apply pw_below_drewN | apply below_drew1) | exact HB.out)⟩⟩
      case rest =>
        clear HC9
        try clear c1
        try clear p2
        try clear c4
        try clear c6
        try clear c8
        try clear c8b0
        try clear c8b1
        try clear c11
        try clear c11b0
        obtain ⟨kq, x52_8, rfl, HA, HJ8, HB⟩ := hcut
        cases kq with
        | zero => exact absurd HA.out (by simp [papermilllaw29_DriveInverse.j0])
        | succ kj8 =>
          have H := HA.out
          clear HA
          simp only [papermilllaw29_DriveInverse.j0] at H
          by_cases c12 : x52_8 = true
          · subst c12
            have H1 : (some false) = some r := by rw [if_pos rfl] at H; exact H
            clear H
            have H := H1
            clear H1
            exact absurd ((Option.some.inj H).trans hr_.out) (by decide)
          · replace c12 := Bool.eq_false_iff.mpr c12
            subst c12
            have H1 : ((drive_Length.f kj8 l0 t224).bind fun bt230 => ((drive_Length.f kj8 l0 (wrap64 (t224 + 1))).bind fun bt232 => (if bt230.2 = 0 then (if bt230.1 ≤ a1 then (if bt232.2 = 0 then (if bt232.1 > a1 then ((papermilllaw29_awake.f kj8).bind fun t234 => (some t234)) else (if bt232.2 = 21 then ((papermilllaw29_awake.f kj8).bind fun t235 => (some t235)) else (some false))) else (if bt232.2 = 21 then ((papermilllaw29_awake.f kj8).bind fun t236 => (some t236)) else (some false))) else (some false)) else (some false)))) = some r := by rw [if_neg (show ¬ (false = true) by decide)] at H; exact H
            clear H
            have H := H1
            clear H1
            replace H := Option.bind_eq_some_iff.mp H
            obtain ⟨⟨t230, t231⟩, A130, H⟩ := H
            replace H : ((drive_Length.f kj8 l0 (wrap64 (t224 + 1))).bind fun bt232 => (if t231 = 0 then (if t230 ≤ a1 then (if bt232.2 = 0 then (if bt232.1 > a1 then ((papermilllaw29_awake.f kj8).bind fun t234 => (some t234)) else (if bt232.2 = 21 then ((papermilllaw29_awake.f kj8).bind fun t235 => (some t235)) else (some false))) else (if bt232.2 = 21 then ((papermilllaw29_awake.f kj8).bind fun t236 => (some t236)) else (some false))) else (some false)) else (some false))) = some r := H
            have A13 := Aside0.mk A130
            clear A130
            replace H := Option.bind_eq_some_iff.mp H
            obtain ⟨⟨t232, t233⟩, A140, H⟩ := H
            replace H : (if t231 = 0 then (if t230 ≤ a1 then (if t233 = 0 then (if t232 > a1 then ((papermilllaw29_awake.f kj8).bind fun t234 => (some t234)) else (if t233 = 21 then ((papermilllaw29_awake.f kj8).bind fun t235 => (some t235)) else (some false))) else (if t233 = 21 then ((papermilllaw29_awake.f kj8).bind fun t236 => (some t236)) else (some false))) else (some false)) else (some false)) = some r := H
            have A14 := Aside0.mk A140
            clear A140
            by_cases c15 : t231 = 0
            · rw [if_pos c15] at H
              have c15b0 : (t231 == 0) = true := beq_iff_eq.mpr c15
              have c15b1 : (t231 != 0) = false := bne_eq_false_iff_eq.mpr c15
              clear c15
              by_cases c16 : t230 ≤ a1
              · rw [if_pos c16] at H
                have c16b0 : decide (t230 ≤ a1) = true := decide_eq_true c16
                clear c16
                by_cases c17 : t233 = 0
                · rw [if_pos c17] at H
                  have c17b0 : (t233 == 0) = true := beq_iff_eq.mpr c17
                  have c17b1 : (t233 != 0) = false := bne_eq_false_iff_eq.mpr c17
                  clear c17
                  by_cases c18 : t232 > a1
                  · rw [if_pos c18] at H
                    have c18b0 : decide (a1 < t232) = true := decide_eq_true c18
                    clear c18
                    replace H := Option.bind_eq_some_iff.mp H
                    obtain ⟨t234, A190, H⟩ := H
                    replace H : (some t234) = some r := H
                    have A19 := Aside0.mk A190
                    clear A190
                    first
                      | exact absurd ((Option.some.inj H).trans hr_.out) (by decide)
                      | (skip
                         obtain rfl := Option.some.inj H
                         go_wp2_with (first | ((with_reducible refine gate_callee (f := 14) rfl ?_); refine goesL_ (some 56) rfl rfl Try.func14 (by kernel_rfl) rfl #[.slice A0 l0.length c0, .int .i64 t224] rfl (by (try simp only [List.map_toArray, List.map_cons, List.map_nil]); first | done | rfl | (simp only [List.length_drop, List.length_take]; rfl)) ?_; (with_reducible refine (drive_Length.calls kj8 _ _ l0 t224 t230 t231 _ ?side1 ?side2 A13.out).mono ?_); (case side1 => repeat (first | exact (Kd.C_below HR0.out HB.out) | (with_reducible refine Kd.C_alloc ?_ _) | (with_reducible refine Kd.C_drewN ?_ _) | (with_reducible refine Kd.C_drew ?_))); (case side2 => exact HC0.out); rintro e w20 ⟨rfl, hb⟩; refine ⟨_, rfl, ?_⟩; have n0_ := Aside0.mk (below_step (by repeat (first | (with_reducible first | exact HB.out | apply below_alloc | apply pw_below_drewN | apply below_drew1) | exact HB.out)) hb); clear HB; have HB := n0_; clear n0_; (try clear hb); (try clear hb2); (try clear hk); (try clear hi)) | ((with_reducible refine gate_callee (f := 14) rfl ?_); refine goesL_ (some 63) rfl rfl Try.func14 (by kernel_rfl) rfl #[.slice A0 l0.length c0, .int .i64 (wrap64 (t224 + 1))] rfl (by (try simp only [List.map_toArray, List.map_cons, List.map_nil]); first | done | rfl | (simp only [List.length_drop, List.length_take]; rfl)) ?_; (with_reducible refine (drive_Length.calls kj8 _ _ l0 (wrap64 (t224 + 1)) t232 t233 _ ?side1 ?side2 A14.out).mono ?_); (case side1 => repeat (first | exact (Kd.C_below HR0.out HB.out) | (with_reducible refine Kd.C_alloc ?_ _) | (with_reducible refine Kd.C_drewN ?_ _) | (with_reducible refine Kd.C_drew ?_))); (case side2 => exact HC0.out); rintro e w21 ⟨rfl, hb⟩; refine ⟨_, rfl, ?_⟩; have n0_ := Aside0.mk (below_step (by repeat (first | (with_reducible first | exact HB.out | apply below_alloc | apply pw_below_drewN | apply below_drew1) | exact HB.out)) hb); clear HB; have HB := n0_; clear n0_; (try clear hb); (try clear hb2); (try clear hk); (try clear hi)) | (go_at_call 13; (with_reducible refine (papermilllaw29_awake.calls kj8  t234 _ A19.out).mono ?_); rintro e w22 ⟨rfl, hb⟩; have n0_ := Aside0.mk (below_step (by repeat (first | (with_reducible first | exact HB.out | apply below_alloc | apply pw_below_drewN | apply below_drew1) | exact HB.out)) hb); clear HB; have HB := n0_; clear n0_; (try clear hb); (try clear hb2); (try clear hk); (try clear hi)))
                         go_ret
                         exact ⟨by first | rfl | (simp [errW_none, errW_some] <;> rfl) | (simp [*, errW_none, errW_some] <;> rfl), by repeat (first | (with_reducible first | exact HB.out | apply below_alloc | apply pw_below_drewN | apply below_drew1) | exact HB.out)⟩)
                  · rw [if_neg c18] at H
                    have c18b0 : decide (a1 < t232) = false := decide_eq_false c18
                    clear c18
                    by_cases c23 : t233 = 21
                    · rw [if_pos c23] at H
                      have c23b0 : (t233 == 21) = true := beq_iff_eq.mpr c23
                      have c23b1 : (t233 != 21) = false := bne_eq_false_iff_eq.mpr c23
                      clear c23
                      replace H := Option.bind_eq_some_iff.mp H
                      obtain ⟨t235, A240, H⟩ := H
                      replace H : (some t235) = some r := H
                      have A24 := Aside0.mk A240
                      clear A240
                      first
                        | exact absurd ((Option.some.inj H).trans hr_.out) (by decide)
                        | (skip
                           obtain rfl := Option.some.inj H
                           go_wp2_with (first | ((with_reducible refine gate_callee (f := 14) rfl ?_); refine goesL_ (some 56) rfl rfl Try.func14 (by kernel_rfl) rfl #[.slice A0 l0.length c0, .int .i64 t224] rfl (by (try simp only [List.map_toArray, List.map_cons, List.map_nil]); first | done | rfl | (simp only [List.length_drop, List.length_take]; rfl)) ?_; (with_reducible refine (drive_Length.calls kj8 _ _ l0 t224 t230 t231 _ ?side1 ?side2 A13.out).mono ?_); (case side1 => repeat (first | exact (Kd.C_below HR0.out HB.out) | (with_reducible refine Kd.C_alloc ?_ _) | (with_reducible refine Kd.C_drewN ?_ _) | (with_reducible refine Kd.C_drew ?_))); (case side2 => exact HC0.out); rintro e w25 ⟨rfl, hb⟩; refine ⟨_, rfl, ?_⟩; have n0_ := Aside0.mk (below_step (by repeat (first | (with_reducible first | exact HB.out | apply below_alloc | apply pw_below_drewN | apply below_drew1) | exact HB.out)) hb); clear HB; have HB := n0_; clear n0_; (try clear hb); (try clear hb2); (try clear hk); (try clear hi)) | ((with_reducible refine gate_callee (f := 14) rfl ?_); refine goesL_ (some 63) rfl rfl Try.func14 (by kernel_rfl) rfl #[.slice A0 l0.length c0, .int .i64 (wrap64 (t224 + 1))] rfl (by (try simp only [List.map_toArray, List.map_cons, List.map_nil]); first | done | rfl | (simp only [List.length_drop, List.length_take]; rfl)) ?_; (with_reducible refine (drive_Length.calls kj8 _ _ l0 (wrap64 (t224 + 1)) t232 t233 _ ?side1 ?side2 A14.out).mono ?_); (case side1 => repeat (first | exact (Kd.C_below HR0.out HB.out) | (with_reducible refine Kd.C_alloc ?_ _) | (with_reducible refine Kd.C_drewN ?_ _) | (with_reducible refine Kd.C_drew ?_))); (case side2 => exact HC0.out); rintro e w26 ⟨rfl, hb⟩; refine ⟨_, rfl, ?_⟩; have n0_ := Aside0.mk (below_step (by repeat (first | (with_reducible first | exact HB.out | apply below_alloc | apply pw_below_drewN | apply below_drew1) | exact HB.out)) hb); clear HB; have HB := n0_; clear n0_; (try clear hb); (try clear hb2); (try clear hk); (try clear hi)) | (go_at_call 13; (with_reducible refine (papermilllaw29_awake.calls kj8  t235 _ A24.out).mono ?_); rintro e w27 ⟨rfl, hb⟩; have n0_ := Aside0.mk (below_step (by repeat (first | (with_reducible first | exact HB.out | apply below_alloc | apply pw_below_drewN | apply below_drew1) | exact HB.out)) hb); clear HB; have HB := n0_; clear n0_; (try clear hb); (try clear hb2); (try clear hk); (try clear hi)))
                           go_ret
                           exact ⟨by first | rfl | (simp [errW_none, errW_some] <;> rfl) | (simp [*, errW_none, errW_some] <;> rfl), by repeat (first | (with_reducible first | exact HB.out | apply below_alloc | apply pw_below_drewN | apply below_drew1) | exact HB.out)⟩)
                    · rw [if_neg c23] at H
                      have c23b0 : (t233 == 21) = false := beq_eq_false_iff_ne.mpr c23
                      have c23b1 : (t233 != 21) = true := bne_iff_ne.mpr c23
                      exact absurd ((Option.some.inj H).trans hr_.out) (by decide)
                · rw [if_neg c17] at H
                  have c17b0 : (t233 == 0) = false := beq_eq_false_iff_ne.mpr c17
                  have c17b1 : (t233 != 0) = true := bne_iff_ne.mpr c17
                  by_cases c30 : t233 = 21
                  · rw [if_pos c30] at H
                    have c30b0 : (t233 == 21) = true := beq_iff_eq.mpr c30
                    have c30b1 : (t233 != 21) = false := bne_eq_false_iff_eq.mpr c30
                    clear c30
                    replace H := Option.bind_eq_some_iff.mp H
                    obtain ⟨t236, A310, H⟩ := H
                    replace H : (some t236) = some r := H
                    have A31 := Aside0.mk A310
                    clear A310
                    first
                      | exact absurd ((Option.some.inj H).trans hr_.out) (by decide)
                      | (skip
                         obtain rfl := Option.some.inj H
                         go_wp2_with (first | ((with_reducible refine gate_callee (f := 14) rfl ?_); refine goesL_ (some 56) rfl rfl Try.func14 (by kernel_rfl) rfl #[.slice A0 l0.length c0, .int .i64 t224] rfl (by (try simp only [List.map_toArray, List.map_cons, List.map_nil]); first | done | rfl | (simp only [List.length_drop, List.length_take]; rfl)) ?_; (with_reducible refine (drive_Length.calls kj8 _ _ l0 t224 t230 t231 _ ?side1 ?side2 A13.out).mono ?_); (case side1 => repeat (first | exact (Kd.C_below HR0.out HB.out) | (with_reducible refine Kd.C_alloc ?_ _) | (with_reducible refine Kd.C_drewN ?_ _) | (with_reducible refine Kd.C_drew ?_))); (case side2 => exact HC0.out); rintro e w32 ⟨rfl, hb⟩; refine ⟨_, rfl, ?_⟩; have n0_ := Aside0.mk (below_step (by repeat (first | (with_reducible first | exact HB.out | apply below_alloc | apply pw_below_drewN | apply below_drew1) | exact HB.out)) hb); clear HB; have HB := n0_; clear n0_; (try clear hb); (try clear hb2); (try clear hk); (try clear hi)) | ((with_reducible refine gate_callee (f := 14) rfl ?_); refine goesL_ (some 63) rfl rfl Try.func14 (by kernel_rfl) rfl #[.slice A0 l0.length c0, .int .i64 (wrap64 (t224 + 1))] rfl (by (try simp only [List.map_toArray, List.map_cons, List.map_nil]); first | done | rfl | (simp only [List.length_drop, List.length_take]; rfl)) ?_; (with_reducible refine (drive_Length.calls kj8 _ _ l0 (wrap64 (t224 + 1)) t232 t233 _ ?side1 ?side2 A14.out).mono ?_); (case side1 => repeat (first | exact (Kd.C_below HR0.out HB.out) | (with_reducible refine Kd.C_alloc ?_ _) | (with_reducible refine Kd.C_drewN ?_ _) | (with_reducible refine Kd.C_drew ?_))); (case side2 => exact HC0.out); rintro e w33 ⟨rfl, hb⟩; refine ⟨_, rfl, ?_⟩; have n0_ := Aside0.mk (below_step (by repeat (first | (with_reducible first | exact HB.out | apply below_alloc | apply pw_below_drewN | apply below_drew1) | exact HB.out)) hb); clear HB; have HB := n0_; clear n0_; (try clear hb); (try clear hb2); (try clear hk); (try clear hi)) | (go_at_call 13; (with_reducible refine (papermilllaw29_awake.calls kj8  t236 _ A31.out).mono ?_); rintro e w34 ⟨rfl, hb⟩; have n0_ := Aside0.mk (below_step (by repeat (first | (with_reducible first | exact HB.out | apply below_alloc | apply pw_below_drewN | apply below_drew1) | exact HB.out)) hb); clear HB; have HB := n0_; clear n0_; (try clear hb); (try clear hb2); (try clear hk); (try clear hi)))
                         go_ret
                         exact ⟨by first | rfl | (simp [errW_none, errW_some] <;> rfl) | (simp [*, errW_none, errW_some] <;> rfl), by repeat (first | (with_reducible first | exact HB.out | apply below_alloc | apply pw_below_drewN | apply below_drew1) | exact HB.out)⟩)
                  · rw [if_neg c30] at H
                    have c30b0 : (t233 == 21) = false := beq_eq_false_iff_ne.mpr c30
                    have c30b1 : (t233 != 21) = true := bne_iff_ne.mpr c30
                    exact absurd ((Option.some.inj H).trans hr_.out) (by decide)
              · rw [if_neg c16] at H
                have c16b0 : decide (t230 ≤ a1) = false := decide_eq_false c16
                clear c16
                exact absurd ((Option.some.inj H).trans hr_.out) (by decide)
            · rw [if_neg c15] at H
              have c15b0 : (t231 == 0) = false := beq_eq_false_iff_ne.mpr c15
              have c15b1 : (t231 != 0) = true := bne_iff_ne.mpr c15
              exact absurd ((Option.some.inj H).trans hr_.out) (by decide)
    · rw [if_neg c8] at H
      have c8b0 : (t225 == 0) = false := beq_eq_false_iff_ne.mpr c8
      have c8b1 : (t225 != 0) = true := bne_iff_ne.mpr c8
      replace H := Option.bind_eq_some_iff.mp H
      obtain ⟨⟨t226, t227⟩, A410, H⟩ := H
      replace H : (if t224 = 0 then (if t225 = 7 then (if t227 = 0 then (if t226 ≤ a1 then ((papermilllaw29_awake.f k).bind fun t228 => (some t228)) else (some false)) else (some false)) else ((papermilllaw29_awake.f k).bind fun t229 => (some t229))) else (some false)) = some r := H
      have A41 := Aside0.mk A410
      clear A410
      by_cases c42 : t224 = 0
      · rw [if_pos c42] at H
        have c42b0 : (t224 == 0) = true := beq_iff_eq.mpr c42
        have c42b1 : (t224 != 0) = false := bne_eq_false_iff_eq.mpr c42
        clear c42
        by_cases c43 : t225 = 7
        · rw [if_pos c43] at H
          have c43b0 : (t225 == 7) = true := beq_iff_eq.mpr c43
          have c43b1 : (t225 != 7) = false := bne_eq_false_iff_eq.mpr c43
          clear c43
          by_cases c44 : t227 = 0
          · rw [if_pos c44] at H
            have c44b0 : (t227 == 0) = true := beq_iff_eq.mpr c44
            have c44b1 : (t227 != 0) = false := bne_eq_false_iff_eq.mpr c44
            clear c44
            by_cases c45 : t226 ≤ a1
            · rw [if_pos c45] at H
              have c45b0 : decide (t226 ≤ a1) = true := decide_eq_true c45
              clear c45
              replace H := Option.bind_eq_some_iff.mp H
              obtain ⟨t228, A460, H⟩ := H
              replace H : (some t228) = some r := H
              have A46 := Aside0.mk A460
              clear A460
              first
                | exact absurd ((Option.some.inj H).trans hr_.out) (by decide)
                | (skip
                   obtain rfl := Option.some.inj H
                   go_enter Try.func6, Try.ntmps6
                   go_wp2_with (first | ((with_reducible refine gate_callee (f := 12) rfl ?_); refine goesL_ (some 14) rfl rfl Try.func12 (by kernel_rfl) rfl #[.slice A0 l0.length c0] rfl (by (try simp only [List.map_toArray, List.map_cons, List.map_nil]); first | done | rfl | (simp only [List.length_drop, List.length_take]; rfl)) ?_; (with_reducible refine (papermilllaw29_great.calls _ _ l0 false _ ?side1 ?side2 A3.out).mono ?_); (case side1 => repeat (first | exact HR0.out | (with_reducible refine Kd.C_alloc ?_ _) | (with_reducible refine Kd.C_drewN ?_ _) | (with_reducible refine Kd.C_drew ?_))); (case side2 => exact HC0.out); rintro e w' ⟨rfl, ⟨nd, rfl⟩⟩; refine ⟨_, rfl, ?_⟩) | ((with_reducible refine gate_callee (f := 16) rfl ?_); refine goesL_ (some 19) rfl rfl Try.func16 (by kernel_rfl) rfl #[.slice A0 l0.length c0, .int .i64 a1] rfl (by (try simp only [List.map_toArray, List.map_cons, List.map_nil]); first | done | rfl | (simp only [List.length_drop, List.length_take]; rfl)) ?_; (with_reducible refine (drive_When.calls _ _ l0 a1 t224 t225 _ ?side1 ?side2 A7.out).mono ?_); (case side1 => repeat (first | exact HR0.out | (with_reducible refine Kd.C_alloc ?_ _) | (with_reducible refine Kd.C_drewN ?_ _) | (with_reducible refine Kd.C_drew ?_))); (case side2 => exact HC0.out); rintro e w47 ⟨rfl, hb⟩; refine ⟨_, rfl, ?_⟩; have n0_ := Aside0.mk (below_step (by repeat (first | (with_reducible first | exact HB.out | apply below_alloc | apply pw_below_drewN | apply below_drew1) | exact HB.out)) hb); clear HB; have HB := n0_; clear n0_; (try clear hb); (try clear hb2); (try clear hk); (try clear hi)) | ((with_reducible refine gate_callee (f := 14) rfl ?_); refine goesL_ (some 26) rfl rfl Try.func14 (by kernel_rfl) rfl #[.slice A0 l0.length c0, .int .i64 2147483648] rfl (by (try simp only [List.map_toArray, List.map_cons, List.map_nil]); first | done | rfl | (simp only [List.length_drop, List.length_take]; rfl)) ?_; (with_reducible refine (drive_Length.calls k _ _ l0 2147483648 t226 t227 _ ?side1 ?side2 A41.out).mono ?_); (case side1 => repeat (first | exact (Kd.C_below HR0.out HB.out) | (with_reducible refine Kd.C_alloc ?_ _) | (with_reducible refine Kd.C_drewN ?_ _) | (with_reducible refine Kd.C_drew ?_))); (case side2 => exact HC0.out); rintro e w48 ⟨rfl, hb⟩; refine ⟨_, rfl, ?_⟩; have n0_ := Aside0.mk (below_step (by repeat (first | (with_reducible first | exact HB.out | apply below_alloc | apply pw_below_drewN | apply below_drew1) | exact HB.out)) hb); clear HB; have HB := n0_; clear n0_; (try clear hb); (try clear hb2); (try clear hk); (try clear hi)) | (go_at_call 13; (with_reducible refine (papermilllaw29_awake.calls k  t228 _ A46.out).mono ?_); rintro e w49 ⟨rfl, hb⟩; have n0_ := Aside0.mk (below_step (by repeat (first | (with_reducible first | exact HB.out | apply below_alloc | apply pw_below_drewN | apply below_drew1) | exact HB.out)) hb); clear HB; have HB := n0_; clear n0_; (try clear hb); (try clear hb2); (try clear hk); (try clear hi)))
                   go_ret
                   exact ⟨by first | rfl | (simp [errW_none, errW_some] <;> rfl) | (simp [*, errW_none, errW_some] <;> rfl), by repeat (first | (with_reducible first | exact HB.out | apply below_alloc | apply pw_below_drewN | apply below_drew1) | exact HB.out)⟩)
            · rw [if_neg c45] at H
              have c45b0 : decide (t226 ≤ a1) = false := decide_eq_false c45
              clear c45
              exact absurd ((Option.some.inj H).trans hr_.out) (by decide)
          · rw [if_neg c44] at H
            have c44b0 : (t227 == 0) = false := beq_eq_false_iff_ne.mpr c44
            have c44b1 : (t227 != 0) = true := bne_iff_ne.mpr c44
            exact absurd ((Option.some.inj H).trans hr_.out) (by decide)
        · rw [if_neg c43] at H
          have c43b0 : (t225 == 7) = false := beq_eq_false_iff_ne.mpr c43
          have c43b1 : (t225 != 7) = true := bne_iff_ne.mpr c43
          replace H := Option.bind_eq_some_iff.mp H
          obtain ⟨t229, A540, H⟩ := H
          replace H : (some t229) = some r := H
          have A54 := Aside0.mk A540
          clear A540
          first
            | exact absurd ((Option.some.inj H).trans hr_.out) (by decide)
            | (skip
               obtain rfl := Option.some.inj H
               go_enter Try.func6, Try.ntmps6
               go_wp2_with (first | ((with_reducible refine gate_callee (f := 12) rfl ?_); refine goesL_ (some 14) rfl rfl Try.func12 (by kernel_rfl) rfl #[.slice A0 l0.length c0] rfl (by (try simp only [List.map_toArray, List.map_cons, List.map_nil]); first | done | rfl | (simp only [List.length_drop, List.length_take]; rfl)) ?_; (with_reducible refine (papermilllaw29_great.calls _ _ l0 false _ ?side1 ?side2 A3.out).mono ?_); (case side1 => repeat (first | exact HR0.out | (with_reducible refine Kd.C_alloc ?_ _) | (with_reducible refine Kd.C_drewN ?_ _) | (with_reducible refine Kd.C_drew ?_))); (case side2 => exact HC0.out); rintro e w' ⟨rfl, ⟨nd, rfl⟩⟩; refine ⟨_, rfl, ?_⟩) | ((with_reducible refine gate_callee (f := 16) rfl ?_); refine goesL_ (some 19) rfl rfl Try.func16 (by kernel_rfl) rfl #[.slice A0 l0.length c0, .int .i64 a1] rfl (by (try simp only [List.map_toArray, List.map_cons, List.map_nil]); first | done | rfl | (simp only [List.length_drop, List.length_take]; rfl)) ?_; (with_reducible refine (drive_When.calls _ _ l0 a1 t224 t225 _ ?side1 ?side2 A7.out).mono ?_); (case side1 => repeat (first | exact HR0.out | (with_reducible refine Kd.C_alloc ?_ _) | (with_reducible refine Kd.C_drewN ?_ _) | (with_reducible refine Kd.C_drew ?_))); (case side2 => exact HC0.out); rintro e w55 ⟨rfl, hb⟩; refine ⟨_, rfl, ?_⟩; have n0_ := Aside0.mk (below_step (by repeat (first | (with_reducible first | exact HB.out | apply below_alloc | apply pw_below_drewN | apply below_drew1) | exact HB.out)) hb); clear HB; have HB := n0_; clear n0_; (try clear hb); (try clear hb2); (try clear hk); (try clear hi)) | ((with_reducible refine gate_callee (f := 14) rfl ?_); refine goesL_ (some 26) rfl rfl Try.func14 (by kernel_rfl) rfl #[.slice A0 l0.length c0, .int .i64 2147483648] rfl (by (try simp only [List.map_toArray, List.map_cons, List.map_nil]); first | done | rfl | (simp only [List.length_drop, List.length_take]; rfl)) ?_; (with_reducible refine (drive_Length.calls k _ _ l0 2147483648 t226 t227 _ ?side1 ?side2 A41.out).mono ?_); (case side1 => repeat (first | exact (Kd.C_below HR0.out HB.out) | (with_reducible refine Kd.C_alloc ?_ _) | (with_reducible refine Kd.C_drewN ?_ _) | (with_reducible refine Kd.C_drew ?_))); (case side2 => exact HC0.out); rintro e w56 ⟨rfl, hb⟩; refine ⟨_, rfl, ?_⟩; have n0_ := Aside0.mk (below_step (by repeat (first | (with_reducible first | exact HB.out | apply below_alloc | apply pw_below_drewN | apply below_drew1) | exact HB.out)) hb); clear HB; have HB := n0_; clear n0_; (try clear hb); (try clear hb2); (try clear hk); (try clear hi)) | (go_at_call 13; (with_reducible refine (papermilllaw29_awake.calls k  t229 _ A54.out).mono ?_); rintro e w57 ⟨rfl, hb⟩; have n0_ := Aside0.mk (below_step (by repeat (first | (with_reducible first | exact HB.out | apply below_alloc | apply pw_below_drewN | apply below_drew1) | exact HB.out)) hb); clear HB; have HB := n0_; clear n0_; (try clear hb); (try clear hb2); (try clear hk); (try clear hi)))
               go_ret
               exact ⟨by first | rfl | (simp [errW_none, errW_some] <;> rfl) | (simp [*, errW_none, errW_some] <;> rfl), by repeat (first | (with_reducible first | exact HB.out | apply below_alloc | apply pw_below_drewN | apply below_drew1) | exact HB.out)⟩)
      · rw [if_neg c42] at H
        have c42b0 : (t224 == 0) = false := beq_eq_false_iff_ne.mpr c42
        have c42b1 : (t224 != 0) = true := bne_iff_ne.mpr c42
        exact absurd ((Option.some.inj H).trans hr_.out) (by decide)

end Go.Proofs.Ytfjeekjlhgjckaa.P
