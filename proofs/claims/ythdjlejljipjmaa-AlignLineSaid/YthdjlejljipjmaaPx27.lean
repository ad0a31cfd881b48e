-- Written by a program (wip/prog/pp.py) over the kit's print; some of its functions are proved by hand. Not trusted: Lean checks it.
import Derived.Test.YthdjlejljipjmaaPx0
import Derived.Test.YthdjlejljipjmaaPx3
import Derived.Test.YthdjlejljipjmaaPx4
import Derived.Test.YthdjlejljipjmaaPx7
import Derived.Test.YthdjlejljipjmaaPx10
import Derived.Test.YthdjlejljipjmaaPx12
import Derived.Test.YthdjlejljipjmaaPx13
namespace Go.Proofs.Ythdjlejljipjmaa.P
open Go.RowKit Go.Proofs.YthdjlejljipjmaaW.PrintWords Go.Proofs.YthdjlejljipjmaaW.PrintLast Go.Proofs.YthdjlejljipjmaaW.PrintMore
attribute [local go_sem] max2_int min2_int max_two min_two max_three min_three max_four min_four   -- for this text's walks alone
set_option linter.unusedVariables false
set_option linter.unusedSimpArgs false

/-! ### papermilllaw14_AlignLine: function 9 -/
mutual
def papermilllaw14_AlignLine.j0 : Nat → List (S41) → Int → Int → Bool → Option (Bool)
  | 0, _, _, _, _ => none
  | k + 1, x0, x1, x2, x34 => if x34 = true then ((papermilllaw14_awake.f k).bind fun t336 => (some t336)) else (if 0 ≤ x2 then (if x2 < (x0.length : Int) then ((align_Forward.f k x0 ((rd_T41 x0 x2).f0)).bind fun bt338 => ((align_Thin.f k x0).bind fun bt340 => ((align_Thin.f k bt340.1).bind fun bt344 => (if bt338.2 = 0 then (if bt340.2 = 0 then (if bt344.2 = 0 then (if bt338.1 = ((rd_T41 x0 x2).f1) then ((papermillref14_Same.f k bt340.1 bt344.1).bind fun t349 => (if t349 = true then (papermilllaw14_AlignLine.j1 k x0 x1 bt340.1 (decide ((bt340.1.length : Int) > (x0.length : Int)))) else (papermilllaw14_AlignLine.j1 k x0 x1 bt340.1 true))) else (papermilllaw14_AlignLine.j1 k x0 x1 bt340.1 true)) else (papermilllaw14_AlignLine.j1 k x0 x1 bt340.1 true)) else (papermilllaw14_AlignLine.j1 k x0 x1 bt340.1 true)) else (papermilllaw14_AlignLine.j1 k x0 x1 bt340.1 true))))) else (none)) else (none))
def papermilllaw14_AlignLine.j1 : Nat → List (S41) → Int → List (S41) → Bool → Option (Bool)
  | 0, _, _, _, _ => none
  | k + 1, x0, x1, x9, x87 => if x87 = true then (some false) else ((align_Forward.f k x0 x1).bind fun bt350 => ((align_Forward.f k x9 x1).bind fun bt352 => (if bt350.1 = bt352.1 then (if bt350.2 = bt352.2 then ((papermilllaw14_awake.f k).bind fun t354 => (some t354)) else (some false)) else (some false))))
end
def papermilllaw14_AlignLine.f (k : Nat) (l0 : List (S41)) (a1 : Int) (a2 : Int) : Option (Bool) := (papermilllaw14_few.f l0).bind fun t334 => (if t334 = true then ((align_Check.f k l0).bind fun t335 => (if t335 = 0 then (if a2 < 0 then (papermilllaw14_AlignLine.j0 k l0 a1 a2 true) else (papermilllaw14_AlignLine.j0 k l0 a1 a2 (decide (a2 ≥ (l0.length : Int))))) else (papermilllaw14_AlignLine.j0 k l0 a1 a2 true))) else (papermilllaw14_AlignLine.j0 k l0 a1 a2 true))
theorem papermilllaw14_AlignLine.mono_l : ∀ k, (∀ y0 y1 y2 y3, LeO (papermilllaw14_AlignLine.j0 k y0 y1 y2 y3) (papermilllaw14_AlignLine.j0 (k + 1) y0 y1 y2 y3)) ∧ (∀ y0 y1 y2 y3, LeO (papermilllaw14_AlignLine.j1 k y0 y1 y2 y3) (papermilllaw14_AlignLine.j1 (k + 1) y0 y1 y2 y3))
  | 0 => ⟨fun _ _ _ _ r h => by simp [papermilllaw14_AlignLine.j0] at h, fun _ _ _ _ r h => by simp [papermilllaw14_AlignLine.j1] at h⟩
  | k + 1 => by
    obtain ⟨ih0, ih1⟩ := papermilllaw14_AlignLine.mono_l k
    refine ⟨?_, ?_⟩
    · intro y0 y1 y2 y3
      unfold papermilllaw14_AlignLine.j0
      repeat' first
      | (with_reducible exact ih0 _ _ _ _)
      | (with_reducible exact ih1 _ _ _ _)
      | (with_reducible exact align_Check.mono _ _)
      | (with_reducible exact align_Forward.mono _ _ _)
      | (with_reducible exact align_Thin.mono _ _)
      | (with_reducible exact papermilllaw14_awake.mono _)
      | (with_reducible exact papermillref14_Same.mono _ _ _)
      | (with_reducible exact LeO.refl _)
      | (with_reducible exact LeO.none _)
      | (with_reducible refine LeO.ite ?_ ?_)
      | (with_reducible refine LeO.bind ?_ (fun _ => ?_))
      | exact ih0 _ _ _ _
      | exact ih1 _ _ _ _
      | exact align_Check.mono _ _
      | exact align_Forward.mono _ _ _
      | exact align_Thin.mono _ _
      | exact papermilllaw14_awake.mono _
      | exact papermillref14_Same.mono _ _ _
      | exact LeO.none _
      | refine LeO.ite ?_ ?_
      | refine LeO.bind ?_ (fun _ => ?_)
    · intro y0 y1 y2 y3
      unfold papermilllaw14_AlignLine.j1
      repeat' first
      | (with_reducible exact ih0 _ _ _ _)
      | (with_reducible exact ih1 _ _ _ _)
      | (with_reducible exact align_Check.mono _ _)
      | (with_reducible exact align_Forward.mono _ _ _)
      | (with_reducible exact align_Thin.mono _ _)
      | (with_reducible exact papermilllaw14_awake.mono _)
      | (with_reducible exact papermillref14_Same.mono _ _ _)
      | (with_reducible exact LeO.refl _)
      | (with_reducible exact LeO.none _)
      | (with_reducible refine LeO.ite ?_ ?_)
      | (with_reducible refine LeO.bind ?_ (fun _ => ?_))
      | exact ih0 _ _ _ _
      | exact ih1 _ _ _ _
      | exact align_Check.mono _ _
      | exact align_Forward.mono _ _ _
      | exact align_Thin.mono _ _
      | exact papermilllaw14_awake.mono _
      | exact papermillref14_Same.mono _ _ _
      | exact LeO.none _
      | refine LeO.ite ?_ ?_
      | refine LeO.bind ?_ (fun _ => ?_)
theorem papermilllaw14_AlignLine.mono : ∀ a0 a1 a2 k, LeO (papermilllaw14_AlignLine.f k a0 a1 a2) (papermilllaw14_AlignLine.f (k + 1) a0 a1 a2) := by
  intro a0 a1 a2 k
  obtain ⟨ih0, ih1⟩ := papermilllaw14_AlignLine.mono_l k
  unfold papermilllaw14_AlignLine.f
  repeat' first
      | (with_reducible exact ih0 _ _ _ _)
      | (with_reducible exact ih1 _ _ _ _)
      | (with_reducible exact align_Check.mono _ _)
      | (with_reducible exact align_Forward.mono _ _ _)
      | (with_reducible exact align_Thin.mono _ _)
      | (with_reducible exact papermilllaw14_awake.mono _)
      | (with_reducible exact papermillref14_Same.mono _ _ _)
      | (with_reducible exact LeO.refl _)
      | (with_reducible exact LeO.none _)
      | (with_reducible refine LeO.ite ?_ ?_)
      | (with_reducible refine LeO.bind ?_ (fun _ => ?_))
      | exact ih0 _ _ _ _
      | exact ih1 _ _ _ _
      | exact align_Check.mono _ _
      | exact align_Forward.mono _ _ _
      | exact align_Thin.mono _ _
      | exact papermilllaw14_awake.mono _
      | exact papermillref14_Same.mono _ _ _
      | exact LeO.none _
      | refine LeO.ite ?_ ?_
      | refine LeO.bind ?_ (fun _ => ?_)
set_option maxHeartbeats 8000000 in
set_option maxRecDepth 100000 in
theorem papermilllaw14_AlignLine.calls (k : Nat) (A0 : Option Addr) (c0 : Nat) (l0 : List (S41)) (a1 : Int) (a2 : Int) (r : Bool) (w : World) (hr0 : Kd.C k41 w A0 l0.length l0) (hc0 : l0.length ≤ c0) (hr_ : Aside0 (r = true)) (h : papermilllaw14_AlignLine.f k l0 a1 a2 = some r) :
    Calls Try.prog 9 #[.slice A0 l0.length c0, .int .i64 a1, .int .i64 a2] w fun e w' => e = .returned (.bool r) ∧ Below w.heap.size w w' := by
  have HR0 := Aside0.mk hr0
  have HC0 := Aside0.mk hc0
  clear hr0 hc0
  have HB := Aside0.mk (Below.refl w.heap.size w)
  have H : ((papermilllaw14_few.f l0).bind fun t334 => (if t334 = true then ((align_Check.f k l0).bind fun t335 => (if t335 = 0 then (if a2 < 0 then (papermilllaw14_AlignLine.j0 k l0 a1 a2 true) else (papermilllaw14_AlignLine.j0 k l0 a1 a2 (decide (a2 ≥ (l0.length : Int))))) else (papermilllaw14_AlignLine.j0 k l0 a1 a2 true))) else (papermilllaw14_AlignLine.j0 k l0 a1 a2 true))) = some r := h
  clear h
  have HC4 := Aside0.mk H
  clear H
  go_enter Try.func9, Try.ntmps9
  go_upto_region 1 with (fail)
  go_cut [34] (fun v34 wc => ∃ (kq : Nat) (x34_3 : Bool), v34 = .bool x34_3 ∧ Aside0 (papermilllaw14_AlignLine.j0 kq l0 a1 a2 x34_3 = some r) ∧ Aside0 (kq ≤ k) ∧ Aside0 (Below w.heap.size w wc))
  case first =>
    have H := HC4.out
    clear HC4
    replace H := Option.bind_eq_some_iff.mp H
    obtain ⟨t334, A50, H⟩ := H
    replace H : (if t334 = true then ((align_Check.f k l0).bind fun t335 => (if t335 = 0 then (if a2 < 0 then (papermilllaw14_AlignLine.j0 k l0 a1 a2 true) else (papermilllaw14_AlignLine.j0 k l0 a1 a2 (decide (a2 ≥ (l0.length : Int))))) else (papermilllaw14_AlignLine.j0 k l0 a1 a2 true))) else (papermilllaw14_AlignLine.j0 k l0 a1 a2 true)) = some r := H
    have A5 := Aside0.mk A50
    clear A50
    by_cases c6 : t334 = true
    · subst c6
      have H1 : ((align_Check.f k l0).bind fun t335 => (if t335 = 0 then (if a2 < 0 then (papermilllaw14_AlignLine.j0 k l0 a1 a2 true) else (papermilllaw14_AlignLine.j0 k l0 a1 a2 (decide (a2 ≥ (l0.length : Int))))) else (papermilllaw14_AlignLine.j0 k l0 a1 a2 true))) = some r := by rw [if_pos rfl] at H; exact H
      clear H
      have H := H1
      clear H1
      replace H := Option.bind_eq_some_iff.mp H
      obtain ⟨t335, A70, H⟩ := H
      replace H : (if t335 = 0 then (if a2 < 0 then (papermilllaw14_AlignLine.j0 k l0 a1 a2 true) else (papermilllaw14_AlignLine.j0 k l0 a1 a2 (decide (a2 ≥ (l0.length : Int))))) else (papermilllaw14_AlignLine.j0 k l0 a1 a2 true)) = some r := H
      have A7 := Aside0.mk A70
      clear A70
      by_cases c8 : t335 = 0
      · rw [if_pos c8] at H
        have c8b0 : (t335 == 0) = true := beq_iff_eq.mpr c8
        have c8b1 : (t335 != 0) = false := bne_eq_false_iff_eq.mpr c8
        clear c8
        (first | rw [c8b0] | (simp only [i64_w, i32_w]; rw [c8b0]) | skip)
        by_cases c9 : a2 < 0
        · rw [if_pos c9] at H
          have c9b0 : decide (a2 < 0) = true := decide_eq_true c9
          clear c9
          have H' := Aside0.mk H
          clear H
          go_wp2_with (first | ((with_reducible refine gate_callee (f := 11) rfl ?_); refine goesL_ (some 18) rfl rfl Try.func11 (by kernel_rfl) rfl #[.slice A0 l0.length c0] rfl (by (try simp only [List.map_toArray, List.map_cons, List.map_nil]); first | done | rfl | (simp only [List.length_drop, List.length_take]; rfl)) ?_; (with_reducible refine (papermilllaw14_few.calls _ _ l0 true _ ?side1 ?side2 A5.out).mono ?_); (case side1 => repeat (first | exact (Kd.C_below HR0.out HB.out) | (with_reducible refine Kd.C_alloc ?_ _) | (with_reducible refine Kd.C_drewN ?_ _) | (with_reducible refine Kd.C_drew ?_))); (case side2 => exact HC0.out); rintro e w' ⟨rfl, ⟨nd, rfl⟩⟩; refine ⟨_, rfl, ?_⟩) | (go_at_call 13; (with_reducible refine (align_Check.calls k _ _ l0 t335 _ ?side1 ?side2 A7.out).mono ?_); (case side1 => repeat (first | exact (Kd.C_below HR0.out (by repeat (first | (with_reducible first | exact HB.out | apply below_alloc | apply pw_below_drewN | apply below_drew1) | exact HB.out))) | (with_reducible refine Kd.C_alloc ?_ _) | (with_reducible refine Kd.C_drewN ?_ _) | (with_reducible refine Kd.C_drew ?_))); (case side2 => exact HC0.out); rintro e w10 ⟨rfl, hb⟩; have n0_ := Aside0.mk (below_step (by repeat (first | (with_reducible first | exact HB.out | apply below_alloc | apply pw_below_drewN | apply below_drew1) | exact HB.out)) hb); clear HB; have HB := n0_; clear n0_; (try clear hb); (try clear hb2); (try clear hk); (try clear hi)))
          go_meet
          case rel => exact ⟨_, (true), (by first | rfl | (simp; done) | (simp [*]; done)), H', ⟨by first | omega | exact Nat.le_refl _⟩, ⟨by repeat (first | (with_reducible first | exact HB.out | apply below_alloc | apply pw_below_drewN | apply below_drew1) | exact HB.out)⟩⟩
        · rw [if_neg c9] at H
          have c9b0 : decide (a2 < 0) = false := decide_eq_false c9
          clear c9
          have H' := Aside0.mk H
          clear H
          go_wp2_with (first | ((with_reducible refine gate_callee (f := 11) rfl ?_); refine goesL_ (some 18) rfl rfl Try.func11 (by kernel_rfl) rfl #[.slice A0 l0.length c0] rfl (by (try simp only [List.map_toArray, List.map_cons, List.map_nil]); first | done | rfl | (simp only [List.length_drop, List.length_take]; rfl)) ?_; (with_reducible refine (papermilllaw14_few.calls _ _ l0 true _ ?side1 ?side2 A5.out).mono ?_); (case side1 => repeat (first | exact (Kd.C_below HR0.out HB.out) | (with_reducible refine Kd.C_alloc ?_ _) | (with_reducible refine Kd.C_drewN ?_ _) | (with_reducible refine Kd.C_drew ?_))); (case side2 => exact HC0.out); rintro e w' ⟨rfl, ⟨nd, rfl⟩⟩; refine ⟨_, rfl, ?_⟩) | (go_at_call 13; (with_reducible refine (align_Check.calls k _ _ l0 t335 _ ?side1 ?side2 A7.out).mono ?_); (case side1 => repeat (first | exact (Kd.C_below HR0.out (by repeat (first | (with_reducible first | exact HB.out | apply below_alloc | apply pw_below_drewN | apply below_drew1) | exact HB.out))) | (with_reducible refine Kd.C_alloc ?_ _) | (with_reducible refine Kd.C_drewN ?_ _) | (with_reducible refine Kd.C_drew ?_))); (case side2 => exact HC0.out); rintro e w11 ⟨rfl, hb⟩; have n0_ := Aside0.mk (below_step (by repeat (first | (with_reducible first | exact HB.out | apply below_alloc | apply pw_below_drewN | apply below_drew1) | exact HB.out)) hb); clear HB; have HB := n0_; clear n0_; (try clear hb); (try clear hb2); (try clear hk); (try clear hi)))
          go_meet
          case rel => exact ⟨_, (decide (a2 ≥ (l0.length : Int))), (by first | rfl | (simp; done) | (simp [*]; done)), H', ⟨by first | omega | exact Nat.le_refl _⟩, ⟨by repeat (first | (with_reducible first | exact HB.out | apply below_alloc | apply pw_below_drewN | apply below_drew1) | exact HB.out)⟩⟩
      · rw [if_neg c8] at H
        have c8b0 : (t335 == 0) = false := beq_eq_false_iff_ne.mpr c8
        have c8b1 : (t335 != 0) = true := bne_iff_ne.mpr c8
        (first | rw [c8b0] | (simp only [i64_w, i32_w]; rw [c8b0]) | skip)
        have H' := Aside0.mk H
        clear H
        go_wp2_with (first | ((with_reducible refine gate_callee (f := 11) rfl ?_); refine goesL_ (some 18) rfl rfl Try.func11 (by kernel_rfl) rfl #[.slice A0 l0.length c0] rfl (by (try simp only [List.map_toArray, List.map_cons, List.map_nil]); first | done | rfl | (simp only [List.length_drop, List.length_take]; rfl)) ?_; (with_reducible refine (papermilllaw14_few.calls _ _ l0 true _ ?side1 ?side2 A5.out).mono ?_); (case side1 => repeat (first | exact (Kd.C_below HR0.out HB.out) | (with_reducible refine Kd.C_alloc ?_ _) | (with_reducible refine Kd.C_drewN ?_ _) | (with_reducible refine Kd.C_drew ?_))); (case side2 => exact HC0.out); rintro e w' ⟨rfl, ⟨nd, rfl⟩⟩; refine ⟨_, rfl, ?_⟩) | (go_at_call 13; (with_reducible refine (align_Check.calls k _ _ l0 t335 _ ?side1 ?side2 A7.out).mono ?_); (case side1 => repeat (first | exact (Kd.C_below HR0.out (by repeat (first | (with_reducible first | exact HB.out | apply below_alloc | apply pw_below_drewN | apply below_drew1) | exact HB.out))) | (with_reducible refine Kd.C_alloc ?_ _) | (with_reducible refine Kd.C_drewN ?_ _) | (with_reducible refine Kd.C_drew ?_))); (case side2 => exact HC0.out); rintro e w12 ⟨rfl, hb⟩; have n0_ := Aside0.mk (below_step (by repeat (first | (with_reducible first | exact HB.out | apply below_alloc | apply pw_below_drewN | apply below_drew1) | exact HB.out)) hb); clear HB; have HB := n0_; clear n0_; (try clear hb); (try clear hb2); (try clear hk); (try clear hi)))
        go_meet
        case rel => exact ⟨_, (true), (by first | rfl | (simp; done) | (simp [*]; done)), H', ⟨by first | omega | exact Nat.le_refl _⟩, ⟨by repeat (first | (with_reducible first | exact HB.out | apply below_alloc | apply pw_below_drewN | apply below_drew1) | exact HB.out)⟩⟩
    · replace c6 := Bool.eq_false_iff.mpr c6
      subst c6
      have H1 : (papermilllaw14_AlignLine.j0 k l0 a1 a2 true) = some r := by rw [if_neg (show ¬ (false = true) by decide)] at H; exact H
      clear H
      have H := H1
      clear H1
      have H' := Aside0.mk H
      clear H
      go_wp2_with (first | ((with_reducible refine gate_callee (f := 11) rfl ?_); refine goesL_ (some 18) rfl rfl Try.func11 (by kernel_rfl) rfl #[.slice A0 l0.length c0] rfl (by (try simp only [List.map_toArray, List.map_cons, List.map_nil]); first | done | rfl | (simp only [List.length_drop, List.length_take]; rfl)) ?_; (with_reducible refine (papermilllaw14_few.calls _ _ l0 false _ ?side1 ?side2 A5.out).mono ?_); (case side1 => repeat (first | exact (Kd.C_below HR0.out HB.out) | (with_reducible refine Kd.C_alloc ?_ _) | (with_reducible refine Kd.C_drewN ?_ _) | (with_reducible refine Kd.C_drew ?_))); (case side2 => exact HC0.out); rintro e w' ⟨rfl, ⟨nd, rfl⟩⟩; refine ⟨_, rfl, ?_⟩))
      go_meet
      case rel => exact ⟨_, (true), (by first | rfl | (simp; done) | (simp [*]; done)), H', ⟨by first | omega | exact Nat.le_refl _⟩, ⟨by repeat (first | (with_reducible first | exact HB.out | apply below_alloc | apply pw_below_drewN | apply below_drew1) | exact HB.out)⟩⟩
  case rest =>
    clear HC4
    try clear c1
    try clear p2
    try clear c6
    try clear c8
    try clear c8b0
    try clear c8b1
    try clear c9
    try clear c9b0
    try clear c11
    obtain ⟨kq, x34_3, rfl, HA, HJ3, HB⟩ := hcut
    cases kq with
    | zero => exact absurd HA.out (by simp [papermilllaw14_AlignLine.j0])
    | succ kj3 =>
      have H := HA.out
      clear HA
      simp only [papermilllaw14_AlignLine.j0] at H
      by_cases c13 : x34_3 = true
      · subst c13
        have H1 : ((papermilllaw14_awake.f kj3).bind fun t336 => (some t336)) = some r := by rw [if_pos rfl] at H; exact H
        clear H
        have H := H1
        clear H1
        replace H := Option.bind_eq_some_iff.mp H
        obtain ⟨t336, A140, H⟩ := H
        replace H : (some t336) = some r := H
        have A14 := Aside0.mk A140
        clear A140
        first
          | exact absurd ((Option.some.inj H).trans hr_.out) (by decide)
          | (skip
             obtain rfl := Option.some.inj H
             go_wp2_with (first | ((with_reducible refine gate_callee (f := 12) rfl ?_); refine goesL_ (some 35) rfl rfl Try.func12 (by kernel_rfl) rfl #[] rfl (by (try simp only [List.map_toArray, List.map_cons, List.map_nil]); first | done | rfl | (simp only [List.length_drop, List.length_take]; rfl)) ?_; (with_reducible refine (papermilllaw14_awake.calls kj3  t336 _ A14.out).mono ?_); rintro e w15 ⟨rfl, hb⟩; refine ⟨_, rfl, ?_⟩; have n0_ := Aside0.mk (below_step (by repeat (first | (with_reducible first | exact HB.out | apply below_alloc | apply pw_below_drewN | apply below_drew1) | exact HB.out)) hb); clear HB; have HB := n0_; clear n0_; (try clear hb); (try clear hb2); (try clear hk); (try clear hi)))
             go_ret
             exact ⟨by first | rfl | (simp [errW_none, errW_some] <;> rfl) | (simp [*, errW_none, errW_some] <;> rfl), by repeat (first | (with_reducible first | exact HB.out | apply below_alloc | apply pw_below_drewN | apply below_drew1) | exact HB.out)⟩)
      · replace c13 := Bool.eq_false_iff.mpr c13
        subst c13
        have H1 : (if 0 ≤ a2 then (if a2 < (l0.length : Int) then ((align_Forward.f kj3 l0 ((rd_T41 l0 a2).f0)).bind fun bt338 => ((align_Thin.f kj3 l0).bind fun bt340 => ((align_Thin.f kj3 bt340.1).bind fun bt344 => (if bt338.2 = 0 then (if bt340.2 = 0 then (if bt344.2 = 0 then (if bt338.1 = ((rd_T41 l0 a2).f1) then ((papermillref14_Same.f kj3 bt340.1 bt344.1).bind fun t349 => (if t349 = true then (papermilllaw14_AlignLine.j1 kj3 l0 a1 bt340.1 (decide ((bt340.1.length : Int) > (l0.length : Int)))) else (papermilllaw14_AlignLine.j1 kj3 l0 a1 bt340.1 true))) else (papermilllaw14_AlignLine.j1 kj3 l0 a1 bt340.1 true)) else (papermilllaw14_AlignLine.j1 kj3 l0 a1 bt340.1 true)) else (papermilllaw14_AlignLine.j1 kj3 l0 a1 bt340.1 true)) else (papermilllaw14_AlignLine.j1 kj3 l0 a1 bt340.1 true))))) else (none)) else (none)) = some r := by rw [if_neg (show ¬ (false = true) by decide)] at H; exact H
        clear H
        have H := H1
        clear H1
        by_cases c16 : 0 ≤ a2
        · rw [if_pos c16] at H
          have c16b0 : decide (0 ≤ a2) = true := decide_eq_true c16
          clear c16
          by_cases c17 : a2 < (l0.length : Int)
          · rw [if_pos c17] at H
            have c17b0 : decide (a2 < (l0.length : Int)) = true := decide_eq_true c17
            clear c17
            replace H := Option.bind_eq_some_iff.mp H
            obtain ⟨⟨t338, t339⟩, A180, H⟩ := H
            replace H : ((align_Thin.f kj3 l0).bind fun bt340 => ((align_Thin.f kj3 bt340.1).bind fun bt344 => (if t339 = 0 then (if bt340.2 = 0 then (if bt344.2 = 0 then (if t338 = ((rd_T41 l0 a2).f1) then ((papermillref14_Same.f kj3 bt340.1 bt344.1).bind fun t349 => (if t349 = true then (papermilllaw14_AlignLine.j1 kj3 l0 a1 bt340.1 (decide ((bt340.1.length : Int) > (l0.length : Int)))) else (papermilllaw14_AlignLine.j1 kj3 l0 a1 bt340.1 true))) else (papermilllaw14_AlignLine.j1 kj3 l0 a1 bt340.1 true)) else (papermilllaw14_AlignLine.j1 kj3 l0 a1 bt340.1 true)) else (papermilllaw14_AlignLine.j1 kj3 l0 a1 bt340.1 true)) else (papermilllaw14_AlignLine.j1 kj3 l0 a1 bt340.1 true)))) = some r := H
            have A18 := Aside0.mk A180
            clear A180
            replace H := Option.bind_eq_some_iff.mp H
            obtain ⟨⟨t340, t341⟩, A190, H⟩ := H
            replace H : ((align_Thin.f kj3 t340).bind fun bt344 => (if t339 = 0 then (if t341 = 0 then (if bt344.2 = 0 then (if t338 = ((rd_T41 l0 a2).f1) then ((papermillref14_Same.f kj3 t340 bt344.1).bind fun t349 => (if t349 = true then (papermilllaw14_AlignLine.j1 kj3 l0 a1 t340 (decide ((t340.length : Int) > (l0.length : Int)))) else (papermilllaw14_AlignLine.j1 kj3 l0 a1 t340 true))) else (papermilllaw14_AlignLine.j1 kj3 l0 a1 t340 true)) else (papermilllaw14_AlignLine.j1 kj3 l0 a1 t340 true)) else (papermilllaw14_AlignLine.j1 kj3 l0 a1 t340 true)) else (papermilllaw14_AlignLine.j1 kj3 l0 a1 t340 true))) = some r := H
            have A19 := Aside0.mk A190
            clear A190
            replace H := Option.bind_eq_some_iff.mp H
            obtain ⟨⟨t344, t345⟩, A200, H⟩ := H
            replace H : (if t339 = 0 then (if t341 = 0 then (if t345 = 0 then (if t338 = ((rd_T41 l0 a2).f1) then ((papermillref14_Same.f kj3 t340 t344).bind fun t349 => (if t349 = true then (papermilllaw14_AlignLine.j1 kj3 l0 a1 t340 (decide ((t340.length : Int) > (l0.length : Int)))) else (papermilllaw14_AlignLine.j1 kj3 l0 a1 t340 true))) else (papermilllaw14_AlignLine.j1 kj3 l0 a1 t340 true)) else (papermilllaw14_AlignLine.j1 kj3 l0 a1 t340 true)) else (papermilllaw14_AlignLine.j1 kj3 l0 a1 t340 true)) else (papermilllaw14_AlignLine.j1 kj3 l0 a1 t340 true)) = some r := H
            have A20 := Aside0.mk A200
            clear A200
            have HC21 := Aside0.mk H
            clear H
            have p337 : 0 ≤ (a2 : Int) := of_decide_eq_true (by first | (with_reducible assumption) | assumption)
            have q337 : a2 < (l0.length : Int) := of_decide_eq_true (by first | (with_reducible assumption) | assumption)
            obtain ⟨ad337, e337, hx337_0, hx337_1⟩ := at_T41 HR0.out a2 p337 q337
            cases e337
            replace hx337_0 := (HB.out.cell (World.block_lt_of_cell? w _ hx337_0)).trans hx337_0
            replace hx337_1 := (HB.out.cell (World.block_lt_of_cell? w _ hx337_1)).trans hx337_1
            replace p337 := eq_true p337
            replace q337 := eq_true q337
            go_upto_region 6 with (first | ((with_reducible refine gate_callee (f := 15) rfl ?_); refine goesL_ (some 43) rfl rfl Try.func15 (by kernel_rfl) rfl #[.slice (some ad337) l0.length c0, .int .i64 ((rd_T41 l0 a2).f0)] rfl (by (try simp only [List.map_toArray, List.map_cons, List.map_nil]); first | done | rfl | (simp only [List.length_drop, List.length_take]; rfl)) ?_; (with_reducible refine (align_Forward.calls kj3 _ _ l0 ((rd_T41 l0 a2).f0) t338 t339 _ ?side1 ?side2 A18.out).mono ?_); (case side1 => repeat (first | exact (Kd.C_below HR0.out HB.out) | (with_reducible refine Kd.C_alloc ?_ _) | (with_reducible refine Kd.C_drewN ?_ _) | (with_reducible refine Kd.C_drew ?_))); (case side2 => exact HC0.out); rintro e w22 ⟨rfl, hb⟩; refine ⟨_, rfl, ?_⟩; have n0_ := Aside0.mk (below_step (by repeat (first | (with_reducible first | exact HB.out | apply below_alloc | apply pw_below_drewN | apply below_drew1) | exact HB.out)) hb); clear HB; have HB := n0_; clear n0_; (try clear hb); (try clear hb2); (try clear hk); (try clear hi)) | ((with_reducible refine gate_callee (f := 21) rfl ?_); refine goesL_ (some 48) rfl rfl Try.func21 (by kernel_rfl) rfl #[.slice (some ad337) l0.length c0] rfl (by (try simp only [List.map_toArray, List.map_cons, List.map_nil]); first | done | rfl | (simp only [List.length_drop, List.length_take]; rfl)) ?_; (with_reducible refine (align_Thin.calls kj3 _ _ l0 t340 t341 _ ?side1 ?side2 A19.out).mono ?_); (case side1 => repeat (first | exact (Kd.C_below HR0.out HB.out) | (with_reducible refine Kd.C_alloc ?_ _) | (with_reducible refine Kd.C_drewN ?_ _) | (with_reducible refine Kd.C_drew ?_))); (case side2 => exact HC0.out); rintro e w23 ⟨v342, rfl, ho0, hb⟩; refine ⟨_, rfl, ?_⟩; have n0_ := Aside0.mk (Kd.R_lower ho0 (below_size (by repeat (first | (with_reducible first | exact HB.out | apply below_alloc | apply pw_below_drewN | apply below_drew1) | exact HB.out)))); have n1_ := Aside0.mk (below_step (by repeat (first | (with_reducible first | exact HB.out | apply below_alloc | apply pw_below_drewN | apply below_drew1) | exact HB.out)) hb); clear HB; have HO343 := n0_; have HB := n1_; clear n0_ n1_; (try clear hb); (try clear hb2); (try clear hk); (try clear hi); (try clear ho0); obtain ⟨Ao24, co24, eo24⟩ := Kd.R_slice HO343.out; subst eo24) | ((with_reducible refine gate_callee (f := 21) rfl ?_); refine goesL_ (some 53) rfl rfl Try.func21 (by kernel_rfl) rfl #[.slice Ao24 t340.length co24] rfl (by (try simp only [List.map_toArray, List.map_cons, List.map_nil]); first | done | rfl | (simp only [List.length_drop, List.length_take]; rfl)) ?_; (with_reducible refine (align_Thin.calls kj3 _ _ t340 t344 t345 _ ?side1 ?side2 A20.out).mono ?_); (case side1 => repeat (first | exact (Kd.R_reads' HO343.out).2.2 | (with_reducible refine Kd.C_alloc ?_ _) | (with_reducible refine Kd.C_drewN ?_ _) | (with_reducible refine Kd.C_drew ?_))); (case side2 => exact (Kd.R_reads' HO343.out).2.1); rintro e w25 ⟨v346, rfl, ho0, hb⟩; refine ⟨_, rfl, ?_⟩; have n0_ := Aside0.mk (Kd.R_elder' (by (with_reducible repeat (first | apply Kd.R_alloc | apply Kd.R_drewN | apply Kd.R_drew)); exact HO343.out) (Kd.R_base ho0) hb); have n1_ := Aside0.mk (Kd.R_lower (Kd.R_new' ho0 (Kd.R_lt (by (with_reducible repeat (first | apply Kd.R_alloc | apply Kd.R_drewN | apply Kd.R_drew)); exact HO343.out))) (below_size (by repeat (first | (with_reducible first | exact HB.out | apply below_alloc | apply pw_below_drewN | apply below_drew1) | exact HB.out)))); have n2_ := Aside0.mk (below_step (by repeat (first | (with_reducible first | exact HB.out | apply below_alloc | apply pw_below_drewN | apply below_drew1) | exact HB.out)) hb); clear HO343; clear HB; have HO343 := n0_; have HO347 := n1_; have HB := n2_; clear n0_ n1_ n2_; (try clear hb); (try clear hb2); (try clear hk); (try clear hi); (try clear ho0)))
            (try simp only [Act.put, List.setIfInBounds_toArray, List.set_cons_zero, List.set_cons_succ])
            go_cut [87] (fun v87 wc => ∃ (kq : Nat) (x87_20 : Bool), v87 = .bool x87_20 ∧ Aside0 (papermilllaw14_AlignLine.j1 kq l0 a1 t340 x87_20 = some r) ∧ Aside0 (kq ≤ kj3) ∧ Aside0 (Kd.R k41 41 wc w.heap.size (fun _ => True) (.slice Ao24 t340.length co24) t340) ∧ Aside0 (Below w.heap.size w wc))
            case first =>
              have H := HC21.out
              clear HC21
              by_cases c26 : t339 = 0
              · rw [if_pos c26] at H
                have c26b0 : (t339 == 0) = true := beq_iff_eq.mpr c26
                have c26b1 : (t339 != 0) = false := bne_eq_false_iff_eq.mpr c26
                clear c26
                (first | rw [c26b0] | (simp only [i64_w, i32_w]; rw [c26b0]) | skip)
                by_cases c27 : t341 = 0
                · rw [if_pos c27] at H
                  have c27b0 : (t341 == 0) = true := beq_iff_eq.mpr c27
                  have c27b1 : (t341 != 0) = false := bne_eq_false_iff_eq.mpr c27
                  clear c27
                  by_cases c28 : t345 = 0
                  · rw [if_pos c28] at H
                    have c28b0 : (t345 == 0) = true := beq_iff_eq.mpr c28
                    have c28b1 : (t345 != 0) = false := bne_eq_false_iff_eq.mpr c28
                    clear c28
                    by_cases c29 : t338 = ((rd_T41 l0 a2).f1)
                    · rw [if_pos c29] at H
                      have c29b0 : (t338 == ((rd_T41 l0 a2).f1)) = true := beq_iff_eq.mpr c29
                      have c29b1 : (t338 != ((rd_T41 l0 a2).f1)) = false := bne_eq_false_iff_eq.mpr c29
                      clear c29
                      replace H := Option.bind_eq_some_iff.mp H
                      obtain ⟨t349, A300, H⟩ := H
                      replace H : (if t349 = true then (papermilllaw14_AlignLine.j1 kj3 l0 a1 t340 (decide ((t340.length : Int) > (l0.length : Int)))) else (papermilllaw14_AlignLine.j1 kj3 l0 a1 t340 true)) = some r := H
                      have A30 := Aside0.mk A300
                      clear A300
                      by_cases c31 : t349 = true
                      · subst c31
                        have H1 : (papermilllaw14_AlignLine.j1 kj3 l0 a1 t340 (decide ((t340.length : Int) > (l0.length : Int)))) = some r := by rw [if_pos rfl] at H; exact H
                        clear H
                        have H := H1
                        clear H1
                        have H' := Aside0.mk H
                        clear H
                        have p348 : 0 ≤ (a2 : Int) := of_decide_eq_true (by first | (with_reducible assumption) | assumption)
                        have q348 : a2 < (l0.length : Int) := of_decide_eq_true (by first | (with_reducible assumption) | assumption)
                        obtain ⟨ad348, e348, hx348_0, hx348_1⟩ := at_T41 HR0.out a2 p348 q348
                        obtain rfl : ad337 = ad348 := (by injection e348)
                        replace hx348_0 := (HB.out.cell (World.block_lt_of_cell? w _ hx348_0)).trans hx348_0
                        replace hx348_1 := (HB.out.cell (World.block_lt_of_cell? w _ hx348_1)).trans hx348_1
                        replace p348 := eq_true p348
                        replace q348 := eq_true q348
                        obtain ⟨Ao32, co32, eo32⟩ := Kd.R_slice HO347.out
                        subst eo32
                        go_wp2_with (first | (go_at_call 25; (with_reducible refine (papermillref14_Same.calls kj3 _ _ t340 _ _ t344 true _ ?side1 ?side2 ?side3 ?side4 A30.out).mono ?_); (case side1 => repeat (first | exact (Kd.R_reads' HO343.out).2.2 | (with_reducible refine Kd.C_alloc ?_ _) | (with_reducible refine Kd.C_drewN ?_ _) | (with_reducible refine Kd.C_drew ?_))); (case side2 => exact (Kd.R_reads' HO343.out).2.1); (case side3 => repeat (first | exact (Kd.R_reads' HO347.out).2.2 | (with_reducible refine Kd.C_alloc ?_ _) | (with_reducible refine Kd.C_drewN ?_ _) | (with_reducible refine Kd.C_drew ?_))); (case side4 => exact (Kd.R_reads' HO347.out).2.1); rintro e w' ⟨rfl, ⟨nd, rfl⟩⟩))
                        go_meet
                        case rel => exact ⟨_, (decide ((t340.length : Int) > (l0.length : Int))), (by first | rfl | (simp; done) | (simp [*]; done)), H', ⟨by have := HJ3.out; first | omega | exact Nat.le_refl _⟩, ⟨by (with_reducible repeat (first | apply Kd.R_alloc | apply Kd.R_drewN | apply Kd.R_drew)); exact Kd.R_mono HO343.out (fun _ hk => trivial)⟩, ⟨by repeat (first | (with_reducible first | exact HB.out | apply below_alloc | apply pw_below_drewN | apply below_drew1) | exact HB.out)⟩⟩
                      · replace c31 := Bool.eq_false_iff.mpr c31
                        subst c31
                        have H1 : (papermilllaw14_AlignLine.j1 kj3 l0 a1 t340 true) = some r := by rw [if_neg (show ¬ (false = true) by decide)] at H; exact H
                        clear H
                        have H := H1
                        clear H1
                        have H' := Aside0.mk H
                        clear H
                        have p348 : 0 ≤ (a2 : Int) := of_decide_eq_true (by first | (with_reducible assumption) | assumption)
                        have q348 : a2 < (l0.length : Int) := of_decide_eq_true (by first | (with_reducible assumption) | assumption)
                        obtain ⟨ad348, e348, hx348_0, hx348_1⟩ := at_T41 HR0.out a2 p348 q348
                        obtain rfl : ad337 = ad348 := (by injection e348)
                        replace hx348_0 := (HB.out.cell (World.block_lt_of_cell? w _ hx348_0)).trans hx348_0
                        replace hx348_1 := (HB.out.cell (World.block_lt_of_cell? w _ hx348_1)).trans hx348_1
                        replace p348 := eq_true p348
                        replace q348 := eq_true q348
                        obtain ⟨Ao33, co33, eo33⟩ := Kd.R_slice HO347.out
                        subst eo33
                        go_wp2_with (first | (go_at_call 25; (with_reducible refine (papermillref14_Same.calls kj3 _ _ t340 _ _ t344 false _ ?side1 ?side2 ?side3 ?side4 A30.out).mono ?_); (case side1 => repeat (first | exact (Kd.R_reads' HO343.out).2.2 | (with_reducible refine Kd.C_alloc ?_ _) | (with_reducible refine Kd.C_drewN ?_ _) | (with_reducible refine Kd.C_drew ?_))); (case side2 => exact (Kd.R_reads' HO343.out).2.1); (case side3 => repeat (first | exact (Kd.R_reads' HO347.out).2.2 | (with_reducible refine Kd.C_alloc ?_ _) | (with_reducible refine Kd.C_drewN ?_ _) | (with_reducible refine Kd.C_drew ?_))); (case side4 => exact (Kd.R_reads' HO347.out).2.1); rintro e w' ⟨rfl, ⟨nd, rfl⟩⟩))
                        go_meet
                        case rel => exact ⟨_, (true), (by first | rfl | (simp; done) | (simp [*]; done)), H', ⟨by have := HJ3.out; first | omega | exact Nat.le_refl _⟩, ⟨by (with_reducible repeat (first | apply Kd.R_alloc | apply Kd.R_drewN | apply Kd.R_drew)); exact Kd.R_mono HO343.out (fun _ hk => trivial)⟩, ⟨by repeat (first | (with_reducible first | exact HB.out | apply below_alloc | apply pw_below_drewN | apply below_drew1) | exact HB.out)⟩⟩
                    · rw [if_neg c29] at H
                      have c29b0 : (t338 == ((rd_T41 l0 a2).f1)) = false := beq_eq_false_iff_ne.mpr c29
                      have c29b1 : (t338 != ((rd_T41 l0 a2).f1)) = true := bne_iff_ne.mpr c29
                      have H' := Aside0.mk H
                      clear H
                      have p348 : 0 ≤ (a2 : Int) := of_decide_eq_true (by first | (with_reducible assumption) | assumption)
                      have q348 : a2 < (l0.length : Int) := of_decide_eq_true (by first | (with_reducible assumption) | assumption)
                      obtain ⟨ad348, e348, hx348_0, hx348_1⟩ := at_T41 HR0.out a2 p348 q348
                      obtain rfl : ad337 = ad348 := (by injection e348)
                      replace hx348_0 := (HB.out.cell (World.block_lt_of_cell? w _ hx348_0)).trans hx348_0
                      replace hx348_1 := (HB.out.cell (World.block_lt_of_cell? w _ hx348_1)).trans hx348_1
                      replace p348 := eq_true p348
                      replace q348 := eq_true q348
                      go_wp2
                      go_meet
                      case rel => exact ⟨_, (true), (by first | rfl | (simp; done) | (simp [*]; done)), H', ⟨by have := HJ3.out; first | omega | exact Nat.le_refl _⟩, ⟨by (with_reducible repeat (first | apply Kd.R_alloc | apply Kd.R_drewN | apply Kd.R_drew)); exact Kd.R_mono HO343.out (fun _ hk => trivial)⟩, ⟨by repeat (first | (with_reducible first | exact HB.out | apply below_alloc | apply pw_below_drewN | apply below_drew1) | exact HB.out)⟩⟩
                  · rw [if_neg c28] at H
                    have c28b0 : (t345 == 0) = false := beq_eq_false_iff_ne.mpr c28
                    have c28b1 : (t345 != 0) = true := bne_iff_ne.mpr c28
                    have H' := Aside0.mk H
                    clear H
                    go_wp2
                    go_meet
                    case rel => exact ⟨_, (true), (by first | rfl | (simp; done) | (simp [*]; done)), H', ⟨by have := HJ3.out; first | omega | exact Nat.le_refl _⟩, ⟨by (with_reducible repeat (first | apply Kd.R_alloc | apply Kd.R_drewN | apply Kd.R_drew)); exact Kd.R_mono HO343.out (fun _ hk => trivial)⟩, ⟨by repeat (first | (with_reducible first | exact HB.out | apply below_alloc | apply pw_below_drewN | apply below_drew1) | exact HB.out)⟩⟩
                · rw [if_neg c27] at H
                  have c27b0 : (t341 == 0) = false := beq_eq_false_iff_ne.mpr c27
                  have c27b1 : (t341 != 0) = true := bne_iff_ne.mpr c27
                  have H' := Aside0.mk H
                  clear H
                  go_wp2
                  go_meet
                  case rel => exact ⟨_, (true), (by first | rfl | (simp; done) | (simp [*]; done)), H', ⟨by have := HJ3.out; first | omega | exact Nat.le_refl _⟩, ⟨by (with_reducible repeat (first | apply Kd.R_alloc | apply Kd.R_drewN | apply Kd.R_drew)); exact Kd.R_mono HO343.out (fun _ hk => trivial)⟩, ⟨by repeat (first | (with_reducible first | exact HB.out | apply below_alloc | apply pw_below_drewN | apply below_drew1) | exact HB.out)⟩⟩
              · rw [if_neg c26] at H
                have c26b0 : (t339 == 0) = false := beq_eq_false_iff_ne.mpr c26
                have c26b1 : (t339 != 0) = true := bne_iff_ne.mpr c26
                (first | rw [c26b0] | (simp only [i64_w, i32_w]; rw [c26b0]) | skip)
                have H' := Aside0.mk H
                clear H
                go_wp2
                go_meet
                case rel => exact ⟨_, (true), (by first | rfl | (simp; done) | (simp [*]; done)), H', ⟨by have := HJ3.out; first | omega | exact Nat.le_refl _⟩, ⟨by (with_reducible repeat (first | apply Kd.R_alloc | apply Kd.R_drewN | apply Kd.R_drew)); exact Kd.R_mono HO343.out (fun _ hk => trivial)⟩, ⟨by repeat (first | (with_reducible first | exact HB.out | apply below_alloc | apply pw_below_drewN | apply below_drew1) | exact HB.out)⟩⟩
            case rest =>
              clear HC21
              try clear c1
              try clear c2
              try clear p2
              try clear c3
              try clear p3
              try clear q3
              try clear hx3
              try clear c6
              try clear c8
              try clear c8b0
              try clear c8b1
              try clear c9
              try clear c9b0
              try clear c11
              try clear c12
              try clear c13
              try clear c15
              try clear c16
              try clear c16b0
              try clear c17
              try clear c17b0
              try clear c21
              try clear c26
              try clear c26b0
              try clear c26b1
              try clear c27
              try clear c27b0
              try clear c27b1
              try clear c28
              try clear c28b0
              try clear c28b1
              try clear c29
              try clear c29b0
              try clear c29b1
              try clear c31
              try clear p33
              try clear q33
              try clear hx33
              try clear hx337_0
              try clear hx337_1
              try clear hx348_0
              try clear hx348_1
              try clear p2
              try clear p337
              try clear p348
              try clear q337
              try clear q348
              obtain ⟨kq, x87_20, rfl, HA, HJ20, HO_9, HB⟩ := hcut
              cases kq with
              | zero => exact absurd HA.out (by simp [papermilllaw14_AlignLine.j1])
              | succ kj20 =>
                have H := HA.out
                clear HA
                simp only [papermilllaw14_AlignLine.j1] at H
                by_cases c34 : x87_20 = true
                · subst c34
                  have H1 : (some false) = some r := by rw [if_pos rfl] at H; exact H
                  clear H
                  have H := H1
                  clear H1
                  exact absurd ((Option.some.inj H).trans hr_.out) (by decide)
                · replace c34 := Bool.eq_false_iff.mpr c34
                  subst c34
                  have H1 : ((align_Forward.f kj20 l0 a1).bind fun bt350 => ((align_Forward.f kj20 t340 a1).bind fun bt352 => (if bt350.1 = bt352.1 then (if bt350.2 = bt352.2 then ((papermilllaw14_awake.f kj20).bind fun t354 => (some t354)) else (some false)) else (some false)))) = some r := by rw [if_neg (show ¬ (false = true) by decide)] at H; exact H
                  clear H
                  have H := H1
                  clear H1
                  replace H := Option.bind_eq_some_iff.mp H
                  obtain ⟨⟨t350, t351⟩, A350, H⟩ := H
                  replace H : ((align_Forward.f kj20 t340 a1).bind fun bt352 => (if t350 = bt352.1 then (if t351 = bt352.2 then ((papermilllaw14_awake.f kj20).bind fun t354 => (some t354)) else (some false)) else (some false))) = some r := H
                  have A35 := Aside0.mk A350
                  clear A350
                  replace H := Option.bind_eq_some_iff.mp H
                  obtain ⟨⟨t352, t353⟩, A360, H⟩ := H
                  replace H : (if t350 = t352 then (if t351 = t353 then ((papermilllaw14_awake.f kj20).bind fun t354 => (some t354)) else (some false)) else (some false)) = some r := H
                  have A36 := Aside0.mk A360
                  clear A360
                  by_cases c37 : t350 = t352
                  · rw [if_pos c37] at H
                    have c37b0 : (t350 == t352) = true := beq_iff_eq.mpr c37
                    have c37b1 : (t350 != t352) = false := bne_eq_false_iff_eq.mpr c37
                    clear c37
                    by_cases c38 : t351 = t353
                    · rw [if_pos c38] at H
                      have c38b0 : (t351 == t353) = true := beq_iff_eq.mpr c38
                      have c38b1 : (t351 != t353) = false := bne_eq_false_iff_eq.mpr c38
                      clear c38
                      replace H := Option.bind_eq_some_iff.mp H
                      obtain ⟨t354, A390, H⟩ := H
                      replace H : (some t354) = some r := H
                      have A39 := Aside0.mk A390
                      clear A390
                      first
                        | exact absurd ((Option.some.inj H).trans hr_.out) (by decide)
                        | (skip
                           obtain rfl := Option.some.inj H
                           go_wp2_with (first | ((with_reducible refine gate_callee (f := 15) rfl ?_); refine goesL_ (some 91) rfl rfl Try.func15 (by kernel_rfl) rfl #[.slice (some ad337) l0.length c0, .int .i64 a1] rfl (by (try simp only [List.map_toArray, List.map_cons, List.map_nil]); first | done | rfl | (simp only [List.length_drop, List.length_take]; rfl)) ?_; (with_reducible refine (align_Forward.calls kj20 _ _ l0 a1 t350 t351 _ ?side1 ?side2 A35.out).mono ?_); (case side1 => repeat (first | exact (Kd.C_below HR0.out HB.out) | (with_reducible refine Kd.C_alloc ?_ _) | (with_reducible refine Kd.C_drewN ?_ _) | (with_reducible refine Kd.C_drew ?_))); (case side2 => exact HC0.out); rintro e w40 ⟨rfl, hb⟩; refine ⟨_, rfl, ?_⟩; have n0_ := Aside0.mk (Kd.R_below (by (with_reducible repeat (first | apply Kd.R_alloc | apply Kd.R_drewN | apply Kd.R_drew)); exact HO_9.out) hb); have n1_ := Aside0.mk (below_step (by repeat (first | (with_reducible first | exact HB.out | apply below_alloc | apply pw_below_drewN | apply below_drew1) | exact HB.out)) hb); clear HO_9; clear HB; have HO_9 := n0_; have HB := n1_; clear n0_ n1_; (try clear hb); (try clear hb2); (try clear hk); (try clear hi)) | ((with_reducible refine gate_callee (f := 15) rfl ?_); refine goesL_ (some 97) rfl rfl Try.func15 (by kernel_rfl) rfl #[.slice Ao24 t340.length co24, .int .i64 a1] rfl (by (try simp only [List.map_toArray, List.map_cons, List.map_nil]); first | done | rfl | (simp only [List.length_drop, List.length_take]; rfl)) ?_; (with_reducible refine (align_Forward.calls kj20 _ _ t340 a1 t352 t353 _ ?side1 ?side2 A36.out).mono ?_); (case side1 => repeat (first | exact (Kd.R_reads' HO_9.out).2.2 | (with_reducible refine Kd.C_alloc ?_ _) | (with_reducible refine Kd.C_drewN ?_ _) | (with_reducible refine Kd.C_drew ?_))); (case side2 => exact (Kd.R_reads' HO_9.out).2.1); rintro e w41 ⟨rfl, hb⟩; refine ⟨_, rfl, ?_⟩; have n0_ := Aside0.mk (Kd.R_below (by (with_reducible repeat (first | apply Kd.R_alloc | apply Kd.R_drewN | apply Kd.R_drew)); exact HO_9.out) hb); have n1_ := Aside0.mk (below_step (by repeat (first | (with_reducible first | exact HB.out | apply below_alloc | apply pw_below_drewN | apply below_drew1) | exact HB.out)) hb); clear HO_9; clear HB; have HO_9 := n0_; have HB := n1_; clear n0_ n1_; (try clear hb); (try clear hb2); (try clear hk); (try clear hi)) | (go_at_call 12; (with_reducible refine (papermilllaw14_awake.calls kj20  t354 _ A39.out).mono ?_); rintro e w42 ⟨rfl, hb⟩; have n0_ := Aside0.mk (Kd.R_below (by (with_reducible repeat (first | apply Kd.R_alloc | apply Kd.R_drewN | apply Kd.R_drew)); exact HO_9.out) hb); have n1_ := Aside0.mk (below_step (by repeat (first | (with_reducible first | exact HB.out | apply below_alloc | apply pw_below_drewN | apply below_drew1) | exact HB.out)) hb); clear HO_9; clear HB; have HO_9 := n0_; have HB := n1_; clear n0_ n1_; (try clear hb); (try clear hb2); (try clear hk); (try clear hi)))
                           go_ret
                           exact ⟨by first | rfl | (simp [errW_none, errW_some] <;> rfl) | (simp [*, errW_none, errW_some] <;> rfl), by repeat (first | (with_reducible first | exact HB.out | apply below_alloc | apply pw_below_drewN | apply below_drew1) | exact HB.out)⟩)
                    · rw [if_neg c38] at H
                      have c38b0 : (t351 == t353) = false := beq_eq_false_iff_ne.mpr c38
                      have c38b1 : (t351 != t353) = true := bne_iff_ne.mpr c38
                      exact absurd ((Option.some.inj H).trans hr_.out) (by decide)
                  · rw [if_neg c37] at H
                    have c37b0 : (t350 == t352) = false := beq_eq_false_iff_ne.mpr c37
                    have c37b1 : (t350 != t352) = true := bne_iff_ne.mpr c37
                    exact absurd ((Option.some.inj H).trans hr_.out) (by decide)
          · rw [if_neg c17] at H
            exact absurd H (by simp)
        · rw [if_neg c16] at H
          exact absurd H (by simp)

end Go.Proofs.Ythdjlejljipjmaa.P
