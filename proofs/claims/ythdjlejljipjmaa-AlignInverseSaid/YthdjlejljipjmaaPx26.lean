-- Written by a program (wip/prog/pp.py) over the kit's print; some of its functions are proved by hand. Not trusted: Lean checks it.
import Derived.Test.YthdjlejljipjmaaPx0
import Derived.Test.YthdjlejljipjmaaPx3
import Derived.Test.YthdjlejljipjmaaPx4
import Derived.Test.YthdjlejljipjmaaPx7
import Derived.Test.YthdjlejljipjmaaPx13
import Derived.Test.YthdjlejljipjmaaHandBack
namespace Go.Proofs.Ythdjlejljipjmaa.P
open Go.RowKit Go.Proofs.YthdjlejljipjmaaW.PrintWords Go.Proofs.YthdjlejljipjmaaW.PrintLast Go.Proofs.YthdjlejljipjmaaW.PrintMore
attribute [local go_sem] max2_int min2_int max_two min_two max_three min_three max_four min_four   -- for this text's walks alone
set_option linter.unusedVariables false
set_option linter.unusedSimpArgs false

/-! ### papermilllaw14_AlignInverse: function 8 -/
mutual
def papermilllaw14_AlignInverse.j0 : Nat → List (S41) → Int → Int → Bool → Option (Bool)
  | 0, _, _, _, _ => none
  | k + 1, x0, x1, x2, x29 => if x29 = true then ((papermilllaw14_awake.f k).bind fun t314 => (some t314)) else ((align_Back.f x0 x2).bind fun bt315 => (if 0 < (x0.length : Int) then (if x2 ≥ ((rd_T41 x0 0).f1) then (if 0 ≤ (wrap64 ((x0.length : Int) - 1)) then (if (wrap64 ((x0.length : Int) - 1)) < (x0.length : Int) then (papermilllaw14_AlignInverse.j1 k x0 x1 x2 bt315.1 bt315.2 ((bt315.2 == 0) != (decide (x2 ≤ ((rd_T41 x0 (wrap64 ((x0.length : Int) - 1))).f1))))) else (none)) else (none)) else (papermilllaw14_AlignInverse.j1 k x0 x1 x2 bt315.1 bt315.2 ((bt315.2 == 0) != false))) else (none)))
def papermilllaw14_AlignInverse.j1 : Nat → List (S41) → Int → Int → Int → Int → Bool → Option (Bool)
  | 0, _, _, _, _, _, _ => none
  | k + 1, x0, x1, x2, x7, x8, x56 => if x56 = true then (some false) else (if x8 = 0 then ((align_Forward.f k x0 x7).bind fun bt319 => (if bt319.2 = 0 then (if bt319.1 < x2 then (papermilllaw14_AlignInverse.j2 k x0 x1 x2 x7 true) else (if 0 < (x0.length : Int) then (if x7 < ((rd_T41 x0 0).f0) then (papermilllaw14_AlignInverse.j2 k x0 x1 x2 x7 true) else (if 0 ≤ (wrap64 ((x0.length : Int) - 1)) then (if (wrap64 ((x0.length : Int) - 1)) < (x0.length : Int) then (papermilllaw14_AlignInverse.j2 k x0 x1 x2 x7 (decide (x7 > ((rd_T41 x0 (wrap64 ((x0.length : Int) - 1))).f0)))) else (none)) else (none))) else (none))) else (papermilllaw14_AlignInverse.j2 k x0 x1 x2 x7 true))) else (papermilllaw14_AlignInverse.j3 k x0 x1))
def papermilllaw14_AlignInverse.j3 : Nat → List (S41) → Int → Option (Bool)
  | 0, _, _ => none
  | k + 1, x0, x1 => if 0 < (x0.length : Int) then (if x1 ≤ ((rd_T41 x0 0).f0) then (papermilllaw14_AlignInverse.j4 k x0 x1 true) else (if 0 ≤ (wrap64 ((x0.length : Int) - 1)) then (if (wrap64 ((x0.length : Int) - 1)) < (x0.length : Int) then (papermilllaw14_AlignInverse.j4 k x0 x1 (decide (x1 > ((rd_T41 x0 (wrap64 ((x0.length : Int) - 1))).f0)))) else (none)) else (none))) else (none)
def papermilllaw14_AlignInverse.j4 : Nat → List (S41) → Int → Bool → Option (Bool)
  | 0, _, _, _ => none
  | k + 1, x0, x1, x127 => if x127 = true then ((papermilllaw14_awake.f k).bind fun t328 => (some t328)) else ((align_Forward.f k x0 x1).bind fun bt329 => ((align_Forward.f k x0 (wrap64 (x1 - 1))).bind fun bt331 => (if bt329.2 = 0 then (if bt331.2 = 0 then (if bt331.1 ≤ bt329.1 then ((papermilllaw14_awake.f k).bind fun t333 => (some t333)) else (some false)) else (some false)) else (some false))))
def papermilllaw14_AlignInverse.j2 : Nat → List (S41) → Int → Int → Int → Bool → Option (Bool)
  | 0, _, _, _, _, _ => none
  | k + 1, x0, x1, x2, x7, x90 => if x90 = true then (some false) else (if 0 < (x0.length : Int) then (if x7 > ((rd_T41 x0 0).f0) then ((align_Forward.f k x0 (wrap64 (x7 - 1))).bind fun bt324 => (if bt324.2 = 0 then (if bt324.1 ≥ x2 then (some false) else (papermilllaw14_AlignInverse.j3 k x0 x1)) else (some false))) else (papermilllaw14_AlignInverse.j3 k x0 x1)) else (none))
end
def papermilllaw14_AlignInverse.f (k : Nat) (l0 : List (S41)) (a1 : Int) (a2 : Int) : Option (Bool) := (papermilllaw14_few.f l0).bind fun t312 => (if t312 = true then ((align_Check.f k l0).bind fun t313 => (if t313 = 0 then (papermilllaw14_AlignInverse.j0 k l0 a1 a2 ((l0.length : Int) == 0)) else (papermilllaw14_AlignInverse.j0 k l0 a1 a2 true))) else (papermilllaw14_AlignInverse.j0 k l0 a1 a2 true))
theorem papermilllaw14_AlignInverse.mono_l : ∀ k, (∀ y0 y1 y2 y3, LeO (papermilllaw14_AlignInverse.j0 k y0 y1 y2 y3) (papermilllaw14_AlignInverse.j0 (k + 1) y0 y1 y2 y3)) ∧ (∀ y0 y1 y2 y3 y4 y5, LeO (papermilllaw14_AlignInverse.j1 k y0 y1 y2 y3 y4 y5) (papermilllaw14_AlignInverse.j1 (k + 1) y0 y1 y2 y3 y4 y5)) ∧ (∀ y0 y1, LeO (papermilllaw14_AlignInverse.j3 k y0 y1) (papermilllaw14_AlignInverse.j3 (k + 1) y0 y1)) ∧ (∀ y0 y1 y2, LeO (papermilllaw14_AlignInverse.j4 k y0 y1 y2) (papermilllaw14_AlignInverse.j4 (k + 1) y0 y1 y2)) ∧ (∀ y0 y1 y2 y3 y4, LeO (papermilllaw14_AlignInverse.j2 k y0 y1 y2 y3 y4) (papermilllaw14_AlignInverse.j2 (k + 1) y0 y1 y2 y3 y4))
  | 0 => ⟨fun _ _ _ _ r h => by simp [papermilllaw14_AlignInverse.j0] at h, fun _ _ _ _ _ _ r h => by simp [papermilllaw14_AlignInverse.j1] at h, fun _ _ r h => by simp [papermilllaw14_AlignInverse.j3] at h, fun _ _ _ r h => by simp [papermilllaw14_AlignInverse.j4] at h, fun _ _ _ _ _ r h => by simp [papermilllaw14_AlignInverse.j2] at h⟩
  | k + 1 => by
    obtain ⟨ih0, ih1, ih2, ih3, ih4⟩ := papermilllaw14_AlignInverse.mono_l k
    refine ⟨?_, ?_, ?_, ?_, ?_⟩
    · intro y0 y1 y2 y3
      unfold papermilllaw14_AlignInverse.j0
      repeat' first
      | (with_reducible exact ih0 _ _ _ _)
      | (with_reducible exact ih1 _ _ _ _ _ _)
      | (with_reducible exact ih2 _ _)
      | (with_reducible exact ih3 _ _ _)
      | (with_reducible exact ih4 _ _ _ _ _)
      | (with_reducible exact align_Check.mono _ _)
      | (with_reducible exact align_Forward.mono _ _ _)
      | (with_reducible exact papermilllaw14_awake.mono _)
      | (with_reducible exact LeO.refl _)
      | (with_reducible exact LeO.none _)
      | (with_reducible refine LeO.ite ?_ ?_)
      | (with_reducible refine LeO.bind ?_ (fun _ => ?_))
      | exact ih0 _ _ _ _
      | exact ih1 _ _ _ _ _ _
      | exact ih2 _ _
      | exact ih3 _ _ _
      | exact ih4 _ _ _ _ _
      | exact align_Check.mono _ _
      | exact align_Forward.mono _ _ _
      | exact papermilllaw14_awake.mono _
      | exact LeO.none _
      | refine LeO.ite ?_ ?_
      | refine LeO.bind ?_ (fun _ => ?_)
    · intro y0 y1 y2 y3 y4 y5
      unfold papermilllaw14_AlignInverse.j1
      repeat' first
      | (with_reducible exact ih0 _ _ _ _)
      | (with_reducible exact ih1 _ _ _ _ _ _)
      | (with_reducible exact ih2 _ _)
      | (with_reducible exact ih3 _ _ _)
      | (with_reducible exact ih4 _ _ _ _ _)
      | (with_reducible exact align_Check.mono _ _)
      | (with_reducible exact align_Forward.mono _ _ _)
      | (with_reducible exact papermilllaw14_awake.mono _)
      | (with_reducible exact LeO.refl _)
      | (with_reducible exact LeO.none _)
      | (with_reducible refine LeO.ite ?_ ?_)
      | (with_reducible refine LeO.bind ?_ (fun _ => ?_))
      | exact ih0 _ _ _ _
      | exact ih1 _ _ _ _ _ _
      | exact ih2 _ _
      | exact ih3 _ _ _
      | exact ih4 _ _ _ _ _
      | exact align_Check.mono _ _
      | exact align_Forward.mono _ _ _
      | exact papermilllaw14_awake.mono _
      | exact LeO.none _
      | refine LeO.ite ?_ ?_
      | refine LeO.bind ?_ (fun _ => ?_)
    · intro y0 y1
      unfold papermilllaw14_AlignInverse.j3
      repeat' first
      | (with_reducible exact ih0 _ _ _ _)
      | (with_reducible exact ih1 _ _ _ _ _ _)
      | (with_reducible exact ih2 _ _)
      | (with_reducible exact ih3 _ _ _)
      | (with_reducible exact ih4 _ _ _ _ _)
      | (with_reducible exact align_Check.mono _ _)
      | (with_reducible exact align_Forward.mono _ _ _)
      | (with_reducible exact papermilllaw14_awake.mono _)
      | (with_reducible exact LeO.refl _)
      | (with_reducible exact LeO.none _)
      | (with_reducible refine LeO.ite ?_ ?_)
      | (with_reducible refine LeO.bind ?_ (fun _ => ?_))
      | exact ih0 _ _ _ _
      | exact ih1 _ _ _ _ _ _
      | exact ih2 _ _
      | exact ih3 _ _ _
      | exact ih4 _ _ _ _ _
      | exact align_Check.mono _ _
      | exact align_Forward.mono _ _ _
      | exact papermilllaw14_awake.mono _
      | exact LeO.none _
      | refine LeO.ite ?_ ?_
      | refine LeO.bind ?_ (fun _ => ?_)
    · intro y0 y1 y2
      unfold papermilllaw14_AlignInverse.j4
      repeat' first
      | (with_reducible exact ih0 _ _ _ _)
      | (with_reducible exact ih1 _ _ _ _ _ _)
      | (with_reducible exact ih2 _ _)
      | (with_reducible exact ih3 _ _ _)
      | (with_reducible exact ih4 _ _ _ _ _)
      | (with_reducible exact align_Check.mono _ _)
      | (with_reducible exact align_Forward.mono _ _ _)
      | (with_reducible exact papermilllaw14_awake.mono _)
      | (with_reducible exact LeO.refl _)
      | (with_reducible exact LeO.none _)
      | (with_reducible refine LeO.ite ?_ ?_)
      | (with_reducible refine LeO.bind ?_ (fun _ => ?_))
      | exact ih0 _ _ _ _
      | exact ih1 _ _ _ _ _ _
      | exact ih2 _ _
      | exact ih3 _ _ _
      | exact ih4 _ _ _ _ _
      | exact align_Check.mono _ _
      | exact align_Forward.mono _ _ _
      | exact papermilllaw14_awake.mono _
      | exact LeO.none _
      | refine LeO.ite ?_ ?_
      | refine LeO.bind ?_ (fun _ => ?_)
    · intro y0 y1 y2 y3 y4
      unfold papermilllaw14_AlignInverse.j2
      repeat' first
      | (with_reducible exact ih0 _ _ _ _)
      | (with_reducible exact ih1 _ _ _ _ _ _)
      | (with_reducible exact ih2 _ _)
      | (with_reducible exact ih3 _ _ _)
      | (with_reducible exact ih4 _ _ _ _ _)
      | (with_reducible exact align_Check.mono _ _)
      | (with_reducible exact align_Forward.mono _ _ _)
      | (with_reducible exact papermilllaw14_awake.mono _)
      | (with_reducible exact LeO.refl _)
      | (with_reducible exact LeO.none _)
      | (with_reducible refine LeO.ite ?_ ?_)
      | (with_reducible refine LeO.bind ?_ (fun _ => ?_))
      | exact ih0 _ _ _ _
      | exact ih1 _ _ _ _ _ _
      | exact ih2 _ _
      | exact ih3 _ _ _
      | exact ih4 _ _ _ _ _
      | exact align_Check.mono _ _
      | exact align_Forward.mono _ _ _
      | exact papermilllaw14_awake.mono _
      | exact LeO.none _
      | refine LeO.ite ?_ ?_
      | refine LeO.bind ?_ (fun _ => ?_)
theorem papermilllaw14_AlignInverse.mono : ∀ a0 a1 a2 k, LeO (papermilllaw14_AlignInverse.f k a0 a1 a2) (papermilllaw14_AlignInverse.f (k + 1) a0 a1 a2) := by
  intro a0 a1 a2 k
  obtain ⟨ih0, ih1, ih2, ih3, ih4⟩ := papermilllaw14_AlignInverse.mono_l k
  unfold papermilllaw14_AlignInverse.f
  repeat' first
      | (with_reducible exact ih0 _ _ _ _)
      | (with_reducible exact ih1 _ _ _ _ _ _)
      | (with_reducible exact ih2 _ _)
      | (with_reducible exact ih3 _ _ _)
      | (with_reducible exact ih4 _ _ _ _ _)
      | (with_reducible exact align_Check.mono _ _)
      | (with_reducible exact align_Forward.mono _ _ _)
      | (with_reducible exact papermilllaw14_awake.mono _)
      | (with_reducible exact LeO.refl _)
      | (with_reducible exact LeO.none _)
      | (with_reducible refine LeO.ite ?_ ?_)
      | (with_reducible refine LeO.bind ?_ (fun _ => ?_))
      | exact ih0 _ _ _ _
      | exact ih1 _ _ _ _ _ _
      | exact ih2 _ _
      | exact ih3 _ _ _
      | exact ih4 _ _ _ _ _
      | exact align_Check.mono _ _
      | exact align_Forward.mono _ _ _
      | exact papermilllaw14_awake.mono _
      | exact LeO.none _
      | refine LeO.ite ?_ ?_
      | refine LeO.bind ?_ (fun _ => ?_)
set_option maxHeartbeats 8000000 in
set_option maxRecDepth 100000 in
theorem papermilllaw14_AlignInverse.calls (k : Nat) (A0 : Option Addr) (c0 : Nat) (l0 : List (S41)) (a1 : Int) (a2 : Int) (r : Bool) (w : World) (hr0 : Kd.C k41 w A0 l0.length l0) (hc0 : l0.length ≤ c0) (hr_ : Aside0 (r = true)) (h : papermilllaw14_AlignInverse.f k l0 a1 a2 = some r) :
    Calls Try.prog 8 #[.slice A0 l0.length c0, .int .i64 a1, .int .i64 a2] w fun e w' => e = .returned (.bool r) ∧ Below w.heap.size w w' := by
  have HR0 := Aside0.mk hr0
  have HC0 := Aside0.mk hc0
  clear hr0 hc0
  have HB := Aside0.mk (Below.refl w.heap.size w)
  have H : ((papermilllaw14_few.f l0).bind fun t312 => (if t312 = true then ((align_Check.f k l0).bind fun t313 => (if t313 = 0 then (papermilllaw14_AlignInverse.j0 k l0 a1 a2 ((l0.length : Int) == 0)) else (papermilllaw14_AlignInverse.j0 k l0 a1 a2 true))) else (papermilllaw14_AlignInverse.j0 k l0 a1 a2 true))) = some r := h
  clear h
  have HC4 := Aside0.mk H
  clear H
  go_enter Try.func8, Try.ntmps8
  go_upto_region 1 with (fail)
  go_cut [29] (fun v29 wc => ∃ (kq : Nat) (x29_3 : Bool), v29 = .bool x29_3 ∧ Aside0 (papermilllaw14_AlignInverse.j0 kq l0 a1 a2 x29_3 = some r) ∧ Aside0 (kq ≤ k) ∧ Aside0 (Below w.heap.size w wc))
  case first =>
    have H := HC4.out
    clear HC4
    replace H := Option.bind_eq_some_iff.mp H
    obtain ⟨t312, A50, H⟩ := H
    replace H : (if t312 = true then ((align_Check.f k l0).bind fun t313 => (if t313 = 0 then (papermilllaw14_AlignInverse.j0 k l0 a1 a2 ((l0.length : Int) == 0)) else (papermilllaw14_AlignInverse.j0 k l0 a1 a2 true))) else (papermilllaw14_AlignInverse.j0 k l0 a1 a2 true)) = some r := H
    have A5 := Aside0.mk A50
    clear A50
    by_cases c6 : t312 = true
    · subst c6
      have H1 : ((align_Check.f k l0).bind fun t313 => (if t313 = 0 then (papermilllaw14_AlignInverse.j0 k l0 a1 a2 ((l0.length : Int) == 0)) else (papermilllaw14_AlignInverse.j0 k l0 a1 a2 true))) = some r := by rw [if_pos rfl] at H; exact H
      clear H
      have H := H1
      clear H1
      replace H := Option.bind_eq_some_iff.mp H
      obtain ⟨t313, A70, H⟩ := H
      replace H : (if t313 = 0 then (papermilllaw14_AlignInverse.j0 k l0 a1 a2 ((l0.length : Int) == 0)) else (papermilllaw14_AlignInverse.j0 k l0 a1 a2 true)) = some r := H
      have A7 := Aside0.mk A70
      clear A70
      by_cases c8 : t313 = 0
      · rw [if_pos c8] at H
        have c8b0 : (t313 == 0) = true := beq_iff_eq.mpr c8
        have c8b1 : (t313 != 0) = false := bne_eq_false_iff_eq.mpr c8
        clear c8
        (first | rw [c8b0] | (simp only [i64_w, i32_w]; rw [c8b0]) | skip)
        have H' := Aside0.mk H
        clear H
        go_wp2_with (first | ((with_reducible refine gate_callee (f := 11) rfl ?_); refine goesL_ (some 18) rfl rfl Try.func11 (by kernel_rfl) rfl #[.slice A0 l0.length c0] rfl (by (try simp only [List.map_toArray, List.map_cons, List.map_nil]); first | done | rfl | (simp only [List.length_drop, List.length_take]; rfl)) ?_; (with_reducible refine (papermilllaw14_few.calls _ _ l0 true _ ?side1 ?side2 A5.out).mono ?_); (case side1 => repeat (first | exact (Kd.C_below HR0.out HB.out) | (with_reducible refine Kd.C_alloc ?_ _) | (with_reducible refine Kd.C_drewN ?_ _) | (with_reducible refine Kd.C_drew ?_))); (case side2 => exact HC0.out); rintro e w' ⟨rfl, ⟨nd, rfl⟩⟩; refine ⟨_, rfl, ?_⟩) | (go_at_call 13; (with_reducible refine (align_Check.calls k _ _ l0 t313 _ ?side1 ?side2 A7.out).mono ?_); (case side1 => repeat (first | exact (Kd.C_below HR0.out (by repeat (first | (with_reducible first | exact HB.out | apply below_alloc | apply pw_below_drewN | apply below_drew1) | exact HB.out))) | (with_reducible refine Kd.C_alloc ?_ _) | (with_reducible refine Kd.C_drewN ?_ _) | (with_reducible refine Kd.C_drew ?_))); (case side2 => exact HC0.out); rintro e w9 ⟨rfl, hb⟩; have n0_ := Aside0.mk (below_step (by repeat (first | (with_reducible first | exact HB.out | apply below_alloc | apply pw_below_drewN | apply below_drew1) | exact HB.out)) hb); clear HB; have HB := n0_; clear n0_; (try clear hb); (try clear hb2); (try clear hk); (try clear hi)))
        go_meet
        case rel => exact ⟨_, (((l0.length : Int) == 0)), (by first | rfl | (simp; done) | (simp [*]; done)), H', ⟨by first | omega | exact Nat.le_refl _⟩, ⟨by repeat (first | (with_reducible first | exact HB.out | apply below_alloc | apply pw_below_drewN | apply below_drew1) | exact HB.out)⟩⟩
      · rw [if_neg c8] at H
        have c8b0 : (t313 == 0) = false := beq_eq_false_iff_ne.mpr c8
        have c8b1 : (t313 != 0) = true := bne_iff_ne.mpr c8
        (first | rw [c8b0] | (simp only [i64_w, i32_w]; rw [c8b0]) | skip)
        have H' := Aside0.mk H
        clear H
        go_wp2_with (first | ((with_reducible refine gate_callee (f := 11) rfl ?_); refine goesL_ (some 18) rfl rfl Try.func11 (by kernel_rfl) rfl #[.slice A0 l0.length c0] rfl (by (try simp only [List.map_toArray, List.map_cons, List.map_nil]); first | done | rfl | (simp only [List.length_drop, List.length_take]; rfl)) ?_; (with_reducible refine (papermilllaw14_few.calls _ _ l0 true _ ?side1 ?side2 A5.out).mono ?_); (case side1 => repeat (first | exact (Kd.C_below HR0.out HB.out) | (with_reducible refine Kd.C_alloc ?_ _) | (with_reducible refine Kd.C_drewN ?_ _) | (with_reducible refine Kd.C_drew ?_))); (case side2 => exact HC0.out); rintro e w' ⟨rfl, ⟨nd, rfl⟩⟩; refine ⟨_, rfl, ?_⟩) | (go_at_call 13; (with_reducible refine (align_Check.calls k _ _ l0 t313 _ ?side1 ?side2 A7.out).mono ?_); (case side1 => repeat (first | exact (Kd.C_below HR0.out (by repeat (first | (with_reducible first | exact HB.out | apply below_alloc | apply pw_below_drewN | apply below_drew1) | exact HB.out))) | (with_reducible refine Kd.C_alloc ?_ _) | (with_reducible refine Kd.C_drewN ?_ _) | (with_reducible refine Kd.C_drew ?_))); (case side2 => exact HC0.out); rintro e w10 ⟨rfl, hb⟩; have n0_ := Aside0.mk (below_step (by repeat (first | (with_reducible first | exact HB.out | apply below_alloc | apply pw_below_drewN | apply below_drew1) | exact HB.out)) hb); clear HB; have HB := n0_; clear n0_; (try clear hb); (try clear hb2); (try clear hk); (try clear hi)))
        go_meet
        case rel => exact ⟨_, (true), (by first | rfl | (simp; done) | (simp [*]; done)), H', ⟨by first | omega | exact Nat.le_refl _⟩, ⟨by repeat (first | (with_reducible first | exact HB.out | apply below_alloc | apply pw_below_drewN | apply below_drew1) | exact HB.out)⟩⟩
    · replace c6 := Bool.eq_false_iff.mpr c6
      subst c6
      have H1 : (papermilllaw14_AlignInverse.j0 k l0 a1 a2 true) = some r := by rw [if_neg (show ¬ (false = true) by decide)] at H; exact H
      clear H
      have H := H1
      clear H1
      have H' := Aside0.mk H
      clear H
      go_wp2_with (first | ((with_reducible refine gate_callee (f := 11) rfl ?_); refine goesL_ (some 18) rfl rfl Try.func11 (by kernel_rfl) rfl #[.slice A0 l0.length c0] rfl (by (try simp only [List.map_toArray, List.map_cons, List.map_nil]); first | done | rfl | (simp only [List.length_drop, List.length_take]; rfl)) ?_; (with_reducible refine (papermilllaw14_few.calls _ _ l0 false _ ?side1 ?side2 A5.out).mono ?_); (case side1 => repeat (first | exact (Kd.C_below HR0.out HB.out) | (with_reducible refine Kd.C_alloc ?_ _) | (with_reducible refine Kd.C_drewN ?_ _) | (with_reducible refine Kd.C_drew ?_))); (case side2 => exact HC0.out); rintro e w' ⟨rfl, ⟨nd, rfl⟩⟩; refine ⟨_, rfl, ?_⟩))
      go_meet
      case rel => exact ⟨_, (true), (by first | rfl | (simp; done) | (simp [*]; done)), H', ⟨by first | omega | exact Nat.le_refl _⟩, ⟨by repeat (first | (with_reducible first | exact HB.out | apply below_alloc | apply pw_below_drewN | apply below_drew1) | exact HB.out)⟩⟩
  case rest =>
    clear HC4
    try clear c1
    try clear p2
    try clear c6
    try clear c8
    try clear c8b0
    try clear c8b1
    obtain ⟨kq, x29_3, rfl, HA, HJ3, HB⟩ := hcut
    cases kq with
    | zero => exact absurd HA.out (by simp [papermilllaw14_AlignInverse.j0])
    | succ kj3 =>
      have H := HA.out
      clear HA
      simp only [papermilllaw14_AlignInverse.j0] at H
      by_cases c11 : x29_3 = true
      · subst c11
        have H1 : ((papermilllaw14_awake.f kj3).bind fun t314 => (some t314)) = some r := by rw [if_pos rfl] at H; exact H
        clear H
        have H := H1
        clear H1
        replace H := Option.bind_eq_some_iff.mp H
        obtain ⟨t314, A120, H⟩ := H
        replace H : (some t314) = some r := H
        have A12 := Aside0.mk A120
        clear A120
        first
          | exact absurd ((Option.some.inj H).trans hr_.out) (by decide)
          | (skip
             obtain rfl := Option.some.inj H
             go_wp2_with (first | ((with_reducible refine gate_callee (f := 12) rfl ?_); refine goesL_ (some 30) rfl rfl Try.func12 (by kernel_rfl) rfl #[] rfl (by (try simp only [List.map_toArray, List.map_cons, List.map_nil]); first | done | rfl | (simp only [List.length_drop, List.length_take]; rfl)) ?_; (with_reducible refine (papermilllaw14_awake.calls kj3  t314 _ A12.out).mono ?_); rintro e w13 ⟨rfl, hb⟩; refine ⟨_, rfl, ?_⟩; have n0_ := Aside0.mk (below_step (by repeat (first | (with_reducible first | exact HB.out | apply below_alloc | apply pw_below_drewN | apply below_drew1) | exact HB.out)) hb); clear HB; have HB := n0_; clear n0_; (try clear hb); (try clear hb2); (try clear hk); (try clear hi)))
             go_ret
             exact ⟨by first | rfl | (simp [errW_none, errW_some] <;> rfl) | (simp [*, errW_none, errW_some] <;> rfl), by repeat (first | (with_reducible first | exact HB.out | apply below_alloc | apply pw_below_drewN | apply below_drew1) | exact HB.out)⟩)
      · replace c11 := Bool.eq_false_iff.mpr c11
        subst c11
        have H1 : ((align_Back.f l0 a2).bind fun bt315 => (if 0 < (l0.length : Int) then (if a2 ≥ ((rd_T41 l0 0).f1) then (if 0 ≤ (wrap64 ((l0.length : Int) - 1)) then (if (wrap64 ((l0.length : Int) - 1)) < (l0.length : Int) then (papermilllaw14_AlignInverse.j1 kj3 l0 a1 a2 bt315.1 bt315.2 ((bt315.2 == 0) != (decide (a2 ≤ ((rd_T41 l0 (wrap64 ((l0.length : Int) - 1))).f1))))) else (none)) else (none)) else (papermilllaw14_AlignInverse.j1 kj3 l0 a1 a2 bt315.1 bt315.2 ((bt315.2 == 0) != false))) else (none))) = some r := by rw [if_neg (show ¬ (false = true) by decide)] at H; exact H
        clear H
        have H := H1
        clear H1
        replace H := Option.bind_eq_some_iff.mp H
        obtain ⟨⟨t315, t316⟩, A140, H⟩ := H
        replace H : (if 0 < (l0.length : Int) then (if a2 ≥ ((rd_T41 l0 0).f1) then (if 0 ≤ (wrap64 ((l0.length : Int) - 1)) then (if (wrap64 ((l0.length : Int) - 1)) < (l0.length : Int) then (papermilllaw14_AlignInverse.j1 kj3 l0 a1 a2 t315 t316 ((t316 == 0) != (decide (a2 ≤ ((rd_T41 l0 (wrap64 ((l0.length : Int) - 1))).f1))))) else (none)) else (none)) else (papermilllaw14_AlignInverse.j1 kj3 l0 a1 a2 t315 t316 ((t316 == 0) != false))) else (none)) = some r := H
        have A14 := Aside0.mk A140
        clear A140
        have HC15 := Aside0.mk H
        clear H
        go_upto_region 4 with (first | ((with_reducible refine gate_callee (f := 17) rfl ?_); refine goesL_ (some 34) rfl rfl Try.func17 (by kernel_rfl) rfl #[.slice A0 l0.length c0, .int .i64 a2] rfl (by (try simp only [List.map_toArray, List.map_cons, List.map_nil]); first | done | rfl | (simp only [List.length_drop, List.length_take]; rfl)) ?_; (with_reducible refine (align_Back.calls _ _ l0 a2 t315 t316 _ ?side1 ?side2 A14.out).mono ?_); (case side1 => repeat (first | exact (Kd.C_below HR0.out HB.out) | (with_reducible refine Kd.C_alloc ?_ _) | (with_reducible refine Kd.C_drewN ?_ _) | (with_reducible refine Kd.C_drew ?_))); (case side2 => exact HC0.out); rintro e w16 ⟨rfl, hb⟩; refine ⟨_, rfl, ?_⟩; have n0_ := Aside0.mk (below_step (by repeat (first | (with_reducible first | exact HB.out | apply below_alloc | apply pw_below_drewN | apply below_drew1) | exact HB.out)) hb); clear HB; have HB := n0_; clear n0_; (try clear hb); (try clear hb2); (try clear hk); (try clear hi)))
        (try simp only [Act.put, List.setIfInBounds_toArray, List.set_cons_zero, List.set_cons_succ])
        go_cut [56] (fun v56 wc => ∃ (kq : Nat) (x56_14 : Bool), v56 = .bool x56_14 ∧ Aside0 (papermilllaw14_AlignInverse.j1 kq l0 a1 a2 t315 t316 x56_14 = some r) ∧ Aside0 (kq ≤ kj3) ∧ Aside0 (Below w.heap.size w wc))
        case first =>
          have H := HC15.out
          clear HC15
          by_cases c17 : 0 < (l0.length : Int)
          · rw [if_pos c17] at H
            have c17b0 : decide (0 < (l0.length : Int)) = true := decide_eq_true c17
            have c17b1 : decide (0 < l0.length) = true := decide_eq_true (by omega)
            clear c17
            (first | rw [c17b0] | (simp only [i64_w, i32_w]; rw [c17b0]) | skip)
            by_cases c18 : a2 ≥ ((rd_T41 l0 0).f1)
            · rw [if_pos c18] at H
              have c18b0 : decide (((rd_T41 l0 0).f1) ≤ a2) = true := decide_eq_true c18
              clear c18
              obtain ⟨ji19, hji19⟩ : ∃ j_ : Int, (wrap64 ((l0.length : Int) - 1)) = j_ := ⟨_, rfl⟩
              replace H : (if 0 ≤ (ji19) then (if (ji19) < (l0.length : Int) then (papermilllaw14_AlignInverse.j1 kj3 l0 a1 a2 t315 t316 ((t316 == 0) != (decide (a2 ≤ ((rd_T41 l0 (ji19)).f1))))) else (none)) else (none)) = some r := by first | (rw [hji19] at H; exact H) | (simp only [hji19] at H ⊢; exact H)
              have hji19w : (IntKind.i64.wrap ((l0.length : Int) - 1)) = ji19 := (i64_w _).trans hji19
              by_cases c20 : 0 ≤ (ji19)
              · rw [if_pos c20] at H
                have c20b0 : decide (0 ≤ (ji19)) = true := decide_eq_true c20
                clear c20
                by_cases c21 : (ji19) < (l0.length : Int)
                · rw [if_pos c21] at H
                  have c21b0 : decide ((ji19) < (l0.length : Int)) = true := decide_eq_true c21
                  clear c21
                  have H' := Aside0.mk H
                  clear H
                  have p317 : 0 ≤ (0 : Int) := (by omega)
                  have q317 : 0 < (l0.length : Int) := of_decide_eq_true (by first | (with_reducible assumption) | assumption)
                  obtain ⟨ad317, e317, hx317_0, hx317_1⟩ := at_T41 HR0.out 0 p317 q317
                  cases e317
                  have qi317 : (0 < l0.length) = True := eq_true (by omega)
                  (try rw [show ((0 : Int)).toNat = 0 from rfl] at hx317_0)
                  (try rw [show 0 * 2 = 0 from rfl] at hx317_0)
                  (try rw [Addr.add_zero'] at hx317_0)
                  (try rw [show ((0 : Int)).toNat = 0 from rfl] at hx317_1)
                  (try rw [show 0 * 2 = 0 from rfl] at hx317_1)
                  (try rw [Addr.add_zero'] at hx317_1)
                  replace hx317_0 := (HB.out.cell (World.block_lt_of_cell? w _ hx317_0)).trans hx317_0
                  replace hx317_1 := (HB.out.cell (World.block_lt_of_cell? w _ hx317_1)).trans hx317_1
                  replace p317 := eq_true p317
                  replace q317 := eq_true q317
                  have p318 : 0 ≤ ((ji19) : Int) := of_decide_eq_true (by first | (with_reducible assumption) | assumption)
                  have q318 : (ji19) < (l0.length : Int) := of_decide_eq_true (by first | (with_reducible assumption) | assumption)
                  obtain ⟨ad318, e318, hx318_0, hx318_1⟩ := at_T41 HR0.out (ji19) p318 q318
                  obtain rfl : ad317 = ad318 := (by injection e318)
                  replace hx318_0 := (HB.out.cell (World.block_lt_of_cell? w _ hx318_0)).trans hx318_0
                  replace hx318_1 := (HB.out.cell (World.block_lt_of_cell? w _ hx318_1)).trans hx318_1
                  replace p318 := eq_true p318
                  replace q318 := eq_true q318
                  go_wp2
                  go_meet
                  case rel => exact ⟨_, (((t316 == 0) != (decide (a2 ≤ ((rd_T41 l0 (ji19)).f1))))), (by first | rfl | (simp; done) | (simp only [← hji19] <;> (first | rfl | simp)) | (simp [*]; done)), H', ⟨by have := HJ3.out; first | omega | exact Nat.le_refl _⟩, ⟨by repeat (first | (with_reducible first | exact HB.out | apply below_alloc | apply pw_below_drewN | apply below_drew1) | exact HB.out)⟩⟩
                · rw [if_neg c21] at H
                  exact absurd H (by simp)
              · rw [if_neg c20] at H
                exact absurd H (by simp)
            · rw [if_neg c18] at H
              have c18b0 : decide (((rd_T41 l0 0).f1) ≤ a2) = false := decide_eq_false c18
              clear c18
              have H' := Aside0.mk H
              clear H
              have p317 : 0 ≤ (0 : Int) := (by omega)
              have q317 : 0 < (l0.length : Int) := of_decide_eq_true (by first | (with_reducible assumption) | assumption)
              obtain ⟨ad317, e317, hx317_0, hx317_1⟩ := at_T41 HR0.out 0 p317 q317
              cases e317
              have qi317 : (0 < l0.length) = True := eq_true (by omega)
              (try rw [show ((0 : Int)).toNat = 0 from rfl] at hx317_0)
              (try rw [show 0 * 2 = 0 from rfl] at hx317_0)
              (try rw [Addr.add_zero'] at hx317_0)
              (try rw [show ((0 : Int)).toNat = 0 from rfl] at hx317_1)
              (try rw [show 0 * 2 = 0 from rfl] at hx317_1)
              (try rw [Addr.add_zero'] at hx317_1)
              replace hx317_0 := (HB.out.cell (World.block_lt_of_cell? w _ hx317_0)).trans hx317_0
              replace hx317_1 := (HB.out.cell (World.block_lt_of_cell? w _ hx317_1)).trans hx317_1
              replace p317 := eq_true p317
              replace q317 := eq_true q317
              go_wp2
              go_meet
              case rel => exact ⟨_, (((t316 == 0) != false)), (by first | rfl | (simp; done) | (simp [*]; done)), H', ⟨by have := HJ3.out; first | omega | exact Nat.le_refl _⟩, ⟨by repeat (first | (with_reducible first | exact HB.out | apply below_alloc | apply pw_below_drewN | apply below_drew1) | exact HB.out)⟩⟩
          · rw [if_neg c17] at H
            exact absurd H (by simp)
        case rest =>
          clear HC15
          try clear c1
          try clear c2
          try clear p2
          try clear p3
          try clear q3
          try clear hx3
          try clear qi3
          try clear c6
          try clear p6
          try clear c8
          try clear c8b0
          try clear c8b1
          try clear c11
          try clear c12
          try clear c17
          try clear c17b0
          try clear c17b1
          try clear c18
          try clear c18b0
          try clear c20
          try clear c20b0
          try clear c21
          try clear c21b0
          try clear hx317_0
          try clear hx317_1
          try clear hx318_0
          try clear hx318_1
          try clear p2
          try clear p317
          try clear p318
          try clear q317
          try clear q318
          obtain ⟨kq, x56_14, rfl, HA, HJ14, HB⟩ := hcut
          cases kq with
          | zero => exact absurd HA.out (by simp [papermilllaw14_AlignInverse.j1])
          | succ kj14 =>
            have H := HA.out
            clear HA
            simp only [papermilllaw14_AlignInverse.j1] at H
            by_cases c22 : x56_14 = true
            · subst c22
              have H1 : (some false) = some r := by rw [if_pos rfl] at H; exact H
              clear H
              have H := H1
              clear H1
              exact absurd ((Option.some.inj H).trans hr_.out) (by decide)
            · replace c22 := Bool.eq_false_iff.mpr c22
              subst c22
              have H1 : (if t316 = 0 then ((align_Forward.f kj14 l0 t315).bind fun bt319 => (if bt319.2 = 0 then (if bt319.1 < a2 then (papermilllaw14_AlignInverse.j2 kj14 l0 a1 a2 t315 true) else (if 0 < (l0.length : Int) then (if t315 < ((rd_T41 l0 0).f0) then (papermilllaw14_AlignInverse.j2 kj14 l0 a1 a2 t315 true) else (if 0 ≤ (wrap64 ((l0.length : Int) - 1)) then (if (wrap64 ((l0.length : Int) - 1)) < (l0.length : Int) then (papermilllaw14_AlignInverse.j2 kj14 l0 a1 a2 t315 (decide (t315 > ((rd_T41 l0 (wrap64 ((l0.length : Int) - 1))).f0)))) else (none)) else (none))) else (none))) else (papermilllaw14_AlignInverse.j2 kj14 l0 a1 a2 t315 true))) else (papermilllaw14_AlignInverse.j3 kj14 l0 a1)) = some r := by rw [if_neg (show ¬ (false = true) by decide)] at H; exact H
              clear H
              have H := H1
              clear H1
              have HC23 := Aside0.mk H
              clear H
              go_upto_if 58 with (fail)
              go_cut [] (fun wc => ∃ (kq : Nat), Aside0 (papermilllaw14_AlignInverse.j3 kq l0 a1 = some r) ∧ Aside0 (kq ≤ kj14) ∧ Aside0 (Below w.heap.size w wc))
              case first =>
                have H := HC23.out
                clear HC23
                by_cases c24 : t316 = 0
                · rw [if_pos c24] at H
                  have c24b0 : (t316 == 0) = true := beq_iff_eq.mpr c24
                  have c24b1 : (t316 != 0) = false := bne_eq_false_iff_eq.mpr c24
                  clear c24
                  (first | rw [c24b0] | (simp only [i64_w, i32_w]; rw [c24b0]) | skip)
                  replace H := Option.bind_eq_some_iff.mp H
                  obtain ⟨⟨t319, t320⟩, A250, H⟩ := H
                  replace H : (if t320 = 0 then (if t319 < a2 then (papermilllaw14_AlignInverse.j2 kj14 l0 a1 a2 t315 true) else (if 0 < (l0.length : Int) then (if t315 < ((rd_T41 l0 0).f0) then (papermilllaw14_AlignInverse.j2 kj14 l0 a1 a2 t315 true) else (if 0 ≤ (wrap64 ((l0.length : Int) - 1)) then (if (wrap64 ((l0.length : Int) - 1)) < (l0.length : Int) then (papermilllaw14_AlignInverse.j2 kj14 l0 a1 a2 t315 (decide (t315 > ((rd_T41 l0 (wrap64 ((l0.length : Int) - 1))).f0)))) else (none)) else (none))) else (none))) else (papermilllaw14_AlignInverse.j2 kj14 l0 a1 a2 t315 true)) = some r := H
                  have A25 := Aside0.mk A250
                  clear A250
                  have HC26 := Aside0.mk H
                  clear H
                  go_upto_region 8 with (first | ((with_reducible refine gate_callee (f := 15) rfl ?_); refine goesL_ (some 62) rfl rfl Try.func15 (by kernel_rfl) rfl #[.slice A0 l0.length c0, .int .i64 t315] rfl (by (try simp only [List.map_toArray, List.map_cons, List.map_nil]); first | done | rfl | (simp only [List.length_drop, List.length_take]; rfl)) ?_; (with_reducible refine (align_Forward.calls kj14 _ _ l0 t315 t319 t320 _ ?side1 ?side2 A25.out).mono ?_); (case side1 => repeat (first | exact (Kd.C_below HR0.out HB.out) | (with_reducible refine Kd.C_alloc ?_ _) | (with_reducible refine Kd.C_drewN ?_ _) | (with_reducible refine Kd.C_drew ?_))); (case side2 => exact HC0.out); rintro e w27 ⟨rfl, hb⟩; refine ⟨_, rfl, ?_⟩; have n0_ := Aside0.mk (below_step (by repeat (first | (with_reducible first | exact HB.out | apply below_alloc | apply pw_below_drewN | apply below_drew1) | exact HB.out)) hb); clear HB; have HB := n0_; clear n0_; (try clear hb); (try clear hb2); (try clear hk); (try clear hi)))
                  (try simp only [Act.put, List.setIfInBounds_toArray, List.set_cons_zero, List.set_cons_succ])
                  go_cut [90] (fun v90 wc => ∃ (kq : Nat) (x90_25 : Bool), v90 = .bool x90_25 ∧ Aside0 (papermilllaw14_AlignInverse.j2 kq l0 a1 a2 t315 x90_25 = some r) ∧ Aside0 (kq ≤ kj14) ∧ Aside0 (Below w.heap.size w wc))
                  case first =>
                    have H := HC26.out
                    clear HC26
                    by_cases c28 : t320 = 0
                    · rw [if_pos c28] at H
                      have c28b0 : (t320 == 0) = true := beq_iff_eq.mpr c28
                      have c28b1 : (t320 != 0) = false := bne_eq_false_iff_eq.mpr c28
                      clear c28
                      (first | rw [c28b0] | (simp only [i64_w, i32_w]; rw [c28b0]) | skip)
                      by_cases c29 : t319 < a2
                      · rw [if_pos c29] at H
                        have c29b0 : decide (t319 < a2) = true := decide_eq_true c29
                        clear c29
                        have H' := Aside0.mk H
                        clear H
                        go_wp2
                        go_meet
                        case rel => exact ⟨_, (true), (by first | rfl | (simp; done) | (simp [*]; done)), H', ⟨by have := HJ3.out; have := HJ14.out; first | omega | exact Nat.le_refl _⟩, ⟨by repeat (first | (with_reducible first | exact HB.out | apply below_alloc | apply pw_below_drewN | apply below_drew1) | exact HB.out)⟩⟩
                      · rw [if_neg c29] at H
                        have c29b0 : decide (t319 < a2) = false := decide_eq_false c29
                        clear c29
                        by_cases c30 : 0 < (l0.length : Int)
                        · rw [if_pos c30] at H
                          have c30b0 : decide (0 < (l0.length : Int)) = true := decide_eq_true c30
                          have c30b1 : decide (0 < l0.length) = true := decide_eq_true (by omega)
                          clear c30
                          by_cases c31 : t315 < ((rd_T41 l0 0).f0)
                          · rw [if_pos c31] at H
                            have c31b0 : decide (t315 < ((rd_T41 l0 0).f0)) = true := decide_eq_true c31
                            clear c31
                            have H' := Aside0.mk H
                            clear H
                            have p321 : 0 ≤ (0 : Int) := (by omega)
                            have q321 : 0 < (l0.length : Int) := of_decide_eq_true (by first | (with_reducible assumption) | assumption)
                            obtain ⟨ad321, e321, hx321_0, hx321_1⟩ := at_T41 HR0.out 0 p321 q321
                            cases e321
                            have qi321 : (0 < l0.length) = True := eq_true (by omega)
                            (try rw [show ((0 : Int)).toNat = 0 from rfl] at hx321_0)
                            (try rw [show 0 * 2 = 0 from rfl] at hx321_0)
                            (try rw [Addr.add_zero'] at hx321_0)
                            (try rw [show ((0 : Int)).toNat = 0 from rfl] at hx321_1)
                            (try rw [show 0 * 2 = 0 from rfl] at hx321_1)
                            (try rw [Addr.add_zero'] at hx321_1)
                            replace hx321_0 := (HB.out.cell (World.block_lt_of_cell? w _ hx321_0)).trans hx321_0
                            replace hx321_1 := (HB.out.cell (World.block_lt_of_cell? w _ hx321_1)).trans hx321_1
                            replace p321 := eq_true p321
                            replace q321 := eq_true q321
                            go_wp2
                            go_meet
                            case rel => exact ⟨_, (true), (by first | rfl | (simp; done) | (simp [*]; done)), H', ⟨by have := HJ3.out; have := HJ14.out; first | omega | exact Nat.le_refl _⟩, ⟨by repeat (first | (with_reducible first | exact HB.out | apply below_alloc | apply pw_below_drewN | apply below_drew1) | exact HB.out)⟩⟩
                          · rw [if_neg c31] at H
                            have c31b0 : decide (t315 < ((rd_T41 l0 0).f0)) = false := decide_eq_false c31
                            clear c31
                            obtain ⟨ji32, hji32⟩ : ∃ j_ : Int, (wrap64 ((l0.length : Int) - 1)) = j_ := ⟨_, rfl⟩
                            replace H : (if 0 ≤ (ji32) then (if (ji32) < (l0.length : Int) then (papermilllaw14_AlignInverse.j2 kj14 l0 a1 a2 t315 (decide (t315 > ((rd_T41 l0 (ji32)).f0)))) else (none)) else (none)) = some r := by first | (rw [hji32] at H; exact H) | (simp only [hji32] at H ⊢; exact H)
                            have hji32w : (IntKind.i64.wrap ((l0.length : Int) - 1)) = ji32 := (i64_w _).trans hji32
                            by_cases c33 : 0 ≤ (ji32)
                            · rw [if_pos c33] at H
                              have c33b0 : decide (0 ≤ (ji32)) = true := decide_eq_true c33
                              clear c33
                              by_cases c34 : (ji32) < (l0.length : Int)
                              · rw [if_pos c34] at H
                                have c34b0 : decide ((ji32) < (l0.length : Int)) = true := decide_eq_true c34
                                clear c34
                                have H' := Aside0.mk H
                                clear H
                                have p321 : 0 ≤ (0 : Int) := (by omega)
                                have q321 : 0 < (l0.length : Int) := of_decide_eq_true (by first | (with_reducible assumption) | assumption)
                                obtain ⟨ad321, e321, hx321_0, hx321_1⟩ := at_T41 HR0.out 0 p321 q321
                                cases e321
                                have qi321 : (0 < l0.length) = True := eq_true (by omega)
                                (try rw [show ((0 : Int)).toNat = 0 from rfl] at hx321_0)
                                (try rw [show 0 * 2 = 0 from rfl] at hx321_0)
                                (try rw [Addr.add_zero'] at hx321_0)
                                (try rw [show ((0 : Int)).toNat = 0 from rfl] at hx321_1)
                                (try rw [show 0 * 2 = 0 from rfl] at hx321_1)
                                (try rw [Addr.add_zero'] at hx321_1)
                                replace hx321_0 := (HB.out.cell (World.block_lt_of_cell? w _ hx321_0)).trans hx321_0
                                replace hx321_1 := (HB.out.cell (World.block_lt_of_cell? w _ hx321_1)).trans hx321_1
                                replace p321 := eq_true p321
                                replace q321 := eq_true q321
                                have p322 : 0 ≤ ((ji32) : Int) := of_decide_eq_true (by first | (with_reducible assumption) | assumption)
                                have q322 : (ji32) < (l0.length : Int) := of_decide_eq_true (by first | (with_reducible assumption) | assumption)
                                obtain ⟨ad322, e322, hx322_0, hx322_1⟩ := at_T41 HR0.out (ji32) p322 q322
                                obtain rfl : ad321 = ad322 := (by injection e322)
                                replace hx322_0 := (HB.out.cell (World.block_lt_of_cell? w _ hx322_0)).trans hx322_0
                                replace hx322_1 := (HB.out.cell (World.block_lt_of_cell? w _ hx322_1)).trans hx322_1
                                replace p322 := eq_true p322
                                replace q322 := eq_true q322
                                go_wp2
                                go_meet
                                case rel => exact ⟨_, (decide (t315 > ((rd_T41 l0 (ji32)).f0))), (by first | rfl | (simp; done) | (simp only [← hji32] <;> (first | rfl | simp)) | (simp [*]; done)), H', ⟨by have := HJ3.out; have := HJ14.out; first | omega | exact Nat.le_refl _⟩, ⟨by repeat (first | (with_reducible first | exact HB.out | apply below_alloc | apply pw_below_drewN | apply below_drew1) | exact HB.out)⟩⟩
                              · rw [if_neg c34] at H
                                exact absurd H (by simp)
                            · rw [if_neg c33] at H
                              exact absurd H (by simp)
                        · rw [if_neg c30] at H
                          exact absurd H (by simp)
                    · rw [if_neg c28] at H
                      have c28b0 : (t320 == 0) = false := beq_eq_false_iff_ne.mpr c28
                      have c28b1 : (t320 != 0) = true := bne_iff_ne.mpr c28
                      (first | rw [c28b0] | (simp only [i64_w, i32_w]; rw [c28b0]) | skip)
                      have H' := Aside0.mk H
                      clear H
                      go_wp2
                      go_meet
                      case rel => exact ⟨_, (true), (by first | rfl | (simp; done) | (simp [*]; done)), H', ⟨by have := HJ3.out; have := HJ14.out; first | omega | exact Nat.le_refl _⟩, ⟨by repeat (first | (with_reducible first | exact HB.out | apply below_alloc | apply pw_below_drewN | apply below_drew1) | exact HB.out)⟩⟩
                  case rest =>
                    clear HC26
                    try clear c1
                    try clear c2
                    try clear p2
                    try clear c3
                    try clear p3
                    try clear q3
                    try clear hx3
                    try clear qi3
                    try clear c6
                    try clear p6
                    try clear c8
                    try clear c8b0
                    try clear c8b1
                    try clear c11
                    try clear c12
                    try clear c15
                    try clear c17
                    try clear c17b0
                    try clear c17b1
                    try clear c18
                    try clear c18b0
                    try clear c20
                    try clear c20b0
                    try clear c21
                    try clear c21b0
                    try clear c22
                    try clear c24
                    try clear c24b0
                    try clear c24b1
                    try clear c28
                    try clear c28b0
                    try clear c28b1
                    try clear c29
                    try clear c29b0
                    try clear c30
                    try clear c30b0
                    try clear c30b1
                    try clear c31
                    try clear c31b0
                    try clear p31
                    try clear q31
                    try clear hx31
                    try clear qi31
                    try clear p32
                    try clear q32
                    try clear hx32
                    try clear qi32
                    try clear c33
                    try clear c33b0
                    try clear c34
                    try clear c34b0
                    try clear hx317_0
                    try clear hx317_1
                    try clear hx318_0
                    try clear hx318_1
                    try clear hx321_0
                    try clear hx321_1
                    try clear hx322_0
                    try clear hx322_1
                    try clear p2
                    try clear p3
                    try clear p317
                    try clear p318
                    try clear p321
                    try clear p322
                    try clear p6
                    try clear q3
                    try clear q317
                    try clear q318
                    try clear q321
                    try clear q322
                    obtain ⟨kq, x90_25, rfl, HA, HJ25, HB⟩ := hcut
                    cases kq with
                    | zero => exact absurd HA.out (by simp [papermilllaw14_AlignInverse.j2])
                    | succ kj25 =>
                      have H := HA.out
                      clear HA
                      simp only [papermilllaw14_AlignInverse.j2] at H
                      by_cases c35 : x90_25 = true
                      · subst c35
                        have H1 : (some false) = some r := by rw [if_pos rfl] at H; exact H
                        clear H
                        have H := H1
                        clear H1
                        exact absurd ((Option.some.inj H).trans hr_.out) (by decide)
                      · replace c35 := Bool.eq_false_iff.mpr c35
                        subst c35
                        have H1 : (if 0 < (l0.length : Int) then (if t315 > ((rd_T41 l0 0).f0) then ((align_Forward.f kj25 l0 (wrap64 (t315 - 1))).bind fun bt324 => (if bt324.2 = 0 then (if bt324.1 ≥ a2 then (some false) else (papermilllaw14_AlignInverse.j3 kj25 l0 a1)) else (some false))) else (papermilllaw14_AlignInverse.j3 kj25 l0 a1)) else (none)) = some r := by rw [if_neg (show ¬ (false = true) by decide)] at H; exact H
                        clear H
                        have H := H1
                        clear H1
                        by_cases c36 : 0 < (l0.length : Int)
                        · rw [if_pos c36] at H
                          have c36b0 : decide (0 < (l0.length : Int)) = true := decide_eq_true c36
                          have c36b1 : decide (0 < l0.length) = true := decide_eq_true (by omega)
                          clear c36
                          by_cases c37 : t315 > ((rd_T41 l0 0).f0)
                          · rw [if_pos c37] at H
                            have c37b0 : decide (((rd_T41 l0 0).f0) < t315) = true := decide_eq_true c37
                            clear c37
                            replace H := Option.bind_eq_some_iff.mp H
                            obtain ⟨⟨t324, t325⟩, A380, H⟩ := H
                            replace H : (if t325 = 0 then (if t324 ≥ a2 then (some false) else (papermilllaw14_AlignInverse.j3 kj25 l0 a1)) else (some false)) = some r := H
                            have A38 := Aside0.mk A380
                            clear A380
                            by_cases c39 : t325 = 0
                            · rw [if_pos c39] at H
                              have c39b0 : (t325 == 0) = true := beq_iff_eq.mpr c39
                              have c39b1 : (t325 != 0) = false := bne_eq_false_iff_eq.mpr c39
                              clear c39
                              by_cases c40 : t324 ≥ a2
                              · rw [if_pos c40] at H
                                have c40b0 : decide (a2 ≤ t324) = true := decide_eq_true c40
                                clear c40
                                exact absurd ((Option.some.inj H).trans hr_.out) (by decide)
                              · rw [if_neg c40] at H
                                have c40b0 : decide (a2 ≤ t324) = false := decide_eq_false c40
                                clear c40
                                have H' := Aside0.mk H
                                clear H
                                have p323 : 0 ≤ (0 : Int) := (by omega)
                                have q323 : 0 < (l0.length : Int) := of_decide_eq_true (by first | (with_reducible assumption) | assumption)
                                obtain ⟨ad323, e323, hx323_0, hx323_1⟩ := at_T41 HR0.out 0 p323 q323
                                cases e323
                                have qi323 : (0 < l0.length) = True := eq_true (by omega)
                                (try rw [show ((0 : Int)).toNat = 0 from rfl] at hx323_0)
                                (try rw [show 0 * 2 = 0 from rfl] at hx323_0)
                                (try rw [Addr.add_zero'] at hx323_0)
                                (try rw [show ((0 : Int)).toNat = 0 from rfl] at hx323_1)
                                (try rw [show 0 * 2 = 0 from rfl] at hx323_1)
                                (try rw [Addr.add_zero'] at hx323_1)
                                replace hx323_0 := (HB.out.cell (World.block_lt_of_cell? w _ hx323_0)).trans hx323_0
                                replace hx323_1 := (HB.out.cell (World.block_lt_of_cell? w _ hx323_1)).trans hx323_1
                                replace p323 := eq_true p323
                                replace q323 := eq_true q323
                                go_wp2_with (first | ((with_reducible refine gate_callee (f := 15) rfl ?_); refine goesL_ (some 101) rfl rfl Try.func15 (by kernel_rfl) rfl #[.slice (some ad323) l0.length c0, .int .i64 (wrap64 (t315 - 1))] rfl (by (try simp only [List.map_toArray, List.map_cons, List.map_nil]); first | done | rfl | (simp only [List.length_drop, List.length_take]; rfl)) ?_; (with_reducible refine (align_Forward.calls kj25 _ _ l0 (wrap64 (t315 - 1)) t324 t325 _ ?side1 ?side2 A38.out).mono ?_); (case side1 => repeat (first | exact (Kd.C_below HR0.out HB.out) | (with_reducible refine Kd.C_alloc ?_ _) | (with_reducible refine Kd.C_drewN ?_ _) | (with_reducible refine Kd.C_drew ?_))); (case side2 => exact HC0.out); rintro e w42 ⟨rfl, hb⟩; refine ⟨_, rfl, ?_⟩; have n0_ := Aside0.mk (below_step (by repeat (first | (with_reducible first | exact HB.out | apply below_alloc | apply pw_below_drewN | apply below_drew1) | exact HB.out)) hb); clear HB; have HB := n0_; clear n0_; (try clear hb); (try clear hb2); (try clear hk); (try clear hi)))
                                go_meet
                                case rel => exact ⟨_, H', ⟨by have := HJ3.out; have := HJ14.out; have := HJ25.out; first | omega | exact Nat.le_refl _⟩, ⟨by repeat (first | (with_reducible first | exact HB.out | apply below_alloc | apply pw_below_drewN | apply below_drew1) | exact HB.out)⟩⟩
                            · rw [if_neg c39] at H
                              have c39b0 : (t325 == 0) = false := beq_eq_false_iff_ne.mpr c39
                              have c39b1 : (t325 != 0) = true := bne_iff_ne.mpr c39
                              exact absurd ((Option.some.inj H).trans hr_.out) (by decide)
                          · rw [if_neg c37] at H
                            have c37b0 : decide (((rd_T41 l0 0).f0) < t315) = false := decide_eq_false c37
                            clear c37
                            have H' := Aside0.mk H
                            clear H
                            have p323 : 0 ≤ (0 : Int) := (by omega)
                            have q323 : 0 < (l0.length : Int) := of_decide_eq_true (by first | (with_reducible assumption) | assumption)
                            obtain ⟨ad323, e323, hx323_0, hx323_1⟩ := at_T41 HR0.out 0 p323 q323
                            cases e323
                            have qi323 : (0 < l0.length) = True := eq_true (by omega)
                            (try rw [show ((0 : Int)).toNat = 0 from rfl] at hx323_0)
                            (try rw [show 0 * 2 = 0 from rfl] at hx323_0)
                            (try rw [Addr.add_zero'] at hx323_0)
                            (try rw [show ((0 : Int)).toNat = 0 from rfl] at hx323_1)
                            (try rw [show 0 * 2 = 0 from rfl] at hx323_1)
                            (try rw [Addr.add_zero'] at hx323_1)
                            replace hx323_0 := (HB.out.cell (World.block_lt_of_cell? w _ hx323_0)).trans hx323_0
                            replace hx323_1 := (HB.out.cell (World.block_lt_of_cell? w _ hx323_1)).trans hx323_1
                            replace p323 := eq_true p323
                            replace q323 := eq_true q323
                            go_wp2
                            go_meet
                            case rel => exact ⟨_, H', ⟨by have := HJ3.out; have := HJ14.out; have := HJ25.out; first | omega | exact Nat.le_refl _⟩, ⟨by repeat (first | (with_reducible first | exact HB.out | apply below_alloc | apply pw_below_drewN | apply below_drew1) | exact HB.out)⟩⟩
                        · rw [if_neg c36] at H
                          exact absurd H (by simp)
                · rw [if_neg c24] at H
                  have c24b0 : (t316 == 0) = false := beq_eq_false_iff_ne.mpr c24
                  have c24b1 : (t316 != 0) = true := bne_iff_ne.mpr c24
                  (first | rw [c24b0] | (simp only [i64_w, i32_w]; rw [c24b0]) | skip)
                  have H' := Aside0.mk H
                  clear H
                  go_wp2
                  go_meet
                  case rel => exact ⟨_, H', ⟨by have := HJ3.out; have := HJ14.out; first | omega | exact Nat.le_refl _⟩, ⟨by repeat (first | (with_reducible first | exact HB.out | apply below_alloc | apply pw_below_drewN | apply below_drew1) | exact HB.out)⟩⟩
              case rest =>
                clear HC23
                try clear c1
                try clear c2
                try clear p2
                try clear c3
                try clear p3
                try clear q3
                try clear hx3
                try clear qi3
                try clear c4
                try clear c6
                try clear p6
                try clear c8
                try clear c8b0
                try clear c8b1
                try clear c11
                try clear c12
                try clear c15
                try clear c17
                try clear c17b0
                try clear c17b1
                try clear c18
                try clear c18b0
                try clear c20
                try clear c20b0
                try clear c21
                try clear c21b0
                try clear c22
                try clear c24
                try clear c24b0
                try clear c24b1
                try clear c28
                try clear c28b0
                try clear c28b1
                try clear c29
                try clear c29b0
                try clear c30
                try clear c30b0
                try clear c30b1
                try clear c31
                try clear c31b0
                try clear p31
                try clear q31
                try clear hx31
                try clear qi31
                try clear p32
                try clear q32
                try clear hx32
                try clear qi32
                try clear c33
                try clear c33b0
                try clear c34
                try clear c34b0
                try clear c35
                try clear c36
                try clear c36b0
                try clear c36b1
                try clear c37
                try clear c37b0
                try clear c39
                try clear c39b0
                try clear c39b1
                try clear c40
                try clear c40b0
                try clear hx317_0
                try clear hx317_1
                try clear hx318_0
                try clear hx318_1
                try clear hx321_0
                try clear hx321_1
                try clear hx322_0
                try clear hx322_1
                try clear hx323_0
                try clear hx323_1
                try clear p2
                try clear p3
                try clear p31
                try clear p317
                try clear p318
                try clear p32
                try clear p321
                try clear p322
                try clear p323
                try clear p6
                try clear q3
                try clear q31
                try clear q317
                try clear q318
                try clear q32
                try clear q321
                try clear q322
                try clear q323
                obtain ⟨kq, HA, HJ22, HB⟩ := hcut
                cases kq with
                | zero => exact absurd HA.out (by simp [papermilllaw14_AlignInverse.j3])
                | succ kj22 =>
                  have H := HA.out
                  clear HA
                  simp only [papermilllaw14_AlignInverse.j3] at H
                  have HC44 := Aside0.mk H
                  clear H
                  go_upto_region 14 with (fail)
                  go_cut [127] (fun v127 wc => ∃ (kq : Nat) (x127_43 : Bool), v127 = .bool x127_43 ∧ Aside0 (papermilllaw14_AlignInverse.j4 kq l0 a1 x127_43 = some r) ∧ Aside0 (kq ≤ kj22) ∧ Aside0 (Below w.heap.size w wc))
                  case first =>
                    have H := HC44.out
                    clear HC44
                    by_cases c45 : 0 < (l0.length : Int)
                    · rw [if_pos c45] at H
                      have c45b0 : decide (0 < (l0.length : Int)) = true := decide_eq_true c45
                      have c45b1 : decide (0 < l0.length) = true := decide_eq_true (by omega)
                      clear c45
                      (first | rw [c45b0] | (simp only [i64_w, i32_w]; rw [c45b0]) | skip)
                      by_cases c46 : a1 ≤ ((rd_T41 l0 0).f0)
                      · rw [if_pos c46] at H
                        have c46b0 : decide (a1 ≤ ((rd_T41 l0 0).f0)) = true := decide_eq_true c46
                        clear c46
                        have H' := Aside0.mk H
                        clear H
                        have p326 : 0 ≤ (0 : Int) := (by omega)
                        have q326 : 0 < (l0.length : Int) := of_decide_eq_true (by first | (with_reducible assumption) | assumption)
                        obtain ⟨ad326, e326, hx326_0, hx326_1⟩ := at_T41 HR0.out 0 p326 q326
                        cases e326
                        have qi326 : (0 < l0.length) = True := eq_true (by omega)
                        (try rw [show ((0 : Int)).toNat = 0 from rfl] at hx326_0)
                        (try rw [show 0 * 2 = 0 from rfl] at hx326_0)
                        (try rw [Addr.add_zero'] at hx326_0)
                        (try rw [show ((0 : Int)).toNat = 0 from rfl] at hx326_1)
                        (try rw [show 0 * 2 = 0 from rfl] at hx326_1)
                        (try rw [Addr.add_zero'] at hx326_1)
                        replace hx326_0 := (HB.out.cell (World.block_lt_of_cell? w _ hx326_0)).trans hx326_0
                        replace hx326_1 := (HB.out.cell (World.block_lt_of_cell? w _ hx326_1)).trans hx326_1
                        replace p326 := eq_true p326
                        replace q326 := eq_true q326
                        go_wp2
                        go_meet
                        case rel => exact ⟨_, (true), (by first | rfl | (simp; done) | (simp [*]; done)), H', ⟨by have := HJ3.out; have := HJ14.out; have := HJ22.out; first | omega | exact Nat.le_refl _⟩, ⟨by repeat (first | (with_reducible first | exact HB.out | apply below_alloc | apply pw_below_drewN | apply below_drew1) | exact HB.out)⟩⟩
                      · rw [if_neg c46] at H
                        have c46b0 : decide (a1 ≤ ((rd_T41 l0 0).f0)) = false := decide_eq_false c46
                        clear c46
                        obtain ⟨ji47, hji47⟩ : ∃ j_ : Int, (wrap64 ((l0.length : Int) - 1)) = j_ := ⟨_, rfl⟩
                        replace H : (if 0 ≤ (ji47) then (if (ji47) < (l0.length : Int) then (papermilllaw14_AlignInverse.j4 kj22 l0 a1 (decide (a1 > ((rd_T41 l0 (ji47)).f0)))) else (none)) else (none)) = some r := by first | (rw [hji47] at H; exact H) | (simp only [hji47] at H ⊢; exact H)
                        have hji47w : (IntKind.i64.wrap ((l0.length : Int) - 1)) = ji47 := (i64_w _).trans hji47
                        by_cases c48 : 0 ≤ (ji47)
                        · rw [if_pos c48] at H
                          have c48b0 : decide (0 ≤ (ji47)) = true := decide_eq_true c48
                          clear c48
                          by_cases c49 : (ji47) < (l0.length : Int)
                          · rw [if_pos c49] at H
                            have c49b0 : decide ((ji47) < (l0.length : Int)) = true := decide_eq_true c49
                            clear c49
                            have H' := Aside0.mk H
                            clear H
                            have p326 : 0 ≤ (0 : Int) := (by omega)
                            have q326 : 0 < (l0.length : Int) := of_decide_eq_true (by first | (with_reducible assumption) | assumption)
                            obtain ⟨ad326, e326, hx326_0, hx326_1⟩ := at_T41 HR0.out 0 p326 q326
                            cases e326
                            have qi326 : (0 < l0.length) = True := eq_true (by omega)
                            (try rw [show ((0 : Int)).toNat = 0 from rfl] at hx326_0)
                            (try rw [show 0 * 2 = 0 from rfl] at hx326_0)
                            (try rw [Addr.add_zero'] at hx326_0)
                            (try rw [show ((0 : Int)).toNat = 0 from rfl] at hx326_1)
                            (try rw [show 0 * 2 = 0 from rfl] at hx326_1)
                            (try rw [Addr.add_zero'] at hx326_1)
                            replace hx326_0 := (HB.out.cell (World.block_lt_of_cell? w _ hx326_0)).trans hx326_0
                            replace hx326_1 := (HB.out.cell (World.block_lt_of_cell? w _ hx326_1)).trans hx326_1
                            replace p326 := eq_true p326
                            replace q326 := eq_true q326
                            have p327 : 0 ≤ ((ji47) : Int) := of_decide_eq_true (by first | (with_reducible assumption) | assumption)
                            have q327 : (ji47) < (l0.length : Int) := of_decide_eq_true (by first | (with_reducible assumption) | assumption)
                            obtain ⟨ad327, e327, hx327_0, hx327_1⟩ := at_T41 HR0.out (ji47) p327 q327
                            obtain rfl : ad326 = ad327 := (by injection e327)
                            replace hx327_0 := (HB.out.cell (World.block_lt_of_cell? w _ hx327_0)).trans hx327_0
                            replace hx327_1 := (HB.out.cell (World.block_lt_of_cell? w _ hx327_1)).trans hx327_1
                            replace p327 := eq_true p327
                            replace q327 := eq_true q327
                            go_wp2
                            go_meet
                            case rel => exact ⟨_, (decide (a1 > ((rd_T41 l0 (ji47)).f0))), (by first | rfl | (simp; done) | (simp only [← hji47] <;> (first | rfl | simp)) | (simp [*]; done)), H', ⟨by have := HJ3.out; have := HJ14.out; have := HJ22.out; first | omega | exact Nat.le_refl _⟩, ⟨by repeat (first | (with_reducible first | exact HB.out | apply below_alloc | apply pw_below_drewN | apply below_drew1) | exact HB.out)⟩⟩
                          · rw [if_neg c49] at H
                            exact absurd H (by simp)
                        · rw [if_neg c48] at H
                          exact absurd H (by simp)
                    · rw [if_neg c45] at H
                      exact absurd H (by simp)
                  case rest =>
                    clear HC44
                    try clear c1
                    try clear c2
                    try clear p2
                    try clear c3
                    try clear p3
                    try clear q3
                    try clear hx3
                    try clear qi3
                    try clear c4
                    try clear c6
                    try clear p6
                    try clear c8
                    try clear c8b0
                    try clear c8b1
                    try clear c11
                    try clear c12
                    try clear c15
                    try clear c17
                    try clear c17b0
                    try clear c17b1
                    try clear c18
                    try clear c18b0
                    try clear c20
                    try clear c20b0
                    try clear c21
                    try clear c21b0
                    try clear c22
                    try clear c24
                    try clear c24b0
                    try clear c24b1
                    try clear c28
                    try clear c28b0
                    try clear c28b1
                    try clear c29
                    try clear c29b0
                    try clear c30
                    try clear c30b0
                    try clear c30b1
                    try clear c31
                    try clear c31b0
                    try clear p31
                    try clear q31
                    try clear hx31
                    try clear qi31
                    try clear p32
                    try clear q32
                    try clear hx32
                    try clear qi32
                    try clear c33
                    try clear c33b0
                    try clear c34
                    try clear c34b0
                    try clear c35
                    try clear c36
                    try clear c36b0
                    try clear c36b1
                    try clear c37
                    try clear c37b0
                    try clear c39
                    try clear c39b0
                    try clear c39b1
                    try clear c40
                    try clear c40b0
                    try clear c45
                    try clear c45b0
                    try clear c45b1
                    try clear c46
                    try clear c46b0
                    try clear c48
                    try clear c48b0
                    try clear c49
                    try clear c49b0
                    try clear hx317_0
                    try clear hx317_1
                    try clear hx318_0
                    try clear hx318_1
                    try clear hx321_0
                    try clear hx321_1
                    try clear hx322_0
                    try clear hx322_1
                    try clear hx323_0
                    try clear hx323_1
                    try clear hx326_0
                    try clear hx326_1
                    try clear hx327_0
                    try clear hx327_1
                    try clear p2
                    try clear p3
                    try clear p31
                    try clear p317
                    try clear p318
                    try clear p32
                    try clear p321
                    try clear p322
                    try clear p323
                    try clear p326
                    try clear p327
                    try clear p6
                    try clear q3
                    try clear q31
                    try clear q317
                    try clear q318
                    try clear q32
                    try clear q321
                    try clear q322
                    try clear q323
                    try clear q326
                    try clear q327
                    obtain ⟨kq, x127_43, rfl, HA, HJ43, HB⟩ := hcut
                    cases kq with
                    | zero => exact absurd HA.out (by simp [papermilllaw14_AlignInverse.j4])
                    | succ kj43 =>
                      have H := HA.out
                      clear HA
                      simp only [papermilllaw14_AlignInverse.j4] at H
                      by_cases c50 : x127_43 = true
                      · subst c50
                        have H1 : ((papermilllaw14_awake.f kj43).bind fun t328 => (some t328)) = some r := by rw [if_pos rfl] at H; exact H
                        clear H
                        have H := H1
                        clear H1
                        replace H := Option.bind_eq_some_iff.mp H
                        obtain ⟨t328, A510, H⟩ := H
                        replace H : (some t328) = some r := H
                        have A51 := Aside0.mk A510
                        clear A510
                        first
                          | exact absurd ((Option.some.inj H).trans hr_.out) (by decide)
                          | (skip
                             obtain rfl := Option.some.inj H
                             go_wp2_with (first | ((with_reducible refine gate_callee (f := 12) rfl ?_); refine goesL_ (some 128) rfl rfl Try.func12 (by kernel_rfl) rfl #[] rfl (by (try simp only [List.map_toArray, List.map_cons, List.map_nil]); first | done | rfl | (simp only [List.length_drop, List.length_take]; rfl)) ?_; (with_reducible refine (papermilllaw14_awake.calls kj43  t328 _ A51.out).mono ?_); rintro e w52 ⟨rfl, hb⟩; refine ⟨_, rfl, ?_⟩; have n0_ := Aside0.mk (below_step (by repeat (first | (with_reducible first | exact HB.out | apply below_alloc | apply pw_below_drewN | apply below_drew1) | exact HB.out)) hb); clear HB; have HB := n0_; clear n0_; (try clear hb); (try clear hb2); (try clear hk); (try clear hi)))
                             go_ret
                             exact ⟨by first | rfl | (simp [errW_none, errW_some] <;> rfl) | (simp [*, errW_none, errW_some] <;> rfl), by repeat (first | (with_reducible first | exact HB.out | apply below_alloc | apply pw_below_drewN | apply below_drew1) | exact HB.out)⟩)
                      · replace c50 := Bool.eq_false_iff.mpr c50
                        subst c50
                        have H1 : ((align_Forward.f kj43 l0 a1).bind fun bt329 => ((align_Forward.f kj43 l0 (wrap64 (a1 - 1))).bind fun bt331 => (if bt329.2 = 0 then (if bt331.2 = 0 then (if bt331.1 ≤ bt329.1 then ((papermilllaw14_awake.f kj43).bind fun t333 => (some t333)) else (some false)) else (some false)) else (some false)))) = some r := by rw [if_neg (show ¬ (false = true) by decide)] at H; exact H
                        clear H
                        have H := H1
                        clear H1
                        replace H := Option.bind_eq_some_iff.mp H
                        obtain ⟨⟨t329, t330⟩, A530, H⟩ := H
                        replace H : ((align_Forward.f kj43 l0 (wrap64 (a1 - 1))).bind fun bt331 => (if t330 = 0 then (if bt331.2 = 0 then (if bt331.1 ≤ t329 then ((papermilllaw14_awake.f kj43).bind fun t333 => (some t333)) else (some false)) else (some false)) else (some false))) = some r := H
                        have A53 := Aside0.mk A530
                        clear A530
                        replace H := Option.bind_eq_some_iff.mp H
                        obtain ⟨⟨t331, t332⟩, A540, H⟩ := H
                        replace H : (if t330 = 0 then (if t332 = 0 then (if t331 ≤ t329 then ((papermilllaw14_awake.f kj43).bind fun t333 => (some t333)) else (some false)) else (some false)) else (some false)) = some r := H
                        have A54 := Aside0.mk A540
                        clear A540
                        by_cases c55 : t330 = 0
                        · rw [if_pos c55] at H
                          have c55b0 : (t330 == 0) = true := beq_iff_eq.mpr c55
                          have c55b1 : (t330 != 0) = false := bne_eq_false_iff_eq.mpr c55
                          clear c55
                          by_cases c56 : t332 = 0
                          · rw [if_pos c56] at H
                            have c56b0 : (t332 == 0) = true := beq_iff_eq.mpr c56
                            have c56b1 : (t332 != 0) = false := bne_eq_false_iff_eq.mpr c56
                            clear c56
                            by_cases c57 : t331 ≤ t329
                            · rw [if_pos c57] at H
                              have c57b0 : decide (t331 ≤ t329) = true := decide_eq_true c57
                              clear c57
                              replace H := Option.bind_eq_some_iff.mp H
                              obtain ⟨t333, A580, H⟩ := H
                              replace H : (some t333) = some r := H
                              have A58 := Aside0.mk A580
                              clear A580
                              first
                                | exact absurd ((Option.some.inj H).trans hr_.out) (by decide)
                                | (skip
                                   obtain rfl := Option.some.inj H
                                   go_wp2_with (first | ((with_reducible refine gate_callee (f := 15) rfl ?_); refine goesL_ (some 132) rfl rfl Try.func15 (by kernel_rfl) rfl #[.slice A0 l0.length c0, .int .i64 a1] rfl (by (try simp only [List.map_toArray, List.map_cons, List.map_nil]); first | done | rfl | (simp only [List.length_drop, List.length_take]; rfl)) ?_; (with_reducible refine (align_Forward.calls kj43 _ _ l0 a1 t329 t330 _ ?side1 ?side2 A53.out).mono ?_); (case side1 => repeat (first | exact (Kd.C_below HR0.out HB.out) | (with_reducible refine Kd.C_alloc ?_ _) | (with_reducible refine Kd.C_drewN ?_ _) | (with_reducible refine Kd.C_drew ?_))); (case side2 => exact HC0.out); rintro e w59 ⟨rfl, hb⟩; refine ⟨_, rfl, ?_⟩; have n0_ := Aside0.mk (below_step (by repeat (first | (with_reducible first | exact HB.out | apply below_alloc | apply pw_below_drewN | apply below_drew1) | exact HB.out)) hb); clear HB; have HB := n0_; clear n0_; (try clear hb); (try clear hb2); (try clear hk); (try clear hi)) | ((with_reducible refine gate_callee (f := 15) rfl ?_); refine goesL_ (some 139) rfl rfl Try.func15 (by kernel_rfl) rfl #[.slice A0 l0.length c0, .int .i64 (wrap64 (a1 - 1))] rfl (by (try simp only [List.map_toArray, List.map_cons, List.map_nil]); first | done | rfl | (simp only [List.length_drop, List.length_take]; rfl)) ?_; (with_reducible refine (align_Forward.calls kj43 _ _ l0 (wrap64 (a1 - 1)) t331 t332 _ ?side1 ?side2 A54.out).mono ?_); (case side1 => repeat (first | exact (Kd.C_below HR0.out HB.out) | (with_reducible refine Kd.C_alloc ?_ _) | (with_reducible refine Kd.C_drewN ?_ _) | (with_reducible refine Kd.C_drew ?_))); (case side2 => exact HC0.out); rintro e w60 ⟨rfl, hb⟩; refine ⟨_, rfl, ?_⟩; have n0_ := Aside0.mk (below_step (by repeat (first | (with_reducible first | exact HB.out | apply below_alloc | apply pw_below_drewN | apply below_drew1) | exact HB.out)) hb); clear HB; have HB := n0_; clear n0_; (try clear hb); (try clear hb2); (try clear hk); (try clear hi)) | (go_at_call 12; (with_reducible refine (papermilllaw14_awake.calls kj43  t333 _ A58.out).mono ?_); rintro e w61 ⟨rfl, hb⟩; have n0_ := Aside0.mk (below_step (by repeat (first | (with_reducible first | exact HB.out | apply below_alloc | apply pw_below_drewN | apply below_drew1) | exact HB.out)) hb); clear HB; have HB := n0_; clear n0_; (try clear hb); (try clear hb2); (try clear hk); (try clear hi)))
                                   go_ret
                                   exact ⟨by first | rfl | (simp [errW_none, errW_some] <;> rfl) | (simp [*, errW_none, errW_some] <;> rfl), by repeat (first | (with_reducible first | exact HB.out | apply below_alloc | apply pw_below_drewN | apply below_drew1) | exact HB.out)⟩)
                            · rw [if_neg c57] at H
                              have c57b0 : decide (t331 ≤ t329) = false := decide_eq_false c57
                              clear c57
                              exact absurd ((Option.some.inj H).trans hr_.out) (by decide)
                          · rw [if_neg c56] at H
                            have c56b0 : (t332 == 0) = false := beq_eq_false_iff_ne.mpr c56
                            have c56b1 : (t332 != 0) = true := bne_iff_ne.mpr c56
                            exact absurd ((Option.some.inj H).trans hr_.out) (by decide)
                        · rw [if_neg c55] at H
                          have c55b0 : (t330 == 0) = false := beq_eq_false_iff_ne.mpr c55
                          have c55b1 : (t330 != 0) = true := bne_iff_ne.mpr c55
                          exact absurd ((Option.some.inj H).trans hr_.out) (by decide)

end Go.Proofs.Ythdjlejljipjmaa.P
