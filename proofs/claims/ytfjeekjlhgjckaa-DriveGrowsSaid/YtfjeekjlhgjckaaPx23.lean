-- Written by a program (wip/prog/pp.py) over the kit's print; some of its functions are proved by hand. Not trusted: Lean checks it.
import Derived.Test.YtfjeekjlhgjckaaPx0
import Derived.Test.YtfjeekjlhgjckaaPx3
import Derived.Test.YtfjeekjlhgjckaaPx5
import Derived.Test.YtfjeekjlhgjckaaPx9
import Derived.Test.YtfjeekjlhgjckaaPx21
namespace Go.Proofs.Ytfjeekjlhgjckaa.P
open Go.RowKit Go.Proofs.YtfjeekjlhgjckaaW.PrintWords Go.Proofs.YtfjeekjlhgjckaaW.PrintLast Go.Proofs.YtfjeekjlhgjckaaW.PrintMore
attribute [local go_sem] max2_int min2_int max_two min_two max_three min_three max_four min_four   -- for this text's walks alone
set_option linter.unusedVariables false
set_option linter.unusedSimpArgs false

/-! ### papermilllaw29_DriveGrows: function 10 -/
mutual
def papermilllaw29_DriveGrows.j0 : Nat → List (S42) → Int → Bool → Option (Bool)
  | 0, _, _, _ => none
  | k + 1, x0, x1, x20 => if x20 = true then ((papermilllaw29_awake.f k).bind fun t287 => (some t287)) else ((drive_Length.f k x0 x1).bind fun bt288 => ((drive_Length.f k x0 (wrap64 (x1 + 1))).bind fun bt290 => ((drive_Speed.f k x0 x1).bind fun bt292 => (if bt288.2 = 0 then (if bt292.2 = 0 then (if bt292.1 < 0 then (papermilllaw29_DriveGrows.j1 k bt288.1 bt290.1 bt290.2 bt292.1 true) else (papermilllaw29_DriveGrows.j1 k bt288.1 bt290.1 bt290.2 bt292.1 (decide (bt292.1 > 40000)))) else (papermilllaw29_DriveGrows.j1 k bt288.1 bt290.1 bt290.2 bt292.1 true)) else (if bt288.1 = 0 then (if bt290.2 = bt288.2 then ((papermilllaw29_awake.f k).bind fun t294 => (some t294)) else (if bt288.2 = 21 then ((papermilllaw29_awake.f k).bind fun t295 => (some t295)) else (some false))) else (some false))))))
def papermilllaw29_DriveGrows.j1 : Nat → Int → Int → Int → Int → Bool → Option (Bool)
  | 0, _, _, _, _, _ => none
  | k + 1, x5, x7, x8, x9, x66 => if x66 = true then (some false) else (if x8 = 0 then (if x7 = (wrap64 (x5 + x9)) then ((papermilllaw29_awake.f k).bind fun t296 => (some t296)) else (some false)) else (if x8 = 21 then (if (wrap64 (x5 + x9)) > 17179869184 then ((papermilllaw29_awake.f k).bind fun t297 => (some t297)) else (some false)) else (some false)))
end
def papermilllaw29_DriveGrows.f (k : Nat) (l0 : List (S42)) (a1 : Int) : Option (Bool) := (papermilllaw29_great.f l0).bind fun t286 => (if t286 = true then (papermilllaw29_DriveGrows.j0 k l0 a1 true) else (if a1 < 0 then (papermilllaw29_DriveGrows.j0 k l0 a1 true) else (papermilllaw29_DriveGrows.j0 k l0 a1 (decide (a1 > 2147483647)))))
theorem papermilllaw29_DriveGrows.mono_l : ∀ k, (∀ y0 y1 y2, LeO (papermilllaw29_DriveGrows.j0 k y0 y1 y2) (papermilllaw29_DriveGrows.j0 (k + 1) y0 y1 y2)) ∧ (∀ y0 y1 y2 y3 y4, LeO (papermilllaw29_DriveGrows.j1 k y0 y1 y2 y3 y4) (papermilllaw29_DriveGrows.j1 (k + 1) y0 y1 y2 y3 y4))
  | 0 => ⟨fun _ _ _ r h => by simp [papermilllaw29_DriveGrows.j0] at h, fun _ _ _ _ _ r h => by simp [papermilllaw29_DriveGrows.j1] at h⟩
  | k + 1 => by
    obtain ⟨ih0, ih1⟩ := papermilllaw29_DriveGrows.mono_l k
    refine ⟨?_, ?_⟩
    · intro y0 y1 y2
      unfold papermilllaw29_DriveGrows.j0
      repeat' first
      | (with_reducible exact ih0 _ _ _)
      | (with_reducible exact ih1 _ _ _ _ _)
      | (with_reducible exact drive_Length.mono _ _ _)
      | (with_reducible exact drive_Speed.mono _ _ _)
      | (with_reducible exact papermilllaw29_awake.mono _)
      | (with_reducible exact LeO.refl _)
      | (with_reducible exact LeO.none _)
      | (with_reducible refine LeO.ite ?_ ?_)
      | (with_reducible refine LeO.bind ?_ (fun _ => ?_))
      | exact ih0 _ _ _
      | exact ih1 _ _ _ _ _
      | exact drive_Length.mono _ _ _
      | exact drive_Speed.mono _ _ _
      | exact papermilllaw29_awake.mono _
      | exact LeO.none _
      | refine LeO.ite ?_ ?_
      | refine LeO.bind ?_ (fun _ => ?_)
    · intro y0 y1 y2 y3 y4
      unfold papermilllaw29_DriveGrows.j1
      repeat' first
      | (with_reducible exact ih0 _ _ _)
      | (with_reducible exact ih1 _ _ _ _ _)
      | (with_reducible exact drive_Length.mono _ _ _)
      | (with_reducible exact drive_Speed.mono _ _ _)
      | (with_reducible exact papermilllaw29_awake.mono _)
      | (with_reducible exact LeO.refl _)
      | (with_reducible exact LeO.none _)
      | (with_reducible refine LeO.ite ?_ ?_)
      | (with_reducible refine LeO.bind ?_ (fun _ => ?_))
      | exact ih0 _ _ _
      | exact ih1 _ _ _ _ _
      | exact drive_Length.mono _ _ _
      | exact drive_Speed.mono _ _ _
      | exact papermilllaw29_awake.mono _
      | exact LeO.none _
      | refine LeO.ite ?_ ?_
      | refine LeO.bind ?_ (fun _ => ?_)
theorem papermilllaw29_DriveGrows.mono : ∀ a0 a1 k, LeO (papermilllaw29_DriveGrows.f k a0 a1) (papermilllaw29_DriveGrows.f (k + 1) a0 a1) := by
  intro a0 a1 k
  obtain ⟨ih0, ih1⟩ := papermilllaw29_DriveGrows.mono_l k
  unfold papermilllaw29_DriveGrows.f
  repeat' first
      | (with_reducible exact ih0 _ _ _)
      | (with_reducible exact ih1 _ _ _ _ _)
      | (with_reducible exact drive_Length.mono _ _ _)
      | (with_reducible exact drive_Speed.mono _ _ _)
      | (with_reducible exact papermilllaw29_awake.mono _)
      | (with_reducible exact LeO.refl _)
      | (with_reducible exact LeO.none _)
      | (with_reducible refine LeO.ite ?_ ?_)
      | (with_reducible refine LeO.bind ?_ (fun _ => ?_))
      | exact ih0 _ _ _
      | exact ih1 _ _ _ _ _
      | exact drive_Length.mono _ _ _
      | exact drive_Speed.mono _ _ _
      | exact papermilllaw29_awake.mono _
      | exact LeO.none _
      | refine LeO.ite ?_ ?_
      | refine LeO.bind ?_ (fun _ => ?_)
set_option maxHeartbeats 8000000 in
set_option maxRecDepth 100000 in
theorem papermilllaw29_DriveGrows.calls (k : Nat) (A0 : Option Addr) (c0 : Nat) (l0 : List (S42)) (a1 : Int) (r : Bool) (w : World) (hr0 : Kd.C k42 w A0 l0.length l0) (hc0 : l0.length ≤ c0) (hr_ : Aside0 (r = true)) (h : papermilllaw29_DriveGrows.f k l0 a1 = some r) :
    Calls Try.prog 10 #[.slice A0 l0.length c0, .int .i64 a1] w fun e w' => e = .returned (.bool r) ∧ Below w.heap.size w w' := by
  have HR0 := Aside0.mk hr0
  have HC0 := Aside0.mk hc0
  clear hr0 hc0
  have HB := Aside0.mk (Below.refl w.heap.size w)
  have H : ((papermilllaw29_great.f l0).bind fun t286 => (if t286 = true then (papermilllaw29_DriveGrows.j0 k l0 a1 true) else (if a1 < 0 then (papermilllaw29_DriveGrows.j0 k l0 a1 true) else (papermilllaw29_DriveGrows.j0 k l0 a1 (decide (a1 > 2147483647)))))) = some r := h
  clear h
  have HC3 := Aside0.mk H
  clear H
  go_enter Try.func10, Try.ntmps10
  go_upto_region 1 with (fail)
  go_cut [20] (fun v20 wc => ∃ (kq : Nat) (x20_2 : Bool), v20 = .bool x20_2 ∧ Aside0 (papermilllaw29_DriveGrows.j0 kq l0 a1 x20_2 = some r) ∧ Aside0 (kq ≤ k) ∧ Aside0 (Below w.heap.size w wc))
  case first =>
    have H := HC3.out
    clear HC3
    replace H := Option.bind_eq_some_iff.mp H
    obtain ⟨t286, A40, H⟩ := H
    replace H : (if t286 = true then (papermilllaw29_DriveGrows.j0 k l0 a1 true) else (if a1 < 0 then (papermilllaw29_DriveGrows.j0 k l0 a1 true) else (papermilllaw29_DriveGrows.j0 k l0 a1 (decide (a1 > 2147483647))))) = some r := H
    have A4 := Aside0.mk A40
    clear A40
    by_cases c5 : t286 = true
    · subst c5
      have H1 : (papermilllaw29_DriveGrows.j0 k l0 a1 true) = some r := by rw [if_pos rfl] at H; exact H
      clear H
      have H := H1
      clear H1
      have H' := Aside0.mk H
      clear H
      go_wp2_with (first | ((with_reducible refine gate_callee (f := 12) rfl ?_); refine goesL_ (some 12) rfl rfl Try.func12 (by kernel_rfl) rfl #[.slice A0 l0.length c0] rfl (by (try simp only [List.map_toArray, List.map_cons, List.map_nil]); first | done | rfl | (simp only [List.length_drop, List.length_take]; rfl)) ?_; (with_reducible refine (papermilllaw29_great.calls _ _ l0 true _ ?side1 ?side2 A4.out).mono ?_); (case side1 => repeat (first | exact (Kd.C_below HR0.out HB.out) | (with_reducible refine Kd.C_alloc ?_ _) | (with_reducible refine Kd.C_drewN ?_ _) | (with_reducible refine Kd.C_drew ?_))); (case side2 => exact HC0.out); rintro e w' ⟨rfl, ⟨nd, rfl⟩⟩; refine ⟨_, rfl, ?_⟩))
      go_meet
      case rel => exact ⟨_, (true), (by first | rfl | (simp; done) | (simp [*]; done)), H', ⟨by first | omega | exact Nat.le_refl _⟩, ⟨by repeat (first | (with_reducible first | exact HB.out | apply below_alloc | apply pw_below_drewN | apply below_drew1) | exact HB.out)⟩⟩
    · replace c5 := Bool.eq_false_iff.mpr c5
      subst c5
      have H1 : (if a1 < 0 then (papermilllaw29_DriveGrows.j0 k l0 a1 true) else (papermilllaw29_DriveGrows.j0 k l0 a1 (decide (a1 > 2147483647)))) = some r := by rw [if_neg (show ¬ (false = true) by decide)] at H; exact H
      clear H
      have H := H1
      clear H1
      by_cases c6 : a1 < 0
      · rw [if_pos c6] at H
        have c6b0 : decide (a1 < 0) = true := decide_eq_true c6
        clear c6
        (first | rw [c6b0] | (simp only [i64_w, i32_w]; rw [c6b0]) | skip)
        have H' := Aside0.mk H
        clear H
        go_wp2_with (first | ((with_reducible refine gate_callee (f := 12) rfl ?_); refine goesL_ (some 12) rfl rfl Try.func12 (by kernel_rfl) rfl #[.slice A0 l0.length c0] rfl (by (try simp only [List.map_toArray, List.map_cons, List.map_nil]); first | done | rfl | (simp only [List.length_drop, List.length_take]; rfl)) ?_; (with_reducible refine (papermilllaw29_great.calls _ _ l0 false _ ?side1 ?side2 A4.out).mono ?_); (case side1 => repeat (first | exact (Kd.C_below HR0.out HB.out) | (with_reducible refine Kd.C_alloc ?_ _) | (with_reducible refine Kd.C_drewN ?_ _) | (with_reducible refine Kd.C_drew ?_))); (case side2 => exact HC0.out); rintro e w' ⟨rfl, ⟨nd, rfl⟩⟩; refine ⟨_, rfl, ?_⟩))
        go_meet
        case rel => exact ⟨_, (true), (by first | rfl | (simp; done) | (simp [*]; done)), H', ⟨by first | omega | exact Nat.le_refl _⟩, ⟨by repeat (first | (with_reducible first | exact HB.out | apply below_alloc | apply pw_below_drewN | apply below_drew1) | exact HB.out)⟩⟩
      · rw [if_neg c6] at H
        have c6b0 : decide (a1 < 0) = false := decide_eq_false c6
        clear c6
        (first | rw [c6b0] | (simp only [i64_w, i32_w]; rw [c6b0]) | skip)
        have H' := Aside0.mk H
        clear H
        go_wp2_with (first | ((with_reducible refine gate_callee (f := 12) rfl ?_); refine goesL_ (some 12) rfl rfl Try.func12 (by kernel_rfl) rfl #[.slice A0 l0.length c0] rfl (by (try simp only [List.map_toArray, List.map_cons, List.map_nil]); first | done | rfl | (simp only [List.length_drop, List.length_take]; rfl)) ?_; (with_reducible refine (papermilllaw29_great.calls _ _ l0 false _ ?side1 ?side2 A4.out).mono ?_); (case side1 => repeat (first | exact (Kd.C_below HR0.out HB.out) | (with_reducible refine Kd.C_alloc ?_ _) | (with_reducible refine Kd.C_drewN ?_ _) | (with_reducible refine Kd.C_drew ?_))); (case side2 => exact HC0.out); rintro e w' ⟨rfl, ⟨nd, rfl⟩⟩; refine ⟨_, rfl, ?_⟩))
        go_meet
        case rel => exact ⟨_, (decide (a1 > 2147483647)), (by first | rfl | (simp; done) | (simp [*]; done)), H', ⟨by first | omega | exact Nat.le_refl _⟩, ⟨by repeat (first | (with_reducible first | exact HB.out | apply below_alloc | apply pw_below_drewN | apply below_drew1) | exact HB.out)⟩⟩
  case rest =>
    clear HC3
    try clear c1
    try clear p2
    try clear c5
    try clear c6
    try clear c6b0
    obtain ⟨kq, x20_2, rfl, HA, HJ2, HB⟩ := hcut
    cases kq with
    | zero => exact absurd HA.out (by simp [papermilllaw29_DriveGrows.j0])
    | succ kj2 =>
      have H := HA.out
      clear HA
      simp only [papermilllaw29_DriveGrows.j0] at H
      by_cases c7 : x20_2 = true
      · subst c7
        have H1 : ((papermilllaw29_awake.f kj2).bind fun t287 => (some t287)) = some r := by rw [if_pos rfl] at H; exact H
        clear H
        have H := H1
        clear H1
        replace H := Option.bind_eq_some_iff.mp H
        obtain ⟨t287, A80, H⟩ := H
        replace H : (some t287) = some r := H
        have A8 := Aside0.mk A80
        clear A80
        first
          | exact absurd ((Option.some.inj H).trans hr_.out) (by decide)
          | (skip
             obtain rfl := Option.some.inj H
             go_wp2_with (first | ((with_reducible refine gate_callee (f := 13) rfl ?_); refine goesL_ (some 21) rfl rfl Try.func13 (by kernel_rfl) rfl #[] rfl (by (try simp only [List.map_toArray, List.map_cons, List.map_nil]); first | done | rfl | (simp only [List.length_drop, List.length_take]; rfl)) ?_; (with_reducible refine (papermilllaw29_awake.calls kj2  t287 _ A8.out).mono ?_); rintro e w9 ⟨rfl, hb⟩; refine ⟨_, rfl, ?_⟩; have n0_ := Aside0.mk (below_step (by repeat (first | (with_reducible first | exact HB.out | apply below_alloc | apply pw_below_drewN | apply below_drew1) | exact HB.out)) hb); clear HB; have HB := n0_; clear n0_; (try clear hb); (try clear hb2); (try clear hk); (try clear hi)))
             go_ret
             exact ⟨by first | rfl | (simp [errW_none, errW_some] <;> rfl) | (simp [*, errW_none, errW_some] <;> rfl), by repeat (first | (with_reducible first | exact HB.out | apply below_alloc | apply pw_below_drewN | apply below_drew1) | exact HB.out)⟩)
      · replace c7 := Bool.eq_false_iff.mpr c7
        subst c7
        have H1 : ((drive_Length.f kj2 l0 a1).bind fun bt288 => ((drive_Length.f kj2 l0 (wrap64 (a1 + 1))).bind fun bt290 => ((drive_Speed.f kj2 l0 a1).bind fun bt292 => (if bt288.2 = 0 then (if bt292.2 = 0 then (if bt292.1 < 0 then (papermilllaw29_DriveGrows.j1 kj2 bt288.1 bt290.1 bt290.2 bt292.1 true) else (papermilllaw29_DriveGrows.j1 kj2 bt288.1 bt290.1 bt290.2 bt292.1 (decide (bt292.1 > 40000)))) else (papermilllaw29_DriveGrows.j1 kj2 bt288.1 bt290.1 bt290.2 bt292.1 true)) else (if bt288.1 = 0 then (if bt290.2 = bt288.2 then ((papermilllaw29_awake.f kj2).bind fun t294 => (some t294)) else (if bt288.2 = 21 then ((papermilllaw29_awake.f kj2).bind fun t295 => (some t295)) else (some false))) else (some false)))))) = some r := by rw [if_neg (show ¬ (false = true) by decide)] at H; exact H
        clear H
        have H := H1
        clear H1
        replace H := Option.bind_eq_some_iff.mp H
        obtain ⟨⟨t288, t289⟩, A100, H⟩ := H
        replace H : ((drive_Length.f kj2 l0 (wrap64 (a1 + 1))).bind fun bt290 => ((drive_Speed.f kj2 l0 a1).bind fun bt292 => (if t289 = 0 then (if bt292.2 = 0 then (if bt292.1 < 0 then (papermilllaw29_DriveGrows.j1 kj2 t288 bt290.1 bt290.2 bt292.1 true) else (papermilllaw29_DriveGrows.j1 kj2 t288 bt290.1 bt290.2 bt292.1 (decide (bt292.1 > 40000)))) else (papermilllaw29_DriveGrows.j1 kj2 t288 bt290.1 bt290.2 bt292.1 true)) else (if t288 = 0 then (if bt290.2 = t289 then ((papermilllaw29_awake.f kj2).bind fun t294 => (some t294)) else (if t289 = 21 then ((papermilllaw29_awake.f kj2).bind fun t295 => (some t295)) else (some false))) else (some false))))) = some r := H
        have A10 := Aside0.mk A100
        clear A100
        replace H := Option.bind_eq_some_iff.mp H
        obtain ⟨⟨t290, t291⟩, A110, H⟩ := H
        replace H : ((drive_Speed.f kj2 l0 a1).bind fun bt292 => (if t289 = 0 then (if bt292.2 = 0 then (if bt292.1 < 0 then (papermilllaw29_DriveGrows.j1 kj2 t288 t290 t291 bt292.1 true) else (papermilllaw29_DriveGrows.j1 kj2 t288 t290 t291 bt292.1 (decide (bt292.1 > 40000)))) else (papermilllaw29_DriveGrows.j1 kj2 t288 t290 t291 bt292.1 true)) else (if t288 = 0 then (if t291 = t289 then ((papermilllaw29_awake.f kj2).bind fun t294 => (some t294)) else (if t289 = 21 then ((papermilllaw29_awake.f kj2).bind fun t295 => (some t295)) else (some false))) else (some false)))) = some r := H
        have A11 := Aside0.mk A110
        clear A110
        replace H := Option.bind_eq_some_iff.mp H
        obtain ⟨⟨t292, t293⟩, A120, H⟩ := H
        replace H : (if t289 = 0 then (if t293 = 0 then (if t292 < 0 then (papermilllaw29_DriveGrows.j1 kj2 t288 t290 t291 t292 true) else (papermilllaw29_DriveGrows.j1 kj2 t288 t290 t291 t292 (decide (t292 > 40000)))) else (papermilllaw29_DriveGrows.j1 kj2 t288 t290 t291 t292 true)) else (if t288 = 0 then (if t291 = t289 then ((papermilllaw29_awake.f kj2).bind fun t294 => (some t294)) else (if t289 = 21 then ((papermilllaw29_awake.f kj2).bind fun t295 => (some t295)) else (some false))) else (some false))) = some r := H
        have A12 := Aside0.mk A120
        clear A120
        by_cases c13 : t289 = 0
        · rw [if_pos c13] at H
          have c13b0 : (t289 == 0) = true := beq_iff_eq.mpr c13
          have c13b1 : (t289 != 0) = false := bne_eq_false_iff_eq.mpr c13
          clear c13
          have HC14 := Aside0.mk H
          clear H
          go_upto_region 8 with (first | ((with_reducible refine gate_callee (f := 14) rfl ?_); refine goesL_ (some 25) rfl rfl Try.func14 (by kernel_rfl) rfl #[.slice A0 l0.length c0, .int .i64 a1] rfl (by (try simp only [List.map_toArray, List.map_cons, List.map_nil]); first | done | rfl | (simp only [List.length_drop, List.length_take]; rfl)) ?_; (with_reducible refine (drive_Length.calls kj2 _ _ l0 a1 t288 t289 _ ?side1 ?side2 A10.out).mono ?_); (case side1 => repeat (first | exact (Kd.C_below HR0.out HB.out) | (with_reducible refine Kd.C_alloc ?_ _) | (with_reducible refine Kd.C_drewN ?_ _) | (with_reducible refine Kd.C_drew ?_))); (case side2 => exact HC0.out); rintro e w15 ⟨rfl, hb⟩; refine ⟨_, rfl, ?_⟩; have n0_ := Aside0.mk (below_step (by repeat (first | (with_reducible first | exact HB.out | apply below_alloc | apply pw_below_drewN | apply below_drew1) | exact HB.out)) hb); clear HB; have HB := n0_; clear n0_; (try clear hb); (try clear hb2); (try clear hk); (try clear hi)) | ((with_reducible refine gate_callee (f := 14) rfl ?_); refine goesL_ (some 32) rfl rfl Try.func14 (by kernel_rfl) rfl #[.slice A0 l0.length c0, .int .i64 (wrap64 (a1 + 1))] rfl (by (try simp only [List.map_toArray, List.map_cons, List.map_nil]); first | done | rfl | (simp only [List.length_drop, List.length_take]; rfl)) ?_; (with_reducible refine (drive_Length.calls kj2 _ _ l0 (wrap64 (a1 + 1)) t290 t291 _ ?side1 ?side2 A11.out).mono ?_); (case side1 => repeat (first | exact (Kd.C_below HR0.out HB.out) | (with_reducible refine Kd.C_alloc ?_ _) | (with_reducible refine Kd.C_drewN ?_ _) | (with_reducible refine Kd.C_drew ?_))); (case side2 => exact HC0.out); rintro e w16 ⟨rfl, hb⟩; refine ⟨_, rfl, ?_⟩; have n0_ := Aside0.mk (below_step (by repeat (first | (with_reducible first | exact HB.out | apply below_alloc | apply pw_below_drewN | apply below_drew1) | exact HB.out)) hb); clear HB; have HB := n0_; clear n0_; (try clear hb); (try clear hb2); (try clear hk); (try clear hi)) | ((with_reducible refine gate_callee (f := 24) rfl ?_); refine goesL_ (some 38) rfl rfl Try.func24 (by kernel_rfl) rfl #[.slice A0 l0.length c0, .int .i64 a1] rfl (by (try simp only [List.map_toArray, List.map_cons, List.map_nil]); first | done | rfl | (simp only [List.length_drop, List.length_take]; rfl)) ?_; (with_reducible refine (drive_Speed.calls kj2 _ _ l0 a1 t292 t293 _ ?side1 ?side2 A12.out).mono ?_); (case side1 => repeat (first | exact (Kd.C_below HR0.out HB.out) | (with_reducible refine Kd.C_alloc ?_ _) | (with_reducible refine Kd.C_drewN ?_ _) | (with_reducible refine Kd.C_drew ?_))); (case side2 => exact HC0.out); rintro e w17 ⟨rfl, hb⟩; refine ⟨_, rfl, ?_⟩; have n0_ := Aside0.mk (below_step (by repeat (first | (with_reducible first | exact HB.out | apply below_alloc | apply pw_below_drewN | apply below_drew1) | exact HB.out)) hb); clear HB; have HB := n0_; clear n0_; (try clear hb); (try clear hb2); (try clear hk); (try clear hi)))
          (try simp only [Act.put, List.setIfInBounds_toArray, List.set_cons_zero, List.set_cons_succ])
          go_cut [66] (fun v66 wc => ∃ (kq : Nat) (x66_13 : Bool), v66 = .bool x66_13 ∧ Aside0 (papermilllaw29_DriveGrows.j1 kq t288 t290 t291 t292 x66_13 = some r) ∧ Aside0 (kq ≤ kj2) ∧ Aside0 (Below w.heap.size w wc))
          case first =>
            have H := HC14.out
            clear HC14
            by_cases c18 : t293 = 0
            · rw [if_pos c18] at H
              have c18b0 : (t293 == 0) = true := beq_iff_eq.mpr c18
              have c18b1 : (t293 != 0) = false := bne_eq_false_iff_eq.mpr c18
              clear c18
              (first | rw [c18b0] | (simp only [i64_w, i32_w]; rw [c18b0]) | skip)
              by_cases c19 : t292 < 0
              · rw [if_pos c19] at H
                have c19b0 : decide (t292 < 0) = true := decide_eq_true c19
                clear c19
                have H' := Aside0.mk H
                clear H
                go_wp2
                go_meet
                case rel => exact ⟨_, (true), (by first | rfl | (simp; done) | (simp [*]; done)), H', ⟨by have := HJ2.out; first | omega | exact Nat.le_refl _⟩, ⟨by repeat (first | (with_reducible first | exact HB.out | apply below_alloc | apply pw_below_drewN | apply below_drew1) | exact HB.out)⟩⟩
              · rw [if_neg c19] at H
                have c19b0 : decide (t292 < 0) = false := decide_eq_false c19
                clear c19
                have H' := Aside0.mk H
                clear H
                go_wp2
                go_meet
                case rel => exact ⟨_, (decide (t292 > 40000)), (by first | rfl | (simp; done) | (simp [*]; done)), H', ⟨by have := HJ2.out; first | omega | exact Nat.le_refl _⟩, ⟨by repeat (first | (with_reducible first | exact HB.out | apply below_alloc | apply pw_below_drewN | apply below_drew1) | exact HB.out)⟩⟩
            · rw [if_neg c18] at H
              have c18b0 : (t293 == 0) = false := beq_eq_false_iff_ne.mpr c18
              have c18b1 : (t293 != 0) = true := bne_iff_ne.mpr c18
              (first | rw [c18b0] | (simp only [i64_w, i32_w]; rw [c18b0]) | skip)
              have H' := Aside0.mk H
              clear H
              go_wp2
              go_meet
              case rel => exact ⟨_, (true), (by first | rfl | (simp; done) | (simp [*]; done)), H', ⟨by have := HJ2.out; first | omega | exact Nat.le_refl _⟩, ⟨by repeat (first | (with_reducible first | exact HB.out | apply below_alloc | apply pw_below_drewN | apply below_drew1) | exact HB.out)⟩⟩
          case rest =>
            clear HC14
            try clear c1
            try clear c2
            try clear p2
            try clear c5
            try clear c6
            try clear c6b0
            try clear p6
            try clear c7
            try clear c10
            try clear c12
            try clear c13
            try clear c13b0
            try clear c13b1
            try clear c14
            try clear c18
            try clear c18b0
            try clear c18b1
            try clear c19
            try clear c19b0
            try clear p2
            obtain ⟨kq, x66_13, rfl, HA, HJ13, HB⟩ := hcut
            cases kq with
            | zero => exact absurd HA.out (by simp [papermilllaw29_DriveGrows.j1])
            | succ kj13 =>
              have H := HA.out
              clear HA
              simp only [papermilllaw29_DriveGrows.j1] at H
              by_cases c20 : x66_13 = true
              · subst c20
                have H1 : (some false) = some r := by rw [if_pos rfl] at H; exact H
                clear H
                have H := H1
                clear H1
                exact absurd ((Option.some.inj H).trans hr_.out) (by decide)
              · replace c20 := Bool.eq_false_iff.mpr c20
                subst c20
                have H1 : (if t291 = 0 then (if t290 = (wrap64 (t288 + t292)) then ((papermilllaw29_awake.f kj13).bind fun t296 => (some t296)) else (some false)) else (if t291 = 21 then (if (wrap64 (t288 + t292)) > 17179869184 then ((papermilllaw29_awake.f kj13).bind fun t297 => (some t297)) else (some false)) else (some false))) = some r := by rw [if_neg (show ¬ (false = true) by decide)] at H; exact H
                clear H
                have H := H1
                clear H1
                by_cases c21 : t291 = 0
                · rw [if_pos c21] at H
                  have c21b0 : (t291 == 0) = true := beq_iff_eq.mpr c21
                  have c21b1 : (t291 != 0) = false := bne_eq_false_iff_eq.mpr c21
                  clear c21
                  by_cases c22 : t290 = (wrap64 (t288 + t292))
                  · rw [if_pos c22] at H
                    have c22b0 : (t290 == (wrap64 (t288 + t292))) = true := beq_iff_eq.mpr c22
                    have c22b1 : (t290 != (wrap64 (t288 + t292))) = false := bne_eq_false_iff_eq.mpr c22
                    clear c22
                    replace H := Option.bind_eq_some_iff.mp H
                    obtain ⟨t296, A230, H⟩ := H
                    replace H : (some t296) = some r := H
                    have A23 := Aside0.mk A230
                    clear A230
                    first
                      | exact absurd ((Option.some.inj H).trans hr_.out) (by decide)
                      | (skip
                         obtain rfl := Option.some.inj H
                         go_wp2_with (first | (go_at_call 13; (with_reducible refine (papermilllaw29_awake.calls kj13  t296 _ A23.out).mono ?_); rintro e w24 ⟨rfl, hb⟩; have n0_ := Aside0.mk (below_step (by repeat (first | (with_reducible first | exact HB.out | apply below_alloc | apply pw_below_drewN | apply below_drew1) | exact HB.out)) hb); clear HB; have HB := n0_; clear n0_; (try clear hb); (try clear hb2); (try clear hk); (try clear hi)))
                         go_ret
                         exact ⟨by first | rfl | (simp [errW_none, errW_some] <;> rfl) | (simp [*, errW_none, errW_some] <;> rfl), by repeat (first | (with_reducible first | exact HB.out | apply below_alloc | apply pw_below_drewN | apply below_drew1) | exact HB.out)⟩)
                  · rw [if_neg c22] at H
                    have c22b0 : (t290 == (wrap64 (t288 + t292))) = false := beq_eq_false_iff_ne.mpr c22
                    have c22b1 : (t290 != (wrap64 (t288 + t292))) = true := bne_iff_ne.mpr c22
                    exact absurd ((Option.some.inj H).trans hr_.out) (by decide)
                · rw [if_neg c21] at H
                  have c21b0 : (t291 == 0) = false := beq_eq_false_iff_ne.mpr c21
                  have c21b1 : (t291 != 0) = true := bne_iff_ne.mpr c21
                  by_cases c25 : t291 = 21
                  · rw [if_pos c25] at H
                    have c25b0 : (t291 == 21) = true := beq_iff_eq.mpr c25
                    have c25b1 : (t291 != 21) = false := bne_eq_false_iff_eq.mpr c25
                    clear c25
                    by_cases c26 : (wrap64 (t288 + t292)) > 17179869184
                    · rw [if_pos c26] at H
                      have c26b0 : decide (17179869184 < (wrap64 (t288 + t292))) = true := decide_eq_true c26
                      clear c26
                      replace H := Option.bind_eq_some_iff.mp H
                      obtain ⟨t297, A270, H⟩ := H
                      replace H : (some t297) = some r := H
                      have A27 := Aside0.mk A270
                      clear A270
                      first
                        | exact absurd ((Option.some.inj H).trans hr_.out) (by decide)
                        | (skip
                           obtain rfl := Option.some.inj H
                           go_wp2_with (first | (go_at_call 13; (with_reducible refine (papermilllaw29_awake.calls kj13  t297 _ A27.out).mono ?_); rintro e w28 ⟨rfl, hb⟩; have n0_ := Aside0.mk (below_step (by repeat (first | (with_reducible first | exact HB.out | apply below_alloc | apply pw_below_drewN | apply below_drew1) | exact HB.out)) hb); clear HB; have HB := n0_; clear n0_; (try clear hb); (try clear hb2); (try clear hk); (try clear hi)))
                           go_ret
                           exact ⟨by first | rfl | (simp [errW_none, errW_some] <;> rfl) | (simp [*, errW_none, errW_some] <;> rfl), by repeat (first | (with_reducible first | exact HB.out | apply below_alloc | apply pw_below_drewN | apply below_drew1) | exact HB.out)⟩)
                    · rw [if_neg c26] at H
                      have c26b0 : decide (17179869184 < (wrap64 (t288 + t292))) = false := decide_eq_false c26
                      clear c26
                      exact absurd ((Option.some.inj H).trans hr_.out) (by decide)
                  · rw [if_neg c25] at H
                    have c25b0 : (t291 == 21) = false := beq_eq_false_iff_ne.mpr c25
                    have c25b1 : (t291 != 21) = true := bne_iff_ne.mpr c25
                    exact absurd ((Option.some.inj H).trans hr_.out) (by decide)
        · rw [if_neg c13] at H
          have c13b0 : (t289 == 0) = false := beq_eq_false_iff_ne.mpr c13
          have c13b1 : (t289 != 0) = true := bne_iff_ne.mpr c13
          by_cases c29 : t288 = 0
          · rw [if_pos c29] at H
            have c29b0 : (t288 == 0) = true := beq_iff_eq.mpr c29
            have c29b1 : (t288 != 0) = false := bne_eq_false_iff_eq.mpr c29
            clear c29
            by_cases c30 : t291 = t289
            · rw [if_pos c30] at H
              have c30b0 : (t291 == t289) = true := beq_iff_eq.mpr c30
              have c30b1 : (t291 != t289) = false := bne_eq_false_iff_eq.mpr c30
              clear c30
              replace H := Option.bind_eq_some_iff.mp H
              obtain ⟨t294, A310, H⟩ := H
              replace H : (some t294) = some r := H
              have A31 := Aside0.mk A310
              clear A310
              first
                | exact absurd ((Option.some.inj H).trans hr_.out) (by decide)
                | (skip
                   obtain rfl := Option.some.inj H
                   go_wp2_with (first | ((with_reducible refine gate_callee (f := 14) rfl ?_); refine goesL_ (some 25) rfl rfl Try.func14 (by kernel_rfl) rfl #[.slice A0 l0.length c0, .int .i64 a1] rfl (by (try simp only [List.map_toArray, List.map_cons, List.map_nil]); first | done | rfl | (simp only [List.length_drop, List.length_take]; rfl)) ?_; (with_reducible refine (drive_Length.calls kj2 _ _ l0 a1 t288 t289 _ ?side1 ?side2 A10.out).mono ?_); (case side1 => repeat (first | exact (Kd.C_below HR0.out HB.out) | (with_reducible refine Kd.C_alloc ?_ _) | (with_reducible refine Kd.C_drewN ?_ _) | (with_reducible refine Kd.C_drew ?_))); (case side2 => exact HC0.out); rintro e w32 ⟨rfl, hb⟩; refine ⟨_, rfl, ?_⟩; have n0_ := Aside0.mk (below_step (by repeat (first | (with_reducible first | exact HB.out | apply below_alloc | apply pw_below_drewN | apply below_drew1) | exact HB.out)) hb); clear HB; have HB := n0_; clear n0_; (try clear hb); (try clear hb2); (try clear hk); (try clear hi)) | ((with_reducible refine gate_callee (f := 14) rfl ?_); refine goesL_ (some 32) rfl rfl Try.func14 (by kernel_rfl) rfl #[.slice A0 l0.length c0, .int .i64 (wrap64 (a1 + 1))] rfl (by (try simp only [List.map_toArray, List.map_cons, List.map_nil]); first | done | rfl | (simp only [List.length_drop, List.length_take]; rfl)) ?_; (with_reducible refine (drive_Length.calls kj2 _ _ l0 (wrap64 (a1 + 1)) t290 t291 _ ?side1 ?side2 A11.out).mono ?_); (case side1 => repeat (first | exact (Kd.C_below HR0.out HB.out) | (with_reducible refine Kd.C_alloc ?_ _) | (with_reducible refine Kd.C_drewN ?_ _) | (with_reducible refine Kd.C_drew ?_))); (case side2 => exact HC0.out); rintro e w33 ⟨rfl, hb⟩; refine ⟨_, rfl, ?_⟩; have n0_ := Aside0.mk (below_step (by repeat (first | (with_reducible first | exact HB.out | apply below_alloc | apply pw_below_drewN | apply below_drew1) | exact HB.out)) hb); clear HB; have HB := n0_; clear n0_; (try clear hb); (try clear hb2); (try clear hk); (try clear hi)) | ((with_reducible refine gate_callee (f := 24) rfl ?_); refine goesL_ (some 38) rfl rfl Try.func24 (by kernel_rfl) rfl #[.slice A0 l0.length c0, .int .i64 a1] rfl (by (try simp only [List.map_toArray, List.map_cons, List.map_nil]); first | done | rfl | (simp only [List.length_drop, List.length_take]; rfl)) ?_; (with_reducible refine (drive_Speed.calls kj2 _ _ l0 a1 t292 t293 _ ?side1 ?side2 A12.out).mono ?_); (case side1 => repeat (first | exact (Kd.C_below HR0.out HB.out) | (with_reducible refine Kd.C_alloc ?_ _) | (with_reducible refine Kd.C_drewN ?_ _) | (with_reducible refine Kd.C_drew ?_))); (case side2 => exact HC0.out); rintro e w34 ⟨rfl, hb⟩; refine ⟨_, rfl, ?_⟩; have n0_ := Aside0.mk (below_step (by repeat (first | (with_reducible first | exact HB.out | apply below_alloc | apply pw_below_drewN | apply below_drew1) | exact HB.out)) hb); clear HB; have HB := n0_; clear n0_; (try clear hb); (try clear hb2); (try clear hk); (try clear hi)) | (go_at_call 13; (with_reducible refine (papermilllaw29_awake.calls kj2  t294 _ A31.out).mono ?_); rintro e w35 ⟨rfl, hb⟩; have n0_ := Aside0.mk (below_step (by repeat (first | (with_reducible first | exact HB.out | apply below_alloc | apply pw_below_drewN | apply below_drew1) | exact HB.out)) hb); clear HB; have HB := n0_; clear n0_; (try clear hb); (try clear hb2); (try clear hk); (try clear hi)))
                   go_ret
                   exact ⟨by first | rfl | (simp [errW_none, errW_some] <;> rfl) | (simp [*, errW_none, errW_some] <;> rfl), by repeat (first | (with_reducible first | exact HB.out | apply below_alloc | apply pw_below_drewN | apply below_drew1) | exact HB.out)⟩)
            · rw [if_neg c30] at H
              have c30b0 : (t291 == t289) = false := beq_eq_false_iff_ne.mpr c30
              have c30b1 : (t291 != t289) = true := bne_iff_ne.mpr c30
              by_cases c36 : t289 = 21
              · rw [if_pos c36] at H
                have c36b0 : (t289 == 21) = true := beq_iff_eq.mpr c36
                have c36b1 : (t289 != 21) = false := bne_eq_false_iff_eq.mpr c36
                clear c36
                replace H := Option.bind_eq_some_iff.mp H
                obtain ⟨t295, A370, H⟩ := H
                replace H : (some t295) = some r := H
                have A37 := Aside0.mk A370
                clear A370
                first
                  | exact absurd ((Option.some.inj H).trans hr_.out) (by decide)
                  | (skip
                     obtain rfl := Option.some.inj H
                     go_wp2_with (first | ((with_reducible refine gate_callee (f := 14) rfl ?_); refine goesL_ (some 25) rfl rfl Try.func14 (by kernel_rfl) rfl #[.slice A0 l0.length c0, .int .i64 a1] rfl (by (try simp only [List.map_toArray, List.map_cons, List.map_nil]); first | done | rfl | (simp only [List.length_drop, List.length_take]; rfl)) ?_; (with_reducible refine (drive_Length.calls kj2 _ _ l0 a1 t288 t289 _ ?side1 ?side2 A10.out).mono ?_); (case side1 => repeat (first | exact (Kd.C_below HR0.out HB.out) | (with_reducible refine Kd.C_alloc ?_ _) | (with_reducible refine Kd.C_drewN ?_ _) | (with_reducible refine Kd.C_drew ?_))); (case side2 => exact HC0.out); rintro e w38 ⟨rfl, hb⟩; refine ⟨_, rfl, ?_⟩; have n0_ := Aside0.mk (below_step (by repeat (first | (with_reducible first | exact HB.out | apply below_alloc | apply pw_below_drewN | apply below_drew1) | exact HB.out)) hb); clear HB; have HB := n0_; clear n0_; (try clear hb); (try clear hb2); (try clear hk); (try clear hi)) | ((with_reducible refine gate_callee (f := 14) rfl ?_); refine goesL_ (some 32) rfl rfl Try.func14 (by kernel_rfl) rfl #[.slice A0 l0.length c0, .int .i64 (wrap64 (a1 + 1))] rfl (by (try simp only [List.map_toArray, List.map_cons, List.map_nil]); first | done | rfl | (simp only [List.length_drop, List.length_take]; rfl)) ?_; (with_reducible refine (drive_Length.calls kj2 _ _ l0 (wrap64 (a1 + 1)) t290 t291 _ ?side1 ?side2 A11.out).mono ?_); (case side1 => repeat (first | exact (Kd.C_below HR0.out HB.out) | (with_reducible refine Kd.C_alloc ?_ _) | (with_reducible refine Kd.C_drewN ?_ _) | (with_reducible refine Kd.C_drew ?_))); (case side2 => exact HC0.out); rintro e w39 ⟨rfl, hb⟩; refine ⟨_, rfl, ?_⟩; have n0_ := Aside0.mk (below_step (by repeat (first | (with_reducible first | exact HB.out | apply below_alloc | apply pw_below_drewN | apply below_drew1) | exact HB.out)) hb); clear HB; have HB := n0_; clear n0_; (try clear hb); (try clear hb2); (try clear hk); (try clear hi)) | ((with_reducible refine gate_callee (f := 24) rfl ?_); refine goesL_ (some 38) rfl rfl Try.func24 (by kernel_rfl) rfl #[.slice A0 l0.length c0, .int .i64 a1] rfl (by (try simp only [List.map_toArray, List.map_cons, List.map_nil]); first | done | rfl | (simp only [List.length_drop, List.length_take]; rfl)) ?_; (with_reducible refine (drive_Speed.calls kj2 _ _ l0 a1 t292 t293 _ ?side1 ?side2 A12.out).mono ?_); (case side1 => repeat (first | exact (Kd.C_below HR0.out HB.out) | (with_reducible refine Kd.C_alloc ?_ _) | (with_reducible refine Kd.C_drewN ?_ _) | (with_reducible refine Kd.C_drew ?_))); (case side2 => exact HC0.out); rintro e w40 ⟨rfl, hb⟩; refine ⟨_, rfl, ?_⟩; have n0_ := Aside0.mk (below_step (by repeat (first | (with_reducible first | exact HB.out | apply below_alloc | apply pw_below_drewN | apply below_drew1) | exact HB.out)) hb); clear HB; have HB := n0_; clear n0_; (try clear hb); (try clear hb2); (try clear hk); (try clear hi)) | (go_at_call 13; (with_reducible refine (papermilllaw29_awake.calls kj2  t295 _ A37.out).mono ?_); rintro e w41 ⟨rfl, hb⟩; have n0_ := Aside0.mk (below_step (by repeat (first | (with_reducible first | exact HB.out | apply below_alloc | apply pw_below_drewN | apply below_drew1) | exact HB.out)) hb); clear HB; have HB := n0_; clear n0_; (try clear hb); (try clear hb2); (try clear hk); (try clear hi)))
                     go_ret
                     exact ⟨by first | rfl | (simp [errW_none, errW_some] <;> rfl) | (simp [*, errW_none, errW_some] <;> rfl), by repeat (first | (with_reducible first | exact HB.out | apply below_alloc | apply pw_below_drewN | apply below_drew1) | exact HB.out)⟩)
              · rw [if_neg c36] at H
                have c36b0 : (t289 == 21) = false := beq_eq_false_iff_ne.mpr c36
                have c36b1 : (t289 != 21) = true := bne_iff_ne.mpr c36
                exact absurd ((Option.some.inj H).trans hr_.out) (by decide)
          · rw [if_neg c29] at H
            have c29b0 : (t288 == 0) = false := beq_eq_false_iff_ne.mpr c29
            have c29b1 : (t288 != 0) = true := bne_iff_ne.mpr c29
            exact absurd ((Option.some.inj H).trans hr_.out) (by decide)

end Go.Proofs.Ytfjeekjlhgjckaa.P
