-- Written by a program (wip/prog/pp.py) over the kit's print; some of its functions are proved by hand. Not trusted: Lean checks it.
import Derived.Test.YtfjeekjlhgjckaaPx0
import Derived.Test.YtfjeekjlhgjckaaPx3
namespace Go.Proofs.Ytfjeekjlhgjckaa.P
open Go.RowKit Go.Proofs.YtfjeekjlhgjckaaW.PrintWords Go.Proofs.YtfjeekjlhgjckaaW.PrintLast Go.Proofs.YtfjeekjlhgjckaaW.PrintMore
attribute [local go_sem] max2_int min2_int max_two min_two max_three min_three max_four min_four   -- for this text's walks alone
set_option linter.unusedVariables false
set_option linter.unusedSimpArgs false

/-! ### drive_Ramp: function 20 -/
mutual
def drive_Ramp.j0 : Nat → Int → Int → Int → Int → Bool → Option ((List (S42)) × Int)
  | 0, _, _, _, _, _ => none
  | k + 1, x0, x1, x2, x3, x40 => if x40 = true then (some (([] : List (S42)), 1)) else (if x3 = 0 then (none) else (if (wrap64 ((wrap64 (Int.tdiv (wrap64 ((wrap64 ((mx (wrap64 (x1 - x2)) (wrap64 (x2 - x1))) + x3)) - 1)) x3)) + 1)) > 512 then (some (([] : List (S42)), 8)) else (if (wrap64 (x0 + (wrap64 (Int.tdiv (wrap64 ((wrap64 ((mx (wrap64 (x1 - x2)) (wrap64 (x2 - x1))) + x3)) - 1)) x3)))) > 2147483647 then (some (([] : List (S42)), 37)) else (drive_Ramp.l0 k x0 x1 x2 x3 ([] : List (S42)) (wrap64 ((wrap64 (Int.tdiv (wrap64 ((wrap64 ((mx (wrap64 (x1 - x2)) (wrap64 (x2 - x1))) + x3)) - 1)) x3)) + 1)) 0))))
def drive_Ramp.l0 : Nat → Int → Int → Int → Int → List (S42) → Int → Int → Option ((List (S42)) × Int)
  | 0, _, _, _, _, _, _, _ => none
  | k + 1, x0, x1, x2, x3, x11, x61, x62 => if x62 < x61 then (if x1 < x2 then (if x11.length < 8796093022208 then (drive_Ramp.l0 k x0 x1 x2 x3 (x11 ++ [(⟨wrap64 (x0 + x62), mn x2 (wrap64 (x1 + (wrap64 (x62 * x3))))⟩ : S42)]) x61 (wrap64 (x62 + 1))) else (none)) else (if x11.length < 8796093022208 then (drive_Ramp.l0 k x0 x1 x2 x3 (x11 ++ [(⟨wrap64 (x0 + x62), mx x2 (wrap64 (x1 - (wrap64 (x62 * x3))))⟩ : S42)]) x61 (wrap64 (x62 + 1))) else (none))) else (some (x11, 0))
end
def drive_Ramp.f (k : Nat) (a0 : Int) (a1 : Int) (a2 : Int) (a3 : Int) : Option ((List (S42)) × Int) := (drive_moment.f a0).bind fun t119 => (if t119 = true then (if a1 < 0 then (drive_Ramp.j0 k a0 a1 a2 a3 true) else (if a1 > 40000 then (drive_Ramp.j0 k a0 a1 a2 a3 true) else (if a2 < 0 then (drive_Ramp.j0 k a0 a1 a2 a3 true) else (if a2 > 40000 then (drive_Ramp.j0 k a0 a1 a2 a3 true) else (if a3 < 1 then (drive_Ramp.j0 k a0 a1 a2 a3 true) else (drive_Ramp.j0 k a0 a1 a2 a3 (decide (a3 > 40000)))))))) else (drive_Ramp.j0 k a0 a1 a2 a3 true))
theorem drive_Ramp.mono_l : ∀ k, (∀ y0 y1 y2 y3 y4, LeO (drive_Ramp.j0 k y0 y1 y2 y3 y4) (drive_Ramp.j0 (k + 1) y0 y1 y2 y3 y4)) ∧ (∀ y0 y1 y2 y3 y4 y5 y6, LeO (drive_Ramp.l0 k y0 y1 y2 y3 y4 y5 y6) (drive_Ramp.l0 (k + 1) y0 y1 y2 y3 y4 y5 y6))
  | 0 => ⟨fun _ _ _ _ _ r h => by simp [drive_Ramp.j0] at h, fun _ _ _ _ _ _ _ r h => by simp [drive_Ramp.l0] at h⟩
  | k + 1 => by
    obtain ⟨ih0, ih1⟩ := drive_Ramp.mono_l k
    refine ⟨?_, ?_⟩
    · intro y0 y1 y2 y3 y4
      unfold drive_Ramp.j0
      repeat' first
      | (with_reducible exact ih0 _ _ _ _ _)
      | (with_reducible exact ih1 _ _ _ _ _ _ _)
      | (with_reducible exact LeO.refl _)
      | (with_reducible exact LeO.none _)
      | (with_reducible refine LeO.ite ?_ ?_)
      | (with_reducible refine LeO.bind ?_ (fun _ => ?_))
      | exact ih0 _ _ _ _ _
      | exact ih1 _ _ _ _ _ _ _
      | exact LeO.none _
      | refine LeO.ite ?_ ?_
      | refine LeO.bind ?_ (fun _ => ?_)
    · intro y0 y1 y2 y3 y4 y5 y6
      unfold drive_Ramp.l0
      repeat' first
      | (with_reducible exact ih0 _ _ _ _ _)
      | (with_reducible exact ih1 _ _ _ _ _ _ _)
      | (with_reducible exact LeO.refl _)
      | (with_reducible exact LeO.none _)
      | (with_reducible refine LeO.ite ?_ ?_)
      | (with_reducible refine LeO.bind ?_ (fun _ => ?_))
      | exact ih0 _ _ _ _ _
      | exact ih1 _ _ _ _ _ _ _
      | exact LeO.none _
      | refine LeO.ite ?_ ?_
      | refine LeO.bind ?_ (fun _ => ?_)
theorem drive_Ramp.mono : ∀ a0 a1 a2 a3 k, LeO (drive_Ramp.f k a0 a1 a2 a3) (drive_Ramp.f (k + 1) a0 a1 a2 a3) := by
  intro a0 a1 a2 a3 k
  obtain ⟨ih0, ih1⟩ := drive_Ramp.mono_l k
  unfold drive_Ramp.f
  repeat' first
      | (with_reducible exact ih0 _ _ _ _ _)
      | (with_reducible exact ih1 _ _ _ _ _ _ _)
      | (with_reducible exact LeO.refl _)
      | (with_reducible exact LeO.none _)
      | (with_reducible refine LeO.ite ?_ ?_)
      | (with_reducible refine LeO.bind ?_ (fun _ => ?_))
      | exact ih0 _ _ _ _ _
      | exact ih1 _ _ _ _ _ _ _
      | exact LeO.none _
      | refine LeO.ite ?_ ?_
      | refine LeO.bind ?_ (fun _ => ?_)
set_option maxHeartbeats 8000000 in
set_option maxRecDepth 100000 in
theorem drive_Ramp.calls (k : Nat) (a0 : Int) (a1 : Int) (a2 : Int) (a3 : Int) (r1 : List (S42)) (r2 : Int) (w : World) (h : drive_Ramp.f k a0 a1 a2 a3 = some (r1, r2)) :
    Calls Try.prog 20 #[.int .i64 a0, .int .i64 a1, .int .i64 a2, .int .i64 a3] w fun e w' => ∃ v0_ : Value, e = .returned (.tuple #[v0_, .int .i64 r2]) ∧ Kd.R k42 42 w' w.heap.size (fun _ => True) v0_ r1 ∧ Below w.heap.size w w' := by
  have hu42 := Try.underlying42
  have HB := Aside0.mk (Below.refl w.heap.size w)
  have H : ((drive_moment.f a0).bind fun t119 => (if t119 = true then (if a1 < 0 then (drive_Ramp.j0 k a0 a1 a2 a3 true) else (if a1 > 40000 then (drive_Ramp.j0 k a0 a1 a2 a3 true) else (if a2 < 0 then (drive_Ramp.j0 k a0 a1 a2 a3 true) else (if a2 > 40000 then (drive_Ramp.j0 k a0 a1 a2 a3 true) else (if a3 < 1 then (drive_Ramp.j0 k a0 a1 a2 a3 true) else (drive_Ramp.j0 k a0 a1 a2 a3 (decide (a3 > 40000)))))))) else (drive_Ramp.j0 k a0 a1 a2 a3 true))) = some (r1, r2) := h
  clear h
  have HC5 := Aside0.mk H
  clear H
  go_enter Try.func20, Try.ntmps20
  go_upto_region 1 with (fail)
  go_cut [40] (fun v40 wc => ∃ (kq : Nat) (x40_4 : Bool), v40 = .bool x40_4 ∧ Aside0 (drive_Ramp.j0 kq a0 a1 a2 a3 x40_4 = some (r1, r2)) ∧ Aside0 (kq ≤ k) ∧ Aside0 (Below w.heap.size w wc))
  case first =>
    have H := HC5.out
    clear HC5
    replace H := Option.bind_eq_some_iff.mp H
    obtain ⟨t119, A60, H⟩ := H
    replace H : (if t119 = true then (if a1 < 0 then (drive_Ramp.j0 k a0 a1 a2 a3 true) else (if a1 > 40000 then (drive_Ramp.j0 k a0 a1 a2 a3 true) else (if a2 < 0 then (drive_Ramp.j0 k a0 a1 a2 a3 true) else (if a2 > 40000 then (drive_Ramp.j0 k a0 a1 a2 a3 true) else (if a3 < 1 then (drive_Ramp.j0 k a0 a1 a2 a3 true) else (drive_Ramp.j0 k a0 a1 a2 a3 (decide (a3 > 40000)))))))) else (drive_Ramp.j0 k a0 a1 a2 a3 true)) = some (r1, r2) := H
    have A6 := Aside0.mk A60
    clear A60
    by_cases c7 : t119 = true
    · subst c7
      have H1 : (if a1 < 0 then (drive_Ramp.j0 k a0 a1 a2 a3 true) else (if a1 > 40000 then (drive_Ramp.j0 k a0 a1 a2 a3 true) else (if a2 < 0 then (drive_Ramp.j0 k a0 a1 a2 a3 true) else (if a2 > 40000 then (drive_Ramp.j0 k a0 a1 a2 a3 true) else (if a3 < 1 then (drive_Ramp.j0 k a0 a1 a2 a3 true) else (drive_Ramp.j0 k a0 a1 a2 a3 (decide (a3 > 40000)))))))) = some (r1, r2) := by rw [if_pos rfl] at H; exact H
      clear H
      have H := H1
      clear H1
      by_cases c8 : a1 < 0
      · rw [if_pos c8] at H
        have c8b0 : decide (a1 < 0) = true := decide_eq_true c8
        clear c8
        (first | rw [c8b0] | (simp only [i64_w, i32_w]; rw [c8b0]) | skip)
        have H' := Aside0.mk H
        clear H
        go_wp2_with (first | ((with_reducible refine gate_callee (f := 31) rfl ?_); refine goesL_ (some 15) rfl rfl Try.func31 (by kernel_rfl) rfl #[.int .i64 a0] rfl (by (try simp only [List.map_toArray, List.map_cons, List.map_nil]); first | done | rfl | (simp only [List.length_drop, List.length_take]; rfl)) ?_; (with_reducible refine (drive_moment.calls a0 true _ A6.out).mono ?_); rintro e w' ⟨rfl, ⟨nd, rfl⟩⟩; refine ⟨_, rfl, ?_⟩))
        go_meet
        case rel => exact ⟨_, (true), (by first | rfl | (simp; done) | (simp [*]; done)), H', ⟨by first | omega | exact Nat.le_refl _⟩, ⟨by repeat (first | (with_reducible first | exact HB.out | apply below_alloc | apply pw_below_drewN | apply below_drew1) | exact HB.out)⟩⟩
      · rw [if_neg c8] at H
        have c8b0 : decide (a1 < 0) = false := decide_eq_false c8
        clear c8
        (first | rw [c8b0] | (simp only [i64_w, i32_w]; rw [c8b0]) | skip)
        by_cases c9 : a1 > 40000
        · rw [if_pos c9] at H
          have c9b0 : decide (40000 < a1) = true := decide_eq_true c9
          clear c9
          have H' := Aside0.mk H
          clear H
          go_wp2_with (first | ((with_reducible refine gate_callee (f := 31) rfl ?_); refine goesL_ (some 15) rfl rfl Try.func31 (by kernel_rfl) rfl #[.int .i64 a0] rfl (by (try simp only [List.map_toArray, List.map_cons, List.map_nil]); first | done | rfl | (simp only [List.length_drop, List.length_take]; rfl)) ?_; (with_reducible refine (drive_moment.calls a0 true _ A6.out).mono ?_); rintro e w' ⟨rfl, ⟨nd, rfl⟩⟩; refine ⟨_, rfl, ?_⟩))
          go_meet
          case rel => exact ⟨_, (true), (by first | rfl | (simp; done) | (simp [*]; done)), H', ⟨by first | omega | exact Nat.le_refl _⟩, ⟨by repeat (first | (with_reducible first | exact HB.out | apply below_alloc | apply pw_below_drewN | apply below_drew1) | exact HB.out)⟩⟩
        · rw [if_neg c9] at H
          have c9b0 : decide (40000 < a1) = false := decide_eq_false c9
          clear c9
          by_cases c10 : a2 < 0
          · rw [if_pos c10] at H
            have c10b0 : decide (a2 < 0) = true := decide_eq_true c10
            clear c10
            have H' := Aside0.mk H
            clear H
            go_wp2_with (first | ((with_reducible refine gate_callee (f := 31) rfl ?_); refine goesL_ (some 15) rfl rfl Try.func31 (by kernel_rfl) rfl #[.int .i64 a0] rfl (by (try simp only [List.map_toArray, List.map_cons, List.map_nil]); first | done | rfl | (simp only [List.length_drop, List.length_take]; rfl)) ?_; (with_reducible refine (drive_moment.calls a0 true _ A6.out).mono ?_); rintro e w' ⟨rfl, ⟨nd, rfl⟩⟩; refine ⟨_, rfl, ?_⟩))
            go_meet
            case rel => exact ⟨_, (true), (by first | rfl | (simp; done) | (simp [*]; done)), H', ⟨by first | omega | exact Nat.le_refl _⟩, ⟨by repeat (first | (with_reducible first | exact HB.out | apply below_alloc | apply pw_below_drewN | apply below_drew1) | exact HB.out)⟩⟩
          · rw [if_neg c10] at H
            have c10b0 : decide (a2 < 0) = false := decide_eq_false c10
            clear c10
            by_cases c11 : a2 > 40000
            · rw [if_pos c11] at H
              have c11b0 : decide (40000 < a2) = true := decide_eq_true c11
              clear c11
              have H' := Aside0.mk H
              clear H
              go_wp2_with (first | ((with_reducible refine gate_callee (f := 31) rfl ?_); refine goesL_ (some 15) rfl rfl Try.func31 (by kernel_rfl) rfl #[.int .i64 a0] rfl (by (try simp only [List.map_toArray, List.map_cons, List.map_nil]); first | done | rfl | (simp only [List.length_drop, List.length_take]; rfl)) ?_; (with_reducible refine (drive_moment.calls a0 true _ A6.out).mono ?_); rintro e w' ⟨rfl, ⟨nd, rfl⟩⟩; refine ⟨_, rfl, ?_⟩))
              go_meet
              case rel => exact ⟨_, (true), (by first | rfl | (simp; done) | (simp [*]; done)), H', ⟨by first | omega | exact Nat.le_refl _⟩, ⟨by repeat (first | (with_reducible first | exact HB.out | apply below_alloc | apply pw_below_drewN | apply below_drew1) | exact HB.out)⟩⟩
            · rw [if_neg c11] at H
              have c11b0 : decide (40000 < a2) = false := decide_eq_false c11
              clear c11
              by_cases c12 : a3 < 1
              · rw [if_pos c12] at H
                have c12b0 : decide (a3 < 1) = true := decide_eq_true c12
                clear c12
                have H' := Aside0.mk H
                clear H
                go_wp2_with (first | ((with_reducible refine gate_callee (f := 31) rfl ?_); refine goesL_ (some 15) rfl rfl Try.func31 (by kernel_rfl) rfl #[.int .i64 a0] rfl (by (try simp only [List.map_toArray, List.map_cons, List.map_nil]); first | done | rfl | (simp only [List.length_drop, List.length_take]; rfl)) ?_; (with_reducible refine (drive_moment.calls a0 true _ A6.out).mono ?_); rintro e w' ⟨rfl, ⟨nd, rfl⟩⟩; refine ⟨_, rfl, ?_⟩))
                go_meet
                case rel => exact ⟨_, (true), (by first | rfl | (simp; done) | (simp [*]; done)), H', ⟨by first | omega | exact Nat.le_refl _⟩, ⟨by repeat (first | (with_reducible first | exact HB.out | apply below_alloc | apply pw_below_drewN | apply below_drew1) | exact HB.out)⟩⟩
              · rw [if_neg c12] at H
                have c12b0 : decide (a3 < 1) = false := decide_eq_false c12
                clear c12
                have H' := Aside0.mk H
                clear H
                go_wp2_with (first | ((with_reducible refine gate_callee (f := 31) rfl ?_); refine goesL_ (some 15) rfl rfl Try.func31 (by kernel_rfl) rfl #[.int .i64 a0] rfl (by (try simp only [List.map_toArray, List.map_cons, List.map_nil]); first | done | rfl | (simp only [List.length_drop, List.length_take]; rfl)) ?_; (with_reducible refine (drive_moment.calls a0 true _ A6.out).mono ?_); rintro e w' ⟨rfl, ⟨nd, rfl⟩⟩; refine ⟨_, rfl, ?_⟩))
                go_meet
                case rel => exact ⟨_, (decide (a3 > 40000)), (by first | rfl | (simp; done) | (simp [*]; done)), H', ⟨by first | omega | exact Nat.le_refl _⟩, ⟨by repeat (first | (with_reducible first | exact HB.out | apply below_alloc | apply pw_below_drewN | apply below_drew1) | exact HB.out)⟩⟩
    · replace c7 := Bool.eq_false_iff.mpr c7
      subst c7
      have H1 : (drive_Ramp.j0 k a0 a1 a2 a3 true) = some (r1, r2) := by rw [if_neg (show ¬ (false = true) by decide)] at H; exact H
      clear H
      have H := H1
      clear H1
      have H' := Aside0.mk H
      clear H
      go_wp2_with (first | ((with_reducible refine gate_callee (f := 31) rfl ?_); refine goesL_ (some 15) rfl rfl Try.func31 (by kernel_rfl) rfl #[.int .i64 a0] rfl (by (try simp only [List.map_toArray, List.map_cons, List.map_nil]); first | done | rfl | (simp only [List.length_drop, List.length_take]; rfl)) ?_; (with_reducible refine (drive_moment.calls a0 false _ A6.out).mono ?_); rintro e w' ⟨rfl, ⟨nd, rfl⟩⟩; refine ⟨_, rfl, ?_⟩))
      go_meet
      case rel => exact ⟨_, (true), (by first | rfl | (simp; done) | (simp [*]; done)), H', ⟨by first | omega | exact Nat.le_refl _⟩, ⟨by repeat (first | (with_reducible first | exact HB.out | apply below_alloc | apply pw_below_drewN | apply below_drew1) | exact HB.out)⟩⟩
  case rest =>
    clear HC5
    try clear c1
    try clear c2
    try clear p2
    try clear c3
    try clear c7
    try clear c8
    try clear c8b0
    try clear c9
    try clear c9b0
    try clear c10
    try clear c10b0
    try clear c11
    try clear c11b0
    try clear c12
    try clear c12b0
    obtain ⟨kq, x40_4, rfl, HA, HJ4, HB⟩ := hcut
    cases kq with
    | zero => exact absurd HA.out (by simp [drive_Ramp.j0])
    | succ kj4 =>
      have H := HA.out
      clear HA
      simp only [drive_Ramp.j0] at H
      by_cases c13 : x40_4 = true
      · subst c13
        have H1 : (some (([] : List (S42)), 1)) = some (r1, r2) := by rw [if_pos rfl] at H; exact H
        clear H
        have H := H1
        clear H1
        simp only [Option.some.injEq, Prod.mk.injEq] at H
        obtain ⟨rfl, rfl⟩ := H
        go_wp2
        go_ret2
        exact ⟨_, by first | rfl | (simp [errW_none, errW_some] <;> rfl) | (simp [*, errW_none, errW_some] <;> rfl), by first | exact Kd.R_nil _ _ _ _ _ | exact Kd.N_nil _ _ _ _ _ | exact Kd.V_nil _ _ _ _ _ | exact Kd.Q_nil _ _ _ _ _ | exact Kd.S_nil _ _ _ _ _, by repeat (first | (with_reducible first | exact HB.out | apply below_alloc | apply pw_below_drewN | apply below_drew1) | exact HB.out)⟩
      · replace c13 := Bool.eq_false_iff.mpr c13
        subst c13
        have H1 : (if a3 = 0 then (none) else (if (wrap64 ((wrap64 (Int.tdiv (wrap64 ((wrap64 ((mx (wrap64 (a1 - a2)) (wrap64 (a2 - a1))) + a3)) - 1)) a3)) + 1)) > 512 then (some (([] : List (S42)), 8)) else (if (wrap64 (a0 + (wrap64 (Int.tdiv (wrap64 ((wrap64 ((mx (wrap64 (a1 - a2)) (wrap64 (a2 - a1))) + a3)) - 1)) a3)))) > 2147483647 then (some (([] : List (S42)), 37)) else (drive_Ramp.l0 kj4 a0 a1 a2 a3 ([] : List (S42)) (wrap64 ((wrap64 (Int.tdiv (wrap64 ((wrap64 ((mx (wrap64 (a1 - a2)) (wrap64 (a2 - a1))) + a3)) - 1)) a3)) + 1)) 0)))) = some (r1, r2) := by rw [if_neg (show ¬ (false = true) by decide)] at H; exact H
        clear H
        have H := H1
        clear H1
        obtain ⟨ji14, hji14⟩ : ∃ j_ : Int, (mx (wrap64 (a1 - a2)) (wrap64 (a2 - a1))) = j_ := ⟨_, rfl⟩
        replace H : (if a3 = 0 then (none) else (if (wrap64 ((wrap64 (Int.tdiv (wrap64 ((wrap64 ((ji14) + a3)) - 1)) a3)) + 1)) > 512 then (some (([] : List (S42)), 8)) else (if (wrap64 (a0 + (wrap64 (Int.tdiv (wrap64 ((wrap64 ((ji14) + a3)) - 1)) a3)))) > 2147483647 then (some (([] : List (S42)), 37)) else (drive_Ramp.l0 kj4 a0 a1 a2 a3 ([] : List (S42)) (wrap64 ((wrap64 (Int.tdiv (wrap64 ((wrap64 ((ji14) + a3)) - 1)) a3)) + 1)) 0)))) = some (r1, r2) := by first | (rw [hji14] at H; exact H) | (simp only [hji14] at H ⊢; exact H)
        have hji14_ : (if (wrap64 (a1 - a2)) < (wrap64 (a2 - a1)) then (wrap64 (a2 - a1)) else (wrap64 (a1 - a2))) = ji14 := hji14
        by_cases c15 : a3 = 0
        · rw [if_pos c15] at H
          exact absurd H (by simp)
        · rw [if_neg c15] at H
          have c15b0 : (a3 == 0) = false := beq_eq_false_iff_ne.mpr c15
          have c15b1 : (a3 != 0) = true := bne_iff_ne.mpr c15
          by_cases c16 : (wrap64 ((wrap64 (Int.tdiv (wrap64 ((wrap64 ((ji14) + a3)) - 1)) a3)) + 1)) > 512
          · rw [if_pos c16] at H
            have c16b0 : decide (512 < (wrap64 ((wrap64 (Int.tdiv (wrap64 ((wrap64 ((ji14) + a3)) - 1)) a3)) + 1))) = true := decide_eq_true c16
            clear c16
            simp only [Option.some.injEq, Prod.mk.injEq] at H
            obtain ⟨rfl, rfl⟩ := H
            go_wp2
            go_ret2
            exact ⟨_, by first | rfl | (simp [errW_none, errW_some] <;> rfl) | (simp only [← hji14]; first | rfl | (simp [errW_none, errW_some] <;> rfl)) | (simp [*, errW_none, errW_some] <;> rfl), by first | exact Kd.R_nil _ _ _ _ _ | exact Kd.N_nil _ _ _ _ _ | exact Kd.V_nil _ _ _ _ _ | exact Kd.Q_nil _ _ _ _ _ | exact Kd.S_nil _ _ _ _ _, by repeat (first | (with_reducible first | exact HB.out | apply below_alloc | apply pw_below_drewN | apply below_drew1) | exact HB.out)⟩
          · rw [if_neg c16] at H
            have c16b0 : decide (512 < (wrap64 ((wrap64 (Int.tdiv (wrap64 ((wrap64 ((ji14) + a3)) - 1)) a3)) + 1))) = false := decide_eq_false c16
            clear c16
            by_cases c17 : (wrap64 (a0 + (wrap64 (Int.tdiv (wrap64 ((wrap64 ((ji14) + a3)) - 1)) a3)))) > 2147483647
            · rw [if_pos c17] at H
              have c17b0 : decide (2147483647 < (wrap64 (a0 + (wrap64 (Int.tdiv (wrap64 ((wrap64 ((ji14) + a3)) - 1)) a3))))) = true := decide_eq_true c17
              clear c17
              simp only [Option.some.injEq, Prod.mk.injEq] at H
              obtain ⟨rfl, rfl⟩ := H
              go_wp2
              go_ret2
              exact ⟨_, by first | rfl | (simp [errW_none, errW_some] <;> rfl) | (simp only [← hji14]; first | rfl | (simp [errW_none, errW_some] <;> rfl)) | (simp [*, errW_none, errW_some] <;> rfl), by first | exact Kd.R_nil _ _ _ _ _ | exact Kd.N_nil _ _ _ _ _ | exact Kd.V_nil _ _ _ _ _ | exact Kd.Q_nil _ _ _ _ _ | exact Kd.S_nil _ _ _ _ _, by repeat (first | (with_reducible first | exact HB.out | apply below_alloc | apply pw_below_drewN | apply below_drew1) | exact HB.out)⟩
            · rw [if_neg c17] at H
              have c17b0 : decide (2147483647 < (wrap64 (a0 + (wrap64 (Int.tdiv (wrap64 ((wrap64 ((ji14) + a3)) - 1)) a3))))) = false := decide_eq_false c17
              clear c17
              have H' := Aside0.mk H
              clear H
              go_wp2
              go_loopg [11, 62] kj4 (fun kq v11 v62 w' => ∃ (x11_2 : List (S42)) (x62_2 : Int), v62 = .int .i64 x62_2 ∧ Aside0 (drive_Ramp.l0 kq a0 a1 a2 a3 x11_2 (wrap64 ((wrap64 (Int.tdiv (wrap64 ((wrap64 ((ji14) + a3)) - 1)) a3)) + 1)) x62_2 = some (r1, r2)) ∧ Aside0 (kq ≤ kj4) ∧ Aside0 (Kd.R k42 42 w' w.heap.size (fun _ => True) v11 x11_2) ∧ Aside0 (Below w.heap.size w w'))
              case atStart => exact ⟨(([] : List (S42))), (0), (by first | rfl | (simp; done) | (simp [*]; done)), H', ⟨Nat.le_refl _⟩, ⟨by first | exact Kd.R_nil _ _ _ _ _ | exact Kd.N_nil _ _ _ _ _ | exact Kd.V_nil _ _ _ _ _ | exact Kd.Q_nil _ _ _ _ _ | exact Kd.S_nil _ _ _ _ _⟩, ⟨by repeat (first | (with_reducible first | exact HB.out | apply below_alloc | apply pw_below_drewN | apply below_drew1) | exact HB.out)⟩⟩
              case round =>
                clear H'
                try clear c1
                try clear c2
                try clear p2
                try clear c3
                try clear p6
                try clear c7
                try clear c8
                try clear c8b0
                try clear c9
                try clear c9b0
                try clear c10
                try clear c10b0
                try clear c11
                try clear c11b0
                try clear c12
                try clear c12b0
                try clear c13
                try clear c15
                try clear c15b0
                try clear c15b1
                try clear c16
                try clear c16b0
                try clear c17
                try clear c17b0
                try clear p2
                obtain ⟨x11_2, x62_2, rfl, HA, HK2, HO_11, HB⟩ := hrel
                cases gk with
                | zero => exact absurd HA.out (by simp [drive_Ramp.l0])
                | succ k2 =>
                  have H := HA.out
                  clear HA
                  simp only [drive_Ramp.l0] at H
                  by_cases c18 : x62_2 < (wrap64 ((wrap64 (Int.tdiv (wrap64 ((wrap64 ((ji14) + a3)) - 1)) a3)) + 1))
                  · rw [if_pos c18] at H
                    have c18b0 : decide (x62_2 < (wrap64 ((wrap64 (Int.tdiv (wrap64 ((wrap64 ((ji14) + a3)) - 1)) a3)) + 1))) = true := decide_eq_true c18
                    clear c18
                    obtain ⟨ji19, hji19⟩ : ∃ j_ : Int, (mx a2 (wrap64 (a1 - (wrap64 (x62_2 * a3))))) = j_ := ⟨_, rfl⟩
                    replace H : (if a1 < a2 then (if x11_2.length < 8796093022208 then (drive_Ramp.l0 k2 a0 a1 a2 a3 (x11_2 ++ [(⟨wrap64 (a0 + x62_2), mn a2 (wrap64 (a1 + (wrap64 (x62_2 * a3))))⟩ : S42)]) (wrap64 ((wrap64 (Int.tdiv (wrap64 ((wrap64 ((ji14) + a3)) - 1)) a3)) + 1)) (wrap64 (x62_2 + 1))) else (none)) else (if x11_2.length < 8796093022208 then (drive_Ramp.l0 k2 a0 a1 a2 a3 (x11_2 ++ [(⟨wrap64 (a0 + x62_2), ji19⟩ : S42)]) (wrap64 ((wrap64 (Int.tdiv (wrap64 ((wrap64 ((ji14) + a3)) - 1)) a3)) + 1)) (wrap64 (x62_2 + 1))) else (none))) = some (r1, r2) := by first | (rw [hji19] at H; exact H) | (simp only [hji19] at H ⊢; exact H)
                    have hji19_ : (if a2 < (wrap64 (a1 - (wrap64 (x62_2 * a3)))) then (wrap64 (a1 - (wrap64 (x62_2 * a3)))) else a2) = ji19 := hji19
                    by_cases c20 : a1 < a2
                    · rw [if_pos c20] at H
                      have c20b0 : decide (a1 < a2) = true := decide_eq_true c20
                      clear c20
                      obtain ⟨ji21, hji21⟩ : ∃ j_ : Int, (mn a2 (wrap64 (a1 + (wrap64 (x62_2 * a3))))) = j_ := ⟨_, rfl⟩
                      replace H : (if x11_2.length < 8796093022208 then (drive_Ramp.l0 k2 a0 a1 a2 a3 (x11_2 ++ [(⟨wrap64 (a0 + x62_2), ji21⟩ : S42)]) (wrap64 ((wrap64 (Int.tdiv (wrap64 ((wrap64 ((ji14) + a3)) - 1)) a3)) + 1)) (wrap64 (x62_2 + 1))) else (none)) = some (r1, r2) := by first | (rw [hji21] at H; exact H) | (simp only [hji21] at H ⊢; exact H)
                      have hji21_ : (if (wrap64 (a1 + (wrap64 (x62_2 * a3)))) < a2 then (wrap64 (a1 + (wrap64 (x62_2 * a3)))) else a2) = ji21 := hji21
                      by_cases c22 : x11_2.length < 8796093022208
                      · rw [if_pos c22] at H
                        have LMc22 := Aside0.mk c22
                        clear c22
                        obtain ⟨y120, hy120⟩ : ∃ y_ : List (S42), y_ = (x11_2 ++ [(⟨wrap64 (a0 + x62_2), ji21⟩ : S42)]) := ⟨_, rfl⟩
                        replace H : (drive_Ramp.l0 k2 a0 a1 a2 a3 y120 (wrap64 ((wrap64 (Int.tdiv (wrap64 ((wrap64 ((ji14) + a3)) - 1)) a3)) + 1)) (wrap64 (x62_2 + 1))) = some (r1, r2) := by first | (rw [hy120]; with_reducible exact H) | (have H2_ := (Option.bind_some _ _).symm.trans H; rw [hy120]; with_reducible exact H2_) | (have H2_ := (Option.bind_some _ _).symm.trans H; with_reducible exact H2_) | with_reducible exact H | (rw [hy120]; exact H) | exact H
                        have Ny120 := Aside0.mk hy120
                        clear hy120
                        have H' := Aside0.mk H
                        clear H
                        go_wp2_with (first | ((with_reducible refine gate_builtin (b := .append) (xs := #[.tmp 82, .tmp 88]) rfl ?_); at_builtin; refine Kd.R_append k42 (w0 := w) w.heap.size rfl (.tmp 82) (.tmp 88) 22 42 (.agg #[(.int .i64 0), (.int .i64 0)]) 16 rfl Try.underlying22 info42 rfl (by decide) (by omega) u11 x11_2 (⟨wrap64 (a0 + x62_2), ji21⟩ : S42) [.int .i64 (wrap64 (a0 + x62_2)), .int .i64 ji21] (fun _ => True) (fun _ => False) rfl rfl ?aP (fun _ hk => hk.elim) ?aF ?aO ?aB ?aS ?aL ?_; (case aP => exact k42_mkM _ _ _ (⟨wrap64 (a0 + x62_2), ji21⟩ : S42)); (case aB => exact (by repeat (first | (with_reducible first | exact HB.out | apply below_alloc | apply pw_below_drewN | apply below_drew1) | exact HB.out))); (case aF => exact (fun _ _ => trivial)); (case aO => exact (by (with_reducible repeat (first | apply Kd.R_alloc | apply Kd.R_drewN | apply Kd.R_drew)); exact HO_11.out)); (case aS => exact (below_size (by repeat (first | (with_reducible first | exact HB.out | apply below_alloc | apply pw_below_drewN | apply below_drew1) | exact HB.out)))); (case aL => have := LMc22.out; omega); intro v121 w23 ho hb hg hat; rw [← Ny120.out] at ho; have n0_ := Aside0.mk (hb); have n1_ := Aside0.mk (ho); clear HB; clear HO_11; have HB := n0_; have HO122 := n1_; clear n0_ n1_; clear ho hb hg hat))
                        go_roundg k2
                        case measure => have := HJ4.out; have := HK2.out; omega
                        case rel => exact ⟨(y120), (wrap64 (x62_2 + 1)), (by first | rfl | (simp; done) | (simp [*]; done)), H', ⟨by have := HJ4.out; have := HK2.out; omega⟩, ⟨by (with_reducible repeat (first | apply Kd.R_alloc | apply Kd.R_drewN | apply Kd.R_drew)); exact HO122.out⟩, ⟨by repeat (first | (with_reducible first | exact HB.out | apply below_alloc | apply pw_below_drewN | apply below_drew1) | exact HB.out)⟩⟩
                      · rw [if_neg c22] at H
                        exact absurd H (by simp)
                    · rw [if_neg c20] at H
                      have c20b0 : decide (a1 < a2) = false := decide_eq_false c20
                      clear c20
                      by_cases c24 : x11_2.length < 8796093022208
                      · rw [if_pos c24] at H
                        have LMc24 := Aside0.mk c24
                        clear c24
                        obtain ⟨y123, hy123⟩ : ∃ y_ : List (S42), y_ = (x11_2 ++ [(⟨wrap64 (a0 + x62_2), ji19⟩ : S42)]) := ⟨_, rfl⟩
                        replace H : (drive_Ramp.l0 k2 a0 a1 a2 a3 y123 (wrap64 ((wrap64 (Int.tdiv (wrap64 ((wrap64 ((ji14) + a3)) - 1)) a3)) + 1)) (wrap64 (x62_2 + 1))) = some (r1, r2) := by first | (rw [hy123]; with_reducible exact H) | (have H2_ := (Option.bind_some _ _).symm.trans H; rw [hy123]; with_reducible exact H2_) | (have H2_ := (Option.bind_some _ _).symm.trans H; with_reducible exact H2_) | with_reducible exact H | (rw [hy123]; exact H) | exact H
                        have Ny123 := Aside0.mk hy123
                        clear hy123
                        have H' := Aside0.mk H
                        clear H
                        go_wp2_with (first | ((with_reducible refine gate_builtin (b := .append) (xs := #[.tmp 82, .tmp 88]) rfl ?_); at_builtin; refine Kd.R_append k42 (w0 := w) w.heap.size rfl (.tmp 82) (.tmp 88) 22 42 (.agg #[(.int .i64 0), (.int .i64 0)]) 16 rfl Try.underlying22 info42 rfl (by decide) (by omega) u11 x11_2 (⟨wrap64 (a0 + x62_2), ji19⟩ : S42) [.int .i64 (wrap64 (a0 + x62_2)), .int .i64 ji19] (fun _ => True) (fun _ => False) rfl rfl ?aP (fun _ hk => hk.elim) ?aF ?aO ?aB ?aS ?aL ?_; (case aP => exact k42_mkM _ _ _ (⟨wrap64 (a0 + x62_2), ji19⟩ : S42)); (case aB => exact (by repeat (first | (with_reducible first | exact HB.out | apply below_alloc | apply pw_below_drewN | apply below_drew1) | exact HB.out))); (case aF => exact (fun _ _ => trivial)); (case aO => exact (by (with_reducible repeat (first | apply Kd.R_alloc | apply Kd.R_drewN | apply Kd.R_drew)); exact HO_11.out)); (case aS => exact (below_size (by repeat (first | (with_reducible first | exact HB.out | apply below_alloc | apply pw_below_drewN | apply below_drew1) | exact HB.out)))); (case aL => have := LMc24.out; omega); intro v124 w25 ho hb hg hat; rw [← Ny123.out] at ho; have n0_ := Aside0.mk (hb); have n1_ := Aside0.mk (ho); clear HB; clear HO_11; have HB := n0_; have HO125 := n1_; clear n0_ n1_; clear ho hb hg hat))
                        go_roundg k2
                        case measure => have := HJ4.out; have := HK2.out; omega
                        case rel => exact ⟨(y123), (wrap64 (x62_2 + 1)), (by first | rfl | (simp; done) | (simp [*]; done)), H', ⟨by have := HJ4.out; have := HK2.out; omega⟩, ⟨by (with_reducible repeat (first | apply Kd.R_alloc | apply Kd.R_drewN | apply Kd.R_drew)); exact HO125.out⟩, ⟨by repeat (first | (with_reducible first | exact HB.out | apply below_alloc | apply pw_below_drewN | apply below_drew1) | exact HB.out)⟩⟩
                      · rw [if_neg c24] at H
                        exact absurd H (by simp)
                  · rw [if_neg c18] at H
                    have c18b0 : decide (x62_2 < (wrap64 ((wrap64 (Int.tdiv (wrap64 ((wrap64 ((ji14) + a3)) - 1)) a3)) + 1))) = false := decide_eq_false c18
                    clear c18
                    simp only [Option.some.injEq, Prod.mk.injEq] at H
                    obtain ⟨rfl, rfl⟩ := H
                    go_wp2
                    go_ret2
                    exact ⟨_, by first | rfl | (simp [errW_none, errW_some] <;> rfl) | (simp only [← hji14]; first | rfl | (simp [errW_none, errW_some] <;> rfl)) | (simp [*, errW_none, errW_some] <;> rfl), by (with_reducible repeat (first | apply Kd.R_alloc | apply Kd.R_drewN | apply Kd.R_drew)); exact HO_11.out, by repeat (first | (with_reducible first | exact HB.out | apply below_alloc | apply pw_below_drewN | apply below_drew1) | exact HB.out)⟩

end Go.Proofs.Ytfjeekjlhgjckaa.P
