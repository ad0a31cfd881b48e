-- Written by a program (wip/prog/pp.py) over the kit's print; some of its functions are proved by hand. Not trusted: Lean checks it.
import Derived.Test.YthbpjiembjapdaaPx0
import Derived.Test.YthbpjiembjapdaaPx7
namespace Go.Proofs.Ythbpjiembjapdaa.P
open Go.RowKit Go.Proofs.YthbpjiembjapdaaW.PrintWords Go.Proofs.YthbpjiembjapdaaW.PrintLast Go.Proofs.YthbpjiembjapdaaW.PrintMore
attribute [local go_sem] max2_int min2_int max_two min_two max_three min_three max_four min_four   -- for this text's walks alone
set_option linter.unusedVariables false
set_option linter.unusedSimpArgs false

/-! ### papermillref22_Mass: function 16 -/
def papermillref22_Mass.j0 : Nat → Int → Int → Bool → Option (Int × Int)
  | 0, _, _, _ => none
  | k + 1, x0, x1, x22 => if x22 = true then (some (0, 1)) else (if (wrap64 (2 * (Int.tmod (wrap64 ((Int.tmod x0 1000000000) * x1)) 1000000000))) > 1000000000 then (some (wrap64 ((wrap64 ((wrap64 ((wrap64 (Int.tdiv x0 1000000000)) * x1)) + (wrap64 (Int.tdiv (wrap64 ((Int.tmod x0 1000000000) * x1)) 1000000000)))) + 1), 0)) else (if (wrap64 (2 * (Int.tmod (wrap64 ((Int.tmod x0 1000000000) * x1)) 1000000000))) = 1000000000 then (if (Int.tmod (wrap64 ((wrap64 ((wrap64 (Int.tdiv x0 1000000000)) * x1)) + (wrap64 (Int.tdiv (wrap64 ((Int.tmod x0 1000000000) * x1)) 1000000000)))) 2) = 1 then (some (wrap64 ((wrap64 ((wrap64 ((wrap64 (Int.tdiv x0 1000000000)) * x1)) + (wrap64 (Int.tdiv (wrap64 ((Int.tmod x0 1000000000) * x1)) 1000000000)))) + 1), 0)) else (some (wrap64 ((wrap64 ((wrap64 (Int.tdiv x0 1000000000)) * x1)) + (wrap64 (Int.tdiv (wrap64 ((Int.tmod x0 1000000000) * x1)) 1000000000))), 0))) else (some (wrap64 ((wrap64 ((wrap64 (Int.tdiv x0 1000000000)) * x1)) + (wrap64 (Int.tdiv (wrap64 ((Int.tmod x0 1000000000) * x1)) 1000000000))), 0))))
def papermillref22_Mass.f (k : Nat) (a0 : Int) (a1 : Int) : Option (Int × Int) := if a0 < 0 then (papermillref22_Mass.j0 k a0 a1 true) else (if a0 > 206158430208000 then (papermillref22_Mass.j0 k a0 a1 true) else (if a1 < 0 then (papermillref22_Mass.j0 k a0 a1 true) else (papermillref22_Mass.j0 k a0 a1 (decide (a1 > 1000000)))))
theorem papermillref22_Mass.mono_l : ∀ k, (∀ y0 y1 y2, LeO (papermillref22_Mass.j0 k y0 y1 y2) (papermillref22_Mass.j0 (k + 1) y0 y1 y2))
  | 0 => fun _ _ _ r h => by simp [papermillref22_Mass.j0] at h
  | k + 1 => by
    have ih0 := papermillref22_Mass.mono_l k
    · intro y0 y1 y2
      unfold papermillref22_Mass.j0
      repeat' first
      | (with_reducible exact ih0 _ _ _)
      | (with_reducible exact LeO.refl _)
      | (with_reducible exact LeO.none _)
      | (with_reducible refine LeO.ite ?_ ?_)
      | (with_reducible refine LeO.bind ?_ (fun _ => ?_))
      | exact ih0 _ _ _
      | exact LeO.none _
      | refine LeO.ite ?_ ?_
      | refine LeO.bind ?_ (fun _ => ?_)
theorem papermillref22_Mass.mono : ∀ a0 a1 k, LeO (papermillref22_Mass.f k a0 a1) (papermillref22_Mass.f (k + 1) a0 a1) := by
  intro a0 a1 k
  have ih0 := papermillref22_Mass.mono_l k
  unfold papermillref22_Mass.f
  repeat' first
      | (with_reducible exact ih0 _ _ _)
      | (with_reducible exact LeO.refl _)
      | (with_reducible exact LeO.none _)
      | (with_reducible refine LeO.ite ?_ ?_)
      | (with_reducible refine LeO.bind ?_ (fun _ => ?_))
      | exact ih0 _ _ _
      | exact LeO.none _
      | refine LeO.ite ?_ ?_
      | refine LeO.bind ?_ (fun _ => ?_)
set_option maxHeartbeats 8000000 in
set_option maxRecDepth 100000 in
theorem papermillref22_Mass.calls (k : Nat) (a0 : Int) (a1 : Int) (r1 : Int) (r2 : Int) (w : World) (h : papermillref22_Mass.f k a0 a1 = some (r1, r2)) :
    Calls Try.prog 16 #[.int .i64 a0, .int .i64 a1] w fun e w' => e = .returned (.tuple #[.int .i64 r1, .int .i64 r2]) ∧ Drawn0 w w' := by
  have H : (if a0 < 0 then (papermillref22_Mass.j0 k a0 a1 true) else (if a0 > 206158430208000 then (papermillref22_Mass.j0 k a0 a1 true) else (if a1 < 0 then (papermillref22_Mass.j0 k a0 a1 true) else (papermillref22_Mass.j0 k a0 a1 (decide (a1 > 1000000)))))) = some (r1, r2) := h
  clear h
  have HC3 := Aside0.mk H
  clear H
  go_enter Try.func16, Try.ntmps16
  go_upto_region 1 with (fail)
  go_cut [22] (fun v22 wc => ∃ (kq : Nat) (x22_2 : Bool), v22 = .bool x22_2 ∧ Aside0 (papermillref22_Mass.j0 kq a0 a1 x22_2 = some (r1, r2)) ∧ Aside0 (kq ≤ k) ∧ Drawn0 w wc)
  case first =>
    have H := HC3.out
    clear HC3
    by_cases c4 : a0 < 0
    · rw [if_pos c4] at H
      have c4b0 : decide (a0 < 0) = true := decide_eq_true c4
      clear c4
      (first | rw [c4b0] | (simp only [i64_w, i32_w]; rw [c4b0]) | skip)
      have H' := Aside0.mk H
      clear H
      go_wp2
      go_meet
      case rel => exact ⟨_, (true), (by first | rfl | (simp; done) | (simp [*]; done)), H', ⟨by first | omega | exact Nat.le_refl _⟩, by repeat (first | exact Drawn0.refl _ | apply Drawn0.step)⟩
    · rw [if_neg c4] at H
      have c4b0 : decide (a0 < 0) = false := decide_eq_false c4
      clear c4
      (first | rw [c4b0] | (simp only [i64_w, i32_w]; rw [c4b0]) | skip)
      by_cases c5 : a0 > 206158430208000
      · rw [if_pos c5] at H
        have c5b0 : decide (206158430208000 < a0) = true := decide_eq_true c5
        clear c5
        have H' := Aside0.mk H
        clear H
        go_wp2
        go_meet
        case rel => exact ⟨_, (true), (by first | rfl | (simp; done) | (simp [*]; done)), H', ⟨by first | omega | exact Nat.le_refl _⟩, by repeat (first | exact Drawn0.refl _ | apply Drawn0.step)⟩
      · rw [if_neg c5] at H
        have c5b0 : decide (206158430208000 < a0) = false := decide_eq_false c5
        clear c5
        by_cases c6 : a1 < 0
        · rw [if_pos c6] at H
          have c6b0 : decide (a1 < 0) = true := decide_eq_true c6
          clear c6
          have H' := Aside0.mk H
          clear H
          go_wp2
          go_meet
          case rel => exact ⟨_, (true), (by first | rfl | (simp; done) | (simp [*]; done)), H', ⟨by first | omega | exact Nat.le_refl _⟩, by repeat (first | exact Drawn0.refl _ | apply Drawn0.step)⟩
        · rw [if_neg c6] at H
          have c6b0 : decide (a1 < 0) = false := decide_eq_false c6
          clear c6
          have H' := Aside0.mk H
          clear H
          go_wp2
          go_meet
          case rel => exact ⟨_, (decide (a1 > 1000000)), (by first | rfl | (simp; done) | (simp [*]; done)), H', ⟨by first | omega | exact Nat.le_refl _⟩, by repeat (first | exact Drawn0.refl _ | apply Drawn0.step)⟩
  case rest =>
    clear HC3
    try clear c1
    try clear p2
    try clear c4
    try clear c4b0
    try clear c5
    try clear c5b0
    try clear c6
    try clear c6b0
    obtain ⟨kq, x22_2, rfl, HA, HJ2, ⟨mc2, rfl⟩⟩ := hcut
    cases kq with
    | zero => exact absurd HA.out (by simp [papermillref22_Mass.j0])
    | succ kj2 =>
      have H := HA.out
      clear HA
      simp only [papermillref22_Mass.j0] at H
      by_cases c7 : x22_2 = true
      · subst c7
        have H1 : (some (0, 1)) = some (r1, r2) := by rw [if_pos rfl] at H; exact H
        clear H
        have H := H1
        clear H1
        simp only [Option.some.injEq, Prod.mk.injEq] at H
        obtain ⟨rfl, rfl⟩ := H
        go_wp2
        go_ret2
        exact ⟨by first | rfl | (simp; done) | (simp [*]; done), by repeat (first | exact Drawn0.refl _ | apply Drawn0.step)⟩
      · replace c7 := Bool.eq_false_iff.mpr c7
        subst c7
        have H1 : (if (wrap64 (2 * (Int.tmod (wrap64 ((Int.tmod a0 1000000000) * a1)) 1000000000))) > 1000000000 then (some (wrap64 ((wrap64 ((wrap64 ((wrap64 (Int.tdiv a0 1000000000)) * a1)) + (wrap64 (Int.tdiv (wrap64 ((Int.tmod a0 1000000000) * a1)) 1000000000)))) + 1), 0)) else (if (wrap64 (2 * (Int.tmod (wrap64 ((Int.tmod a0 1000000000) * a1)) 1000000000))) = 1000000000 then (if (Int.tmod (wrap64 ((wrap64 ((wrap64 (Int.tdiv a0 1000000000)) * a1)) + (wrap64 (Int.tdiv (wrap64 ((Int.tmod a0 1000000000) * a1)) 1000000000)))) 2) = 1 then (some (wrap64 ((wrap64 ((wrap64 ((wrap64 (Int.tdiv a0 1000000000)) * a1)) + (wrap64 (Int.tdiv (wrap64 ((Int.tmod a0 1000000000) * a1)) 1000000000)))) + 1), 0)) else (some (wrap64 ((wrap64 ((wrap64 (Int.tdiv a0 1000000000)) * a1)) + (wrap64 (Int.tdiv (wrap64 ((Int.tmod a0 1000000000) * a1)) 1000000000))), 0))) else (some (wrap64 ((wrap64 ((wrap64 (Int.tdiv a0 1000000000)) * a1)) + (wrap64 (Int.tdiv (wrap64 ((Int.tmod a0 1000000000) * a1)) 1000000000))), 0)))) = some (r1, r2) := by rw [if_neg (show ¬ (false = true) by decide)] at H; exact H
        clear H
        have H := H1
        clear H1
        by_cases c8 : (wrap64 (2 * (Int.tmod (wrap64 ((Int.tmod a0 1000000000) * a1)) 1000000000))) > 1000000000
        · rw [if_pos c8] at H
          have c8b0 : decide (1000000000 < (wrap64 (2 * (Int.tmod (wrap64 ((Int.tmod a0 1000000000) * a1)) 1000000000)))) = true := decide_eq_true c8
          clear c8
          simp only [Option.some.injEq, Prod.mk.injEq] at H
          obtain ⟨rfl, rfl⟩ := H
          go_wp2
          go_ret2
          exact ⟨by first | rfl | (simp; done) | (simp [*]; done), by repeat (first | exact Drawn0.refl _ | apply Drawn0.step)⟩
        · rw [if_neg c8] at H
          have c8b0 : decide (1000000000 < (wrap64 (2 * (Int.tmod (wrap64 ((Int.tmod a0 1000000000) * a1)) 1000000000)))) = false := decide_eq_false c8
          clear c8
          by_cases c9 : (wrap64 (2 * (Int.tmod (wrap64 ((Int.tmod a0 1000000000) * a1)) 1000000000))) = 1000000000
          · rw [if_pos c9] at H
            have c9b0 : ((wrap64 (2 * (Int.tmod (wrap64 ((Int.tmod a0 1000000000) * a1)) 1000000000))) == 1000000000) = true := beq_iff_eq.mpr c9
            have c9b1 : ((wrap64 (2 * (Int.tmod (wrap64 ((Int.tmod a0 1000000000) * a1)) 1000000000))) != 1000000000) = false := bne_eq_false_iff_eq.mpr c9
            clear c9
            by_cases c10 : (Int.tmod (wrap64 ((wrap64 ((wrap64 (Int.tdiv a0 1000000000)) * a1)) + (wrap64 (Int.tdiv (wrap64 ((Int.tmod a0 1000000000) * a1)) 1000000000)))) 2) = 1
            · rw [if_pos c10] at H
              have c10b0 : ((Int.tmod (wrap64 ((wrap64 ((wrap64 (Int.tdiv a0 1000000000)) * a1)) + (wrap64 (Int.tdiv (wrap64 ((Int.tmod a0 1000000000) * a1)) 1000000000)))) 2) == 1) = true := beq_iff_eq.mpr c10
              have c10b1 : ((Int.tmod (wrap64 ((wrap64 ((wrap64 (Int.tdiv a0 1000000000)) * a1)) + (wrap64 (Int.tdiv (wrap64 ((Int.tmod a0 1000000000) * a1)) 1000000000)))) 2) != 1) = false := bne_eq_false_iff_eq.mpr c10
              clear c10
              simp only [Option.some.injEq, Prod.mk.injEq] at H
              obtain ⟨rfl, rfl⟩ := H
              go_wp2
              go_ret2
              exact ⟨by first | rfl | (simp; done) | (simp [*]; done), by repeat (first | exact Drawn0.refl _ | apply Drawn0.step)⟩
            · rw [if_neg c10] at H
              have c10b0 : ((Int.tmod (wrap64 ((wrap64 ((wrap64 (Int.tdiv a0 1000000000)) * a1)) + (wrap64 (Int.tdiv (wrap64 ((Int.tmod a0 1000000000) * a1)) 1000000000)))) 2) == 1) = false := beq_eq_false_iff_ne.mpr c10
              have c10b1 : ((Int.tmod (wrap64 ((wrap64 ((wrap64 (Int.tdiv a0 1000000000)) * a1)) + (wrap64 (Int.tdiv (wrap64 ((Int.tmod a0 1000000000) * a1)) 1000000000)))) 2) != 1) = true := bne_iff_ne.mpr c10
              simp only [Option.some.injEq, Prod.mk.injEq] at H
              obtain ⟨rfl, rfl⟩ := H
              go_wp2
              go_ret2
              exact ⟨by first | rfl | (simp; done) | (simp [*]; done), by repeat (first | exact Drawn0.refl _ | apply Drawn0.step)⟩
          · rw [if_neg c9] at H
            have c9b0 : ((wrap64 (2 * (Int.tmod (wrap64 ((Int.tmod a0 1000000000) * a1)) 1000000000))) == 1000000000) = false := beq_eq_false_iff_ne.mpr c9
            have c9b1 : ((wrap64 (2 * (Int.tmod (wrap64 ((Int.tmod a0 1000000000) * a1)) 1000000000))) != 1000000000) = true := bne_iff_ne.mpr c9
            simp only [Option.some.injEq, Prod.mk.injEq] at H
            obtain ⟨rfl, rfl⟩ := H
            go_wp2
            go_ret2
            exact ⟨by first | rfl | (simp; done) | (simp [*]; done), by repeat (first | exact Drawn0.refl _ | apply Drawn0.step)⟩

/-! ### papermilllaw22_BrokeMasses: function 6 -/
def papermilllaw22_BrokeMasses.f (k : Nat) (a0 : Int) (a1 : Int) : Option (Bool) := (broke_Mass.f a0 a1).bind fun bt182 => ((papermillref22_Mass.f k a0 a1).bind fun bt184 => (if bt182.1 = bt184.1 then (if bt182.2 = bt184.2 then ((papermilllaw22_awake.f k).bind fun t186 => (some t186)) else (some false)) else (some false)))
theorem papermilllaw22_BrokeMasses.mono : ∀ a0 a1 k, LeO (papermilllaw22_BrokeMasses.f k a0 a1) (papermilllaw22_BrokeMasses.f (k + 1) a0 a1) := by
  intro a0 a1 k
  unfold papermilllaw22_BrokeMasses.f
  repeat' first
      | (with_reducible exact papermilllaw22_awake.mono _)
      | (with_reducible exact papermillref22_Mass.mono _ _ _)
      | (with_reducible exact LeO.refl _)
      | (with_reducible exact LeO.none _)
      | (with_reducible refine LeO.ite ?_ ?_)
      | (with_reducible refine LeO.bind ?_ (fun _ => ?_))
      | exact papermilllaw22_awake.mono _
      | exact papermillref22_Mass.mono _ _ _
      | exact LeO.none _
      | refine LeO.ite ?_ ?_
      | refine LeO.bind ?_ (fun _ => ?_)
set_option maxHeartbeats 8000000 in
set_option maxRecDepth 100000 in
theorem papermilllaw22_BrokeMasses.calls (k : Nat) (a0 : Int) (a1 : Int) (r : Bool) (w : World) (hr_ : Aside0 (r = true)) (h : papermilllaw22_BrokeMasses.f k a0 a1 = some r) :
    Calls Try.prog 6 #[.int .i64 a0, .int .i64 a1] w fun e w' => e = .returned (.bool r) ∧ Below w.heap.size w w' := by
  have HB := Aside0.mk (Below.refl w.heap.size w)
  have H : ((broke_Mass.f a0 a1).bind fun bt182 => ((papermillref22_Mass.f k a0 a1).bind fun bt184 => (if bt182.1 = bt184.1 then (if bt182.2 = bt184.2 then ((papermilllaw22_awake.f k).bind fun t186 => (some t186)) else (some false)) else (some false)))) = some r := h
  clear h
  replace H := Option.bind_eq_some_iff.mp H
  obtain ⟨⟨t182, t183⟩, A30, H⟩ := H
  replace H : ((papermillref22_Mass.f k a0 a1).bind fun bt184 => (if t182 = bt184.1 then (if t183 = bt184.2 then ((papermilllaw22_awake.f k).bind fun t186 => (some t186)) else (some false)) else (some false))) = some r := H
  have A3 := Aside0.mk A30
  clear A30
  replace H := Option.bind_eq_some_iff.mp H
  obtain ⟨⟨t184, t185⟩, A40, H⟩ := H
  replace H : (if t182 = t184 then (if t183 = t185 then ((papermilllaw22_awake.f k).bind fun t186 => (some t186)) else (some false)) else (some false)) = some r := H
  have A4 := Aside0.mk A40
  clear A40
  by_cases c5 : t182 = t184
  · rw [if_pos c5] at H
    have c5b0 : (t182 == t184) = true := beq_iff_eq.mpr c5
    have c5b1 : (t182 != t184) = false := bne_eq_false_iff_eq.mpr c5
    clear c5
    by_cases c6 : t183 = t185
    · rw [if_pos c6] at H
      have c6b0 : (t183 == t185) = true := beq_iff_eq.mpr c6
      have c6b1 : (t183 != t185) = false := bne_eq_false_iff_eq.mpr c6
      clear c6
      replace H := Option.bind_eq_some_iff.mp H
      obtain ⟨t186, A70, H⟩ := H
      replace H : (some t186) = some r := H
      have A7 := Aside0.mk A70
      clear A70
      first
        | exact absurd ((Option.some.inj H).trans hr_.out) (by decide)
        | (skip
           obtain rfl := Option.some.inj H
           go_enter Try.func6, Try.ntmps6
           go_wp2_with (first | ((with_reducible refine gate_callee (f := 15) rfl ?_); refine goesL_ (some 12) rfl rfl Try.func15 (by kernel_rfl) rfl #[.int .i64 a0, .int .i64 a1] rfl (by (try simp only [List.map_toArray, List.map_cons, List.map_nil]); first | done | rfl | (simp only [List.length_drop, List.length_take]; rfl)) ?_; (with_reducible refine (broke_Mass.calls a0 a1 t182 t183 _ A3.out).mono ?_); rintro e w8 ⟨rfl, hb⟩; refine ⟨_, rfl, ?_⟩; have n0_ := Aside0.mk (below_step (by repeat (first | (with_reducible first | exact HB.out | apply below_alloc | apply pw_below_drewN | apply below_drew1) | exact HB.out)) hb); clear HB; have HB := n0_; clear n0_; (try clear hb); (try clear hb2); (try clear hk); (try clear hi)) | ((with_reducible refine gate_callee (f := 16) rfl ?_); refine goesL_ (some 18) rfl rfl Try.func16 (by kernel_rfl) rfl #[.int .i64 a0, .int .i64 a1] rfl (by (try simp only [List.map_toArray, List.map_cons, List.map_nil]); first | done | rfl | (simp only [List.length_drop, List.length_take]; rfl)) ?_; (with_reducible refine (papermillref22_Mass.calls k a0 a1 t184 t185 _ A4.out).mono ?_); rintro e w' ⟨rfl, ⟨nd, rfl⟩⟩; refine ⟨_, rfl, ?_⟩) | (go_at_call 10; (with_reducible refine (papermilllaw22_awake.calls k  t186 _ A7.out).mono ?_); rintro e w9 ⟨rfl, hb⟩; have n0_ := Aside0.mk (below_step (by repeat (first | (with_reducible first | exact HB.out | apply below_alloc | apply pw_below_drewN | apply below_drew1) | exact HB.out)) hb); clear HB; have HB := n0_; clear n0_; (try clear hb); (try clear hb2); (try clear hk); (try clear hi)))
           go_ret
           exact ⟨by first | rfl | (simp [errW_none, errW_some] <;> rfl) | (simp [*, errW_none, errW_some] <;> rfl), by repeat (first | (with_reducible first | exact HB.out | apply below_alloc | apply pw_below_drewN | apply below_drew1) | exact HB.out)⟩)
    · rw [if_neg c6] at H
      have c6b0 : (t183 == t185) = false := beq_eq_false_iff_ne.mpr c6
      have c6b1 : (t183 != t185) = true := bne_iff_ne.mpr c6
      exact absurd ((Option.some.inj H).trans hr_.out) (by decide)
  · rw [if_neg c5] at H
    have c5b0 : (t182 == t184) = false := beq_eq_false_iff_ne.mpr c5
    have c5b1 : (t182 != t184) = true := bne_iff_ne.mpr c5
    exact absurd ((Option.some.inj H).trans hr_.out) (by decide)

/-- THE ONE PURE STATEMENT of papermilllaw22_BrokeMasses: yours. -/
def papermilllaw22_BrokeMasses.Pure : Prop := ∀ (a0 : Int) (a1 : Int), (Lit.int .i64 a0).wf = true → (Lit.int .i64 a1).wf = true → ∃ k, papermilllaw22_BrokeMasses.f k a0 a1 = some true
theorem papermilllaw22_BrokeMasses.walk (P : papermilllaw22_BrokeMasses.Pure) (a0 : Int) (a1 : Int) (w : World) (w0 : (Lit.int .i64 a0).wf = true) (w1 : (Lit.int .i64 a1).wf = true) :
    Calls Try.prog 6 #[.int .i64 a0, .int .i64 a1] w fun e w' => e = .returned (.bool true) ∧ Below w.heap.size w w' := by
  obtain ⟨k, h⟩ := P a0 a1 w0 w1
  refine (papermilllaw22_BrokeMasses.calls k a0 a1 true w ⟨rfl⟩ h).mono ?_
  rintro e w' ⟨rfl, hd⟩
  exact ⟨rfl, hd⟩

end Go.Proofs.Ythbpjiembjapdaa.P
