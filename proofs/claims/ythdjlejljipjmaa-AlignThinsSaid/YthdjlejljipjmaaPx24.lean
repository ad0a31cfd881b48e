-- Written by a program (wip/prog/pp.py) over the kit's print; some of its functions are proved by hand. Not trusted: Lean checks it.
import Derived.Test.YthdjlejljipjmaaPx0
import Derived.Test.YthdjlejljipjmaaPx14
namespace Go.Proofs.Ythdjlejljipjmaa.P
open Go.RowKit Go.Proofs.YthdjlejljipjmaaW.PrintWords Go.Proofs.YthdjlejljipjmaaW.PrintLast Go.Proofs.YthdjlejljipjmaaW.PrintMore
attribute [local go_sem] max2_int min2_int max_two min_two max_three min_three max_four min_four   -- for this text's walks alone
set_option linter.unusedVariables false
set_option linter.unusedSimpArgs false

/-! ### papermillref14_Slip: function 24 -/
def papermillref14_Slip.l0 : Nat → List (S41) → Int → Int → Int → Option (Int × Int × Int)
  | 0, _, _, _, _ => none
  | k + 1, x0, x6, x7, x8 => if x8 < (x0.length : Int) then (if 0 ≤ x8 then (papermillref14_Slip.l0 k x0 (mn x6 (wrap64 (((rd_T41 x0 x8).f1) - ((rd_T41 x0 x8).f0)))) (mx x7 (wrap64 (((rd_T41 x0 x8).f1) - ((rd_T41 x0 x8).f0)))) (wrap64 (x8 + 1))) else (none)) else (some (x6, x7, 0))
def papermillref14_Slip.f (k : Nat) (l0 : List (S41)) : Option (Int × Int × Int) := (papermillref14_Check.f k l0).bind fun t285 => (if t285 = 0 then (if 0 < (l0.length : Int) then (papermillref14_Slip.l0 k l0 (wrap64 (((rd_T41 l0 0).f1) - ((rd_T41 l0 0).f0))) (wrap64 (((rd_T41 l0 0).f1) - ((rd_T41 l0 0).f0))) 1) else (none)) else (some (0, 0, t285)))
theorem papermillref14_Slip.mono_l : ∀ k, (∀ y0 y1 y2 y3, LeO (papermillref14_Slip.l0 k y0 y1 y2 y3) (papermillref14_Slip.l0 (k + 1) y0 y1 y2 y3))
  | 0 => fun _ _ _ _ r h => by simp [papermillref14_Slip.l0] at h
  | k + 1 => by
    have ih0 := papermillref14_Slip.mono_l k
    · intro y0 y1 y2 y3
      unfold papermillref14_Slip.l0
      repeat' first
      | (with_reducible exact ih0 _ _ _ _)
      | (with_reducible exact papermillref14_Check.mono _ _)
      | (with_reducible exact LeO.refl _)
      | (with_reducible exact LeO.none _)
      | (with_reducible refine LeO.ite ?_ ?_)
      | (with_reducible refine LeO.bind ?_ (fun _ => ?_))
      | exact ih0 _ _ _ _
      | exact papermillref14_Check.mono _ _
      | exact LeO.none _
      | refine LeO.ite ?_ ?_
      | refine LeO.bind ?_ (fun _ => ?_)
theorem papermillref14_Slip.mono : ∀ a0 k, LeO (papermillref14_Slip.f k a0) (papermillref14_Slip.f (k + 1) a0) := by
  intro a0 k
  have ih0 := papermillref14_Slip.mono_l k
  unfold papermillref14_Slip.f
  repeat' first
      | (with_reducible exact ih0 _ _ _ _)
      | (with_reducible exact papermillref14_Check.mono _ _)
      | (with_reducible exact LeO.refl _)
      | (with_reducible exact LeO.none _)
      | (with_reducible refine LeO.ite ?_ ?_)
      | (with_reducible refine LeO.bind ?_ (fun _ => ?_))
      | exact ih0 _ _ _ _
      | exact papermillref14_Check.mono _ _
      | exact LeO.none _
      | refine LeO.ite ?_ ?_
      | refine LeO.bind ?_ (fun _ => ?_)
set_option maxHeartbeats 8000000 in
set_option maxRecDepth 100000 in
theorem papermillref14_Slip.calls (k : Nat) (A0 : Option Addr) (c0 : Nat) (l0 : List (S41)) (r1 : Int) (r2 : Int) (r3 : Int) (w : World) (hr0 : Kd.C k41 w A0 l0.length l0) (hc0 : l0.length ≤ c0) (h : papermillref14_Slip.f k l0 = some (r1, r2, r3)) :
    Calls Try.prog 24 #[.slice A0 l0.length c0] w fun e w' => e = .returned (.tuple #[.int .i64 r1, .int .i64 r2, .int .i64 r3]) ∧ Below w.heap.size w w' := by
  have HR0 := Aside0.mk hr0
  have HC0 := Aside0.mk hc0
  clear hr0 hc0
  have HB := Aside0.mk (Below.refl w.heap.size w)
  have H : ((papermillref14_Check.f k l0).bind fun t285 => (if t285 = 0 then (if 0 < (l0.length : Int) then (papermillref14_Slip.l0 k l0 (wrap64 (((rd_T41 l0 0).f1) - ((rd_T41 l0 0).f0))) (wrap64 (((rd_T41 l0 0).f1) - ((rd_T41 l0 0).f0))) 1) else (none)) else (some (0, 0, t285)))) = some (r1, r2, r3) := h
  clear h
  replace H := Option.bind_eq_some_iff.mp H
  obtain ⟨t285, A20, H⟩ := H
  replace H : (if t285 = 0 then (if 0 < (l0.length : Int) then (papermillref14_Slip.l0 k l0 (wrap64 (((rd_T41 l0 0).f1) - ((rd_T41 l0 0).f0))) (wrap64 (((rd_T41 l0 0).f1) - ((rd_T41 l0 0).f0))) 1) else (none)) else (some (0, 0, t285))) = some (r1, r2, r3) := H
  have A2 := Aside0.mk A20
  clear A20
  by_cases c3 : t285 = 0
  · rw [if_pos c3] at H
    have c3b0 : (t285 == 0) = true := beq_iff_eq.mpr c3
    have c3b1 : (t285 != 0) = false := bne_eq_false_iff_eq.mpr c3
    clear c3
    by_cases c4 : 0 < (l0.length : Int)
    · rw [if_pos c4] at H
      have c4b0 : decide (0 < (l0.length : Int)) = true := decide_eq_true c4
      have c4b1 : decide (0 < l0.length) = true := decide_eq_true (by omega)
      clear c4
      have H' := Aside0.mk H
      clear H
      go_enter Try.func24, Try.ntmps24
      go_wp2_with (first | (go_at_call 14; (with_reducible refine (papermillref14_Check.calls k _ _ l0 t285 _ ?side1 ?side2 A2.out).mono ?_); (case side1 => repeat (first | exact HR0.out | (with_reducible refine Kd.C_alloc ?_ _) | (with_reducible refine Kd.C_drewN ?_ _) | (with_reducible refine Kd.C_drew ?_))); (case side2 => exact HC0.out); rintro e w' ⟨rfl, ⟨nd, rfl⟩⟩; (try first | exact ⟨rfl, _, World.drewN_drewN _ _ _⟩ | exact ⟨rfl, _, Eq.trans (World.drewN_drewN _ _ _) (congrArg (World.drewN _) (Nat.add_assoc _ _ _))⟩); have p286 : 0 ≤ (0 : Int) := (by omega); have q286 : 0 < (l0.length : Int) := of_decide_eq_true (by first | (with_reducible assumption) | assumption); obtain ⟨ad286, e286, hx286_0, hx286_1⟩ := at_T41 HR0.out 0 p286 q286; cases e286; have qi286 : (0 < l0.length) = True := eq_true (by omega); (try rw [show ((0 : Int)).toNat = 0 from rfl] at hx286_0); (try rw [show 0 * 2 = 0 from rfl] at hx286_0); (try rw [Addr.add_zero'] at hx286_0); (try rw [show ((0 : Int)).toNat = 0 from rfl] at hx286_1); (try rw [show 0 * 2 = 0 from rfl] at hx286_1); (try rw [Addr.add_zero'] at hx286_1); replace p286 := eq_true p286; replace q286 := eq_true q286; have p287 : 0 ≤ (0 : Int) := (by omega); have q287 : 0 < (l0.length : Int) := of_decide_eq_true (by first | (with_reducible assumption) | assumption); obtain ⟨ad287, e287, hx287_0, hx287_1⟩ := at_T41 HR0.out 0 p287 q287; obtain rfl : ad286 = ad287 := (by injection e287); have qi287 : (0 < l0.length) = True := eq_true (by omega); (try rw [show ((0 : Int)).toNat = 0 from rfl] at hx287_0); (try rw [show 0 * 2 = 0 from rfl] at hx287_0); (try rw [Addr.add_zero'] at hx287_0); (try rw [show ((0 : Int)).toNat = 0 from rfl] at hx287_1); (try rw [show 0 * 2 = 0 from rfl] at hx287_1); (try rw [Addr.add_zero'] at hx287_1); replace p287 := eq_true p287; replace q287 := eq_true q287; have p288 : 0 ≤ (0 : Int) := (by omega); have q288 : 0 < (l0.length : Int) := of_decide_eq_true (by first | (with_reducible assumption) | assumption); obtain ⟨ad288, e288, hx288_0, hx288_1⟩ := at_T41 HR0.out 0 p288 q288; obtain rfl : ad286 = ad288 := (by injection e288); have qi288 : (0 < l0.length) = True := eq_true (by omega); (try rw [show ((0 : Int)).toNat = 0 from rfl] at hx288_0); (try rw [show 0 * 2 = 0 from rfl] at hx288_0); (try rw [Addr.add_zero'] at hx288_0); (try rw [show ((0 : Int)).toNat = 0 from rfl] at hx288_1); (try rw [show 0 * 2 = 0 from rfl] at hx288_1); (try rw [Addr.add_zero'] at hx288_1); replace p288 := eq_true p288; replace q288 := eq_true q288; have p289 : 0 ≤ (0 : Int) := (by omega); have q289 : 0 < (l0.length : Int) := of_decide_eq_true (by first | (with_reducible assumption) | assumption); obtain ⟨ad289, e289, hx289_0, hx289_1⟩ := at_T41 HR0.out 0 p289 q289; obtain rfl : ad286 = ad289 := (by injection e289); have qi289 : (0 < l0.length) = True := eq_true (by omega); (try rw [show ((0 : Int)).toNat = 0 from rfl] at hx289_0); (try rw [show 0 * 2 = 0 from rfl] at hx289_0); (try rw [Addr.add_zero'] at hx289_0); (try rw [show ((0 : Int)).toNat = 0 from rfl] at hx289_1); (try rw [show 0 * 2 = 0 from rfl] at hx289_1); (try rw [Addr.add_zero'] at hx289_1); replace p289 := eq_true p289; replace q289 := eq_true q289))
      repeat (go_quiet (first | (go_at_call 14; (with_reducible refine (papermillref14_Check.calls k _ _ l0 t285 _ ?side1 ?side2 A2.out).mono ?_); (case side1 => repeat (first | exact HR0.out | (with_reducible refine Kd.C_alloc ?_ _) | (with_reducible refine Kd.C_drewN ?_ _) | (with_reducible refine Kd.C_drew ?_))); (case side2 => exact HC0.out); rintro e w' ⟨rfl, ⟨nd, rfl⟩⟩; (try first | exact ⟨rfl, _, World.drewN_drewN _ _ _⟩ | exact ⟨rfl, _, Eq.trans (World.drewN_drewN _ _ _) (congrArg (World.drewN _) (Nat.add_assoc _ _ _))⟩); have p286 : 0 ≤ (0 : Int) := (by omega); have q286 : 0 < (l0.length : Int) := of_decide_eq_true (by first | (with_reducible assumption) | assumption); obtain ⟨ad286, e286, hx286_0, hx286_1⟩ := at_T41 HR0.out 0 p286 q286; cases e286; have qi286 : (0 < l0.length) = True := eq_true (by omega); (try rw [show ((0 : Int)).toNat = 0 from rfl] at hx286_0); (try rw [show 0 * 2 = 0 from rfl] at hx286_0); (try rw [Addr.add_zero'] at hx286_0); (try rw [show ((0 : Int)).toNat = 0 from rfl] at hx286_1); (try rw [show 0 * 2 = 0 from rfl] at hx286_1); (try rw [Addr.add_zero'] at hx286_1); replace p286 := eq_true p286; replace q286 := eq_true q286; have p287 : 0 ≤ (0 : Int) := (by omega); have q287 : 0 < (l0.length : Int) := of_decide_eq_true (by first | (with_reducible assumption) | assumption); obtain ⟨ad287, e287, hx287_0, hx287_1⟩ := at_T41 HR0.out 0 p287 q287; obtain rfl : ad286 = ad287 := (by injection e287); have qi287 : (0 < l0.length) = True := eq_true (by omega); (try rw [show ((0 : Int)).toNat = 0 from rfl] at hx287_0); (try rw [show 0 * 2 = 0 from rfl] at hx287_0); (try rw [Addr.add_zero'] at hx287_0); (try rw [show ((0 : Int)).toNat = 0 from rfl] at hx287_1); (try rw [show 0 * 2 = 0 from rfl] at hx287_1); (try rw [Addr.add_zero'] at hx287_1); replace p287 := eq_true p287; replace q287 := eq_true q287; have p288 : 0 ≤ (0 : Int) := (by omega); have q288 : 0 < (l0.length : Int) := of_decide_eq_true (by first | (with_reducible assumption) | assumption); obtain ⟨ad288, e288, hx288_0, hx288_1⟩ := at_T41 HR0.out 0 p288 q288; obtain rfl : ad286 = ad288 := (by injection e288); have qi288 : (0 < l0.length) = True := eq_true (by omega); (try rw [show ((0 : Int)).toNat = 0 from rfl] at hx288_0); (try rw [show 0 * 2 = 0 from rfl] at hx288_0); (try rw [Addr.add_zero'] at hx288_0); (try rw [show ((0 : Int)).toNat = 0 from rfl] at hx288_1); (try rw [show 0 * 2 = 0 from rfl] at hx288_1); (try rw [Addr.add_zero'] at hx288_1); replace p288 := eq_true p288; replace q288 := eq_true q288; have p289 : 0 ≤ (0 : Int) := (by omega); have q289 : 0 < (l0.length : Int) := of_decide_eq_true (by first | (with_reducible assumption) | assumption); obtain ⟨ad289, e289, hx289_0, hx289_1⟩ := at_T41 HR0.out 0 p289 q289; obtain rfl : ad286 = ad289 := (by injection e289); have qi289 : (0 < l0.length) = True := eq_true (by omega); (try rw [show ((0 : Int)).toNat = 0 from rfl] at hx289_0); (try rw [show 0 * 2 = 0 from rfl] at hx289_0); (try rw [Addr.add_zero'] at hx289_0); (try rw [show ((0 : Int)).toNat = 0 from rfl] at hx289_1); (try rw [show 0 * 2 = 0 from rfl] at hx289_1); (try rw [Addr.add_zero'] at hx289_1); replace p289 := eq_true p289; replace q289 := eq_true q289)); try go_wp2_with (first | (go_at_call 14; (with_reducible refine (papermillref14_Check.calls k _ _ l0 t285 _ ?side1 ?side2 A2.out).mono ?_); (case side1 => repeat (first | exact HR0.out | (with_reducible refine Kd.C_alloc ?_ _) | (with_reducible refine Kd.C_drewN ?_ _) | (with_reducible refine Kd.C_drew ?_))); (case side2 => exact HC0.out); rintro e w' ⟨rfl, ⟨nd, rfl⟩⟩; (try first | exact ⟨rfl, _, World.drewN_drewN _ _ _⟩ | exact ⟨rfl, _, Eq.trans (World.drewN_drewN _ _ _) (congrArg (World.drewN _) (Nat.add_assoc _ _ _))⟩); have p286 : 0 ≤ (0 : Int) := (by omega); have q286 : 0 < (l0.length : Int) := of_decide_eq_true (by first | (with_reducible assumption) | assumption); obtain ⟨ad286, e286, hx286_0, hx286_1⟩ := at_T41 HR0.out 0 p286 q286; cases e286; have qi286 : (0 < l0.length) = True := eq_true (by omega); (try rw [show ((0 : Int)).toNat = 0 from rfl] at hx286_0); (try rw [show 0 * 2 = 0 from rfl] at hx286_0); (try rw [Addr.add_zero'] at hx286_0); (try rw [show ((0 : Int)).toNat = 0 from rfl] at hx286_1); (try rw [show 0 * 2 = 0 from rfl] at hx286_1); (try rw [Addr.add_zero'] at hx286_1); replace p286 := eq_true p286; replace q286 := eq_true q286; have p287 : 0 ≤ (0 : Int) := (by omega); have q287 : 0 < (l0.length : Int) := of_decide_eq_true (by first | (with_reducible assumption) | assumption); obtain ⟨ad287, e287, hx287_0, hx287_1⟩ := at_T41 HR0.out 0 p287 q287; obtain rfl : ad286 = ad287 := (by injection e287); have qi287 : (0 < l0.length) = True := eq_true (by omega); (try rw [show ((0 : Int)).toNat = 0 from rfl] at hx287_0); (try rw [show 0 * 2 = 0 from rfl] at hx287_0); (try rw [Addr.add_zero'] at hx287_0); (try rw [show ((0 : Int)).toNat = 0 from rfl] at hx287_1); (try rw [show 0 * 2 = 0 from rfl] at hx287_1); (try rw [Addr.add_zero'] at hx287_1); replace p287 := eq_true p287; replace q287 := eq_true q287; have p288 : 0 ≤ (0 : Int) := (by omega); have q288 : 0 < (l0.length : Int) := of_decide_eq_true (by first | (with_reducible assumption) | assumption); obtain ⟨ad288, e288, hx288_0, hx288_1⟩ := at_T41 HR0.out 0 p288 q288; obtain rfl : ad286 = ad288 := (by injection e288); have qi288 : (0 < l0.length) = True := eq_true (by omega); (try rw [show ((0 : Int)).toNat = 0 from rfl] at hx288_0); (try rw [show 0 * 2 = 0 from rfl] at hx288_0); (try rw [Addr.add_zero'] at hx288_0); (try rw [show ((0 : Int)).toNat = 0 from rfl] at hx288_1); (try rw [show 0 * 2 = 0 from rfl] at hx288_1); (try rw [Addr.add_zero'] at hx288_1); replace p288 := eq_true p288; replace q288 := eq_true q288; have p289 : 0 ≤ (0 : Int) := (by omega); have q289 : 0 < (l0.length : Int) := of_decide_eq_true (by first | (with_reducible assumption) | assumption); obtain ⟨ad289, e289, hx289_0, hx289_1⟩ := at_T41 HR0.out 0 p289 q289; obtain rfl : ad286 = ad289 := (by injection e289); have qi289 : (0 < l0.length) = True := eq_true (by omega); (try rw [show ((0 : Int)).toNat = 0 from rfl] at hx289_0); (try rw [show 0 * 2 = 0 from rfl] at hx289_0); (try rw [Addr.add_zero'] at hx289_0); (try rw [show ((0 : Int)).toNat = 0 from rfl] at hx289_1); (try rw [show 0 * 2 = 0 from rfl] at hx289_1); (try rw [Addr.add_zero'] at hx289_1); replace p289 := eq_true p289; replace q289 := eq_true q289)))
      go_loopg [6, 7, 8] k (fun kq v6 v7 v8 w' => ∃ (x6_1 : Int) (x7_1 : Int) (x8_1 : Int), v6 = .int .i64 x6_1 ∧ v7 = .int .i64 x7_1 ∧ v8 = .int .i64 x8_1 ∧ Aside0 (papermillref14_Slip.l0 kq l0 x6_1 x7_1 x8_1 = some (r1, r2, r3)) ∧ Aside0 (kq ≤ k) ∧ Aside0 (Below w.heap.size w w'))
      case atStart => exact ⟨(wrap64 (((rd_T41 l0 0).f1) - ((rd_T41 l0 0).f0))), (wrap64 (((rd_T41 l0 0).f1) - ((rd_T41 l0 0).f0))), (1), (by first | rfl | (simp; done) | (simp [*]; done)), (by first | rfl | (simp; done) | (simp [*]; done)), (by first | rfl | (simp; done) | (simp [*]; done)), H', ⟨Nat.le_refl _⟩, ⟨by repeat (first | (with_reducible first | exact HB.out | apply below_alloc | apply pw_below_drewN | apply below_drew1) | exact HB.out)⟩⟩
      case round =>
        clear H'
        try clear c2
        try clear p2
        try clear q2
        try clear hx2
        try clear qi2
        try clear c3
        try clear c3b0
        try clear c3b1
        try clear c4
        try clear c4b0
        try clear c4b1
        try clear hx286_0
        try clear hx286_1
        try clear hx287_0
        try clear hx287_1
        try clear hx288_0
        try clear hx288_1
        try clear hx289_0
        try clear hx289_1
        try clear p286
        try clear p287
        try clear p288
        try clear p289
        try clear q286
        try clear q287
        try clear q288
        try clear q289
        obtain ⟨x6_1, x7_1, x8_1, rfl, rfl, rfl, HA, HK1, HB⟩ := hrel
        cases gk with
        | zero => exact absurd HA.out (by simp [papermillref14_Slip.l0])
        | succ k1 =>
          have H := HA.out
          clear HA
          simp only [papermillref14_Slip.l0] at H
          by_cases c5 : x8_1 < (l0.length : Int)
          · rw [if_pos c5] at H
            have c5b0 : decide (x8_1 < (l0.length : Int)) = true := decide_eq_true c5
            clear c5
            by_cases c6 : 0 ≤ x8_1
            · rw [if_pos c6] at H
              have c6b0 : decide (0 ≤ x8_1) = true := decide_eq_true c6
              clear c6
              obtain ⟨ji7, hji7⟩ : ∃ j_ : Int, (mn x6_1 (wrap64 (((rd_T41 l0 x8_1).f1) - ((rd_T41 l0 x8_1).f0)))) = j_ := ⟨_, rfl⟩
              replace H : (papermillref14_Slip.l0 k1 l0 ji7 (mx x7_1 (wrap64 (((rd_T41 l0 x8_1).f1) - ((rd_T41 l0 x8_1).f0)))) (wrap64 (x8_1 + 1))) = some (r1, r2, r3) := by first | (rw [hji7] at H; exact H) | (simp only [hji7] at H ⊢; exact H)
              have hji7_ : (if (wrap64 (((rd_T41 l0 x8_1).f1) - ((rd_T41 l0 x8_1).f0))) < x6_1 then (wrap64 (((rd_T41 l0 x8_1).f1) - ((rd_T41 l0 x8_1).f0))) else x6_1) = ji7 := hji7
              obtain ⟨ji8, hji8⟩ : ∃ j_ : Int, (mx x7_1 (wrap64 (((rd_T41 l0 x8_1).f1) - ((rd_T41 l0 x8_1).f0)))) = j_ := ⟨_, rfl⟩
              replace H : (papermillref14_Slip.l0 k1 l0 ji7 ji8 (wrap64 (x8_1 + 1))) = some (r1, r2, r3) := by first | (rw [hji8] at H; exact H) | (simp only [hji8] at H ⊢; exact H)
              have hji8_ : (if x7_1 < (wrap64 (((rd_T41 l0 x8_1).f1) - ((rd_T41 l0 x8_1).f0))) then (wrap64 (((rd_T41 l0 x8_1).f1) - ((rd_T41 l0 x8_1).f0))) else x7_1) = ji8 := hji8
              have H' := Aside0.mk H
              clear H
              have p290 : 0 ≤ (x8_1 : Int) := of_decide_eq_true (by first | (with_reducible assumption) | assumption)
              have q290 : x8_1 < (l0.length : Int) := of_decide_eq_true (by first | (with_reducible assumption) | assumption)
              obtain ⟨ad290, e290, hx290_0, hx290_1⟩ := at_T41 HR0.out x8_1 p290 q290
              obtain rfl : ad286 = ad290 := (by injection e290)
              replace hx290_0 := (HB.out.cell (World.block_lt_of_cell? w _ hx290_0)).trans hx290_0
              replace hx290_1 := (HB.out.cell (World.block_lt_of_cell? w _ hx290_1)).trans hx290_1
              replace p290 := eq_true p290
              replace q290 := eq_true q290
              have p291 : 0 ≤ (x8_1 : Int) := of_decide_eq_true (by first | (with_reducible assumption) | assumption)
              have q291 : x8_1 < (l0.length : Int) := of_decide_eq_true (by first | (with_reducible assumption) | assumption)
              obtain ⟨ad291, e291, hx291_0, hx291_1⟩ := at_T41 HR0.out x8_1 p291 q291
              obtain rfl : ad286 = ad291 := (by injection e291)
              replace hx291_0 := (HB.out.cell (World.block_lt_of_cell? w _ hx291_0)).trans hx291_0
              replace hx291_1 := (HB.out.cell (World.block_lt_of_cell? w _ hx291_1)).trans hx291_1
              replace p291 := eq_true p291
              replace q291 := eq_true q291
              have p292 : 0 ≤ (x8_1 : Int) := of_decide_eq_true (by first | (with_reducible assumption) | assumption)
              have q292 : x8_1 < (l0.length : Int) := of_decide_eq_true (by first | (with_reducible assumption) | assumption)
              obtain ⟨ad292, e292, hx292_0, hx292_1⟩ := at_T41 HR0.out x8_1 p292 q292
              obtain rfl : ad286 = ad292 := (by injection e292)
              replace hx292_0 := (HB.out.cell (World.block_lt_of_cell? w _ hx292_0)).trans hx292_0
              replace hx292_1 := (HB.out.cell (World.block_lt_of_cell? w _ hx292_1)).trans hx292_1
              replace p292 := eq_true p292
              replace q292 := eq_true q292
              have p293 : 0 ≤ (x8_1 : Int) := of_decide_eq_true (by first | (with_reducible assumption) | assumption)
              have q293 : x8_1 < (l0.length : Int) := of_decide_eq_true (by first | (with_reducible assumption) | assumption)
              obtain ⟨ad293, e293, hx293_0, hx293_1⟩ := at_T41 HR0.out x8_1 p293 q293
              obtain rfl : ad286 = ad293 := (by injection e293)
              replace hx293_0 := (HB.out.cell (World.block_lt_of_cell? w _ hx293_0)).trans hx293_0
              replace hx293_1 := (HB.out.cell (World.block_lt_of_cell? w _ hx293_1)).trans hx293_1
              replace p293 := eq_true p293
              replace q293 := eq_true q293
              go_wp2
              repeat (go_quiet (fail); try go_wp2)
              go_roundg k1
              case measure => have := HK1.out; omega
              case rel => exact ⟨(ji7), (ji8), (wrap64 (x8_1 + 1)), (by first | rfl | (simp; done) | (simp only [← hji7] <;> (first | rfl | simp)) | (simp [*]; done)), (by first | rfl | (simp; done) | (simp only [← hji8] <;> (first | rfl | simp)) | (simp [*]; done)), (by first | rfl | (simp; done) | (simp [*]; done)), H', ⟨by have := HK1.out; omega⟩, ⟨by repeat (first | (with_reducible first | exact HB.out | apply below_alloc | apply pw_below_drewN | apply below_drew1) | exact HB.out)⟩⟩
            · rw [if_neg c6] at H
              exact absurd H (by simp)
          · rw [if_neg c5] at H
            have c5b0 : decide (x8_1 < (l0.length : Int)) = false := decide_eq_false c5
            clear c5
            simp only [Option.some.injEq, Prod.mk.injEq] at H
            obtain ⟨rfl, rfl, rfl⟩ := H
            go_wp2
            repeat (go_quiet (fail); try go_wp2)
            go_ret3
            exact ⟨by first | rfl | (simp [errW_none, errW_some] <;> rfl) | (simp [*, errW_none, errW_some] <;> rfl), by repeat (first | (with_reducible first | exact HB.out | apply below_alloc | apply pw_below_drewN | apply below_drew1) | exact HB.out)⟩
    · rw [if_neg c4] at H
      exact absurd H (by simp)
  · rw [if_neg c3] at H
    have c3b0 : (t285 == 0) = false := beq_eq_false_iff_ne.mpr c3
    have c3b1 : (t285 != 0) = true := bne_iff_ne.mpr c3
    simp only [Option.some.injEq, Prod.mk.injEq] at H
    obtain ⟨rfl, rfl, rfl⟩ := H
    go_enter Try.func24, Try.ntmps24
    go_wp2_with (first | (go_at_call 14; (with_reducible refine (papermillref14_Check.calls k _ _ l0 t285 _ ?side1 ?side2 A2.out).mono ?_); (case side1 => repeat (first | exact HR0.out | (with_reducible refine Kd.C_alloc ?_ _) | (with_reducible refine Kd.C_drewN ?_ _) | (with_reducible refine Kd.C_drew ?_))); (case side2 => exact HC0.out); rintro e w' ⟨rfl, ⟨nd, rfl⟩⟩; (try first | exact ⟨rfl, _, World.drewN_drewN _ _ _⟩ | exact ⟨rfl, _, Eq.trans (World.drewN_drewN _ _ _) (congrArg (World.drewN _) (Nat.add_assoc _ _ _))⟩)))
    repeat (go_quiet (first | (go_at_call 14; (with_reducible refine (papermillref14_Check.calls k _ _ l0 t285 _ ?side1 ?side2 A2.out).mono ?_); (case side1 => repeat (first | exact HR0.out | (with_reducible refine Kd.C_alloc ?_ _) | (with_reducible refine Kd.C_drewN ?_ _) | (with_reducible refine Kd.C_drew ?_))); (case side2 => exact HC0.out); rintro e w' ⟨rfl, ⟨nd, rfl⟩⟩; (try first | exact ⟨rfl, _, World.drewN_drewN _ _ _⟩ | exact ⟨rfl, _, Eq.trans (World.drewN_drewN _ _ _) (congrArg (World.drewN _) (Nat.add_assoc _ _ _))⟩))); try go_wp2_with (first | (go_at_call 14; (with_reducible refine (papermillref14_Check.calls k _ _ l0 t285 _ ?side1 ?side2 A2.out).mono ?_); (case side1 => repeat (first | exact HR0.out | (with_reducible refine Kd.C_alloc ?_ _) | (with_reducible refine Kd.C_drewN ?_ _) | (with_reducible refine Kd.C_drew ?_))); (case side2 => exact HC0.out); rintro e w' ⟨rfl, ⟨nd, rfl⟩⟩; (try first | exact ⟨rfl, _, World.drewN_drewN _ _ _⟩ | exact ⟨rfl, _, Eq.trans (World.drewN_drewN _ _ _) (congrArg (World.drewN _) (Nat.add_assoc _ _ _))⟩))))
    go_ret3
    exact ⟨by first | rfl | (simp [errW_none, errW_some] <;> rfl) | (simp [*, errW_none, errW_some] <;> rfl), by repeat (first | (with_reducible first | exact HB.out | apply below_alloc | apply pw_below_drewN | apply below_drew1) | exact HB.out)⟩

end Go.Proofs.Ythdjlejljipjmaa.P
