-- Written by a program (wip/prog/pp.py) over the kit's print; some of its functions are proved by hand. Not trusted: Lean checks it.
import Derived.Test.YtnkmeocccbkdkaaPx0
import Derived.Test.YtnkmeocccbkdkaaPx34
namespace Go.Proofs.Ytnkmeocccbkdkaa.P
open Go.RowKit Go.Proofs.YtnkmeocccbkdkaaW.PrintWords Go.Proofs.YtnkmeocccbkdkaaW.PrintLast Go.Proofs.YtnkmeocccbkdkaaW.PrintMore
attribute [local go_sem] max2_int min2_int max_two min_two max_three min_three max_four min_four   -- for this text's walks alone
set_option linter.unusedVariables false
set_option linter.unusedSimpArgs false

/-! ### papermillref22_Check: function 29 -/
mutual
def papermillref22_Check.j0 : Nat → List (S63) → Int → Bool → Option (Int)
  | 0, _, _, _ => none
  | k + 1, x0, x1, x14 => if x14 = true then (some 1) else (if (x0.length : Int) > 512 then (some 8) else (papermillref22_Check.l0 k x0 x1 0))
def papermillref22_Check.l0 : Nat → List (S63) → Int → Int → Option (Int)
  | 0, _, _, _ => none
  | k + 1, x0, x1, x5 => if x5 < (x0.length : Int) then (if 0 ≤ x5 then (if ((rd_T63 x0 x5).f0) < 0 then (papermillref22_Check.j2 k x0 x1 x5 true ((rd_T63 x0 x5).f0) ((rd_T63 x0 x5).f1) ((rd_T63 x0 x5).f2) ((rd_T63 x0 x5).f3)) else (papermillref22_Check.j2 k x0 x1 x5 (decide (((rd_T63 x0 x5).f0) > 2147483647)) ((rd_T63 x0 x5).f0) ((rd_T63 x0 x5).f1) ((rd_T63 x0 x5).f2) ((rd_T63 x0 x5).f3))) else (none)) else (papermillref22_Check.l1 k x0 x1 0 0)
def papermillref22_Check.j2 : Nat → List (S63) → Int → Int → Bool → Int → Int → Int → Int → Option (Int)
  | 0, _, _, _, _, _, _, _, _ => none
  | k + 1, x0, x1, x5, x35, x534000, x534001, x534002, x534003 => if x35 = true then (some 1) else (if x534001 < 1 then (papermillref22_Check.j3 k x0 x1 x5 true x534000 x534001 x534002 x534003) else (papermillref22_Check.j3 k x0 x1 x5 (decide (x534001 > 7)) x534000 x534001 x534002 x534003))
def papermillref22_Check.j3 : Nat → List (S63) → Int → Int → Bool → Int → Int → Int → Int → Option (Int)
  | 0, _, _, _, _, _, _, _, _ => none
  | k + 1, x0, x1, x5, x43, x534000, x534001, x534002, x534003 => if x43 = true then (some 17) else (if x534002 < 1 then (some 1) else (if x534002 > 1099511627776 then (some 1) else (if x534003 < 0 then (some 1) else (if x534003 > 206158430208000 then (some 1) else (papermillref22_Check.l0 k x0 x1 (wrap64 (x5 + 1)))))))
def papermillref22_Check.l1 : Nat → List (S63) → Int → Int → Int → Option (Int)
  | 0, _, _, _, _ => none
  | k + 1, x0, x1, x7, x8 => if x8 < (x0.length : Int) then (if x8 > 0 then (if 0 ≤ x8 then (if 0 ≤ (wrap64 (x8 - 1)) then (if (wrap64 (x8 - 1)) < (x0.length : Int) then (papermillref22_Check.j5 k x0 x1 x7 x8 (decide (((rd_T63 x0 x8).f0) < ((rd_T63 x0 (wrap64 (x8 - 1))).f0)))) else (none)) else (none)) else (none)) else (papermillref22_Check.j5 k x0 x1 x7 x8 false)) else (some 0)
def papermillref22_Check.j5 : Nat → List (S63) → Int → Int → Int → Bool → Option (Int)
  | 0, _, _, _, _, _ => none
  | k + 1, x0, x1, x7, x8, x83 => if x83 = true then (some 9) else (if 0 ≤ x8 then (if x8 < (x0.length : Int) then (if ((rd_T63 x0 x8).f1) = 6 then (papermillref22_Check.j6 k x0 x1 x7 x8 (decide (((rd_T63 x0 x8).f2) > x7))) else (papermillref22_Check.j6 k x0 x1 x7 x8 false)) else (none)) else (none))
def papermillref22_Check.j6 : Nat → List (S63) → Int → Int → Int → Bool → Option (Int)
  | 0, _, _, _, _, _ => none
  | k + 1, x0, x1, x7, x8, x98 => if x98 = true then (some 19) else (if 0 ≤ x8 then (if x8 < (x0.length : Int) then ((papermillref22_Change.f ((rd_T63 x0 x8).f0) ((rd_T63 x0 x8).f1) ((rd_T63 x0 x8).f2) ((rd_T63 x0 x8).f3)).bind fun t539 => (if (wrap64 (x7 + t539)) > x1 then (some 8) else (papermillref22_Check.l1 k x0 x1 (wrap64 (x7 + t539)) (wrap64 (x8 + 1))))) else (none)) else (none))
end
def papermillref22_Check.f (k : Nat) (l0 : List (S63)) (a1 : Int) : Option (Int) := if a1 < 0 then (papermillref22_Check.j0 k l0 a1 true) else (papermillref22_Check.j0 k l0 a1 (decide (a1 > 1099511627776)))
theorem papermillref22_Check.mono_l : ∀ k, (∀ y0 y1 y2, LeO (papermillref22_Check.j0 k y0 y1 y2) (papermillref22_Check.j0 (k + 1) y0 y1 y2)) ∧ (∀ y0 y1 y2, LeO (papermillref22_Check.l0 k y0 y1 y2) (papermillref22_Check.l0 (k + 1) y0 y1 y2)) ∧ (∀ y0 y1 y2 y3 y4 y5 y6 y7, LeO (papermillref22_Check.j2 k y0 y1 y2 y3 y4 y5 y6 y7) (papermillref22_Check.j2 (k + 1) y0 y1 y2 y3 y4 y5 y6 y7)) ∧ (∀ y0 y1 y2 y3 y4 y5 y6 y7, LeO (papermillref22_Check.j3 k y0 y1 y2 y3 y4 y5 y6 y7) (papermillref22_Check.j3 (k + 1) y0 y1 y2 y3 y4 y5 y6 y7)) ∧ (∀ y0 y1 y2 y3, LeO (papermillref22_Check.l1 k y0 y1 y2 y3) (papermillref22_Check.l1 (k + 1) y0 y1 y2 y3)) ∧ (∀ y0 y1 y2 y3 y4, LeO (papermillref22_Check.j5 k y0 y1 y2 y3 y4) (papermillref22_Check.j5 (k + 1) y0 y1 y2 y3 y4)) ∧ (∀ y0 y1 y2 y3 y4, LeO (papermillref22_Check.j6 k y0 y1 y2 y3 y4) (papermillref22_Check.j6 (k + 1) y0 y1 y2 y3 y4))
  | 0 => ⟨fun _ _ _ r h => by simp [papermillref22_Check.j0] at h, fun _ _ _ r h => by simp [papermillref22_Check.l0] at h, fun _ _ _ _ _ _ _ _ r h => by simp [papermillref22_Check.j2] at h, fun _ _ _ _ _ _ _ _ r h => by simp [papermillref22_Check.j3] at h, fun _ _ _ _ r h => by simp [papermillref22_Check.l1] at h, fun _ _ _ _ _ r h => by simp [papermillref22_Check.j5] at h, fun _ _ _ _ _ r h => by simp [papermillref22_Check.j6] at h⟩
  | k + 1 => by
    obtain ⟨ih0, ih1, ih2, ih3, ih4, ih5, ih6⟩ := papermillref22_Check.mono_l k
    refine ⟨?_, ?_, ?_, ?_, ?_, ?_, ?_⟩
    · intro y0 y1 y2
      unfold papermillref22_Check.j0
      repeat' first
      | (with_reducible exact ih0 _ _ _)
      | (with_reducible exact ih1 _ _ _)
      | (with_reducible exact ih2 _ _ _ _ _ _ _ _)
      | (with_reducible exact ih3 _ _ _ _ _ _ _ _)
      | (with_reducible exact ih4 _ _ _ _)
      | (with_reducible exact ih5 _ _ _ _ _)
      | (with_reducible exact ih6 _ _ _ _ _)
      | (with_reducible exact LeO.refl _)
      | (with_reducible exact LeO.none _)
      | (with_reducible refine LeO.ite ?_ ?_)
      | (with_reducible refine LeO.bind ?_ (fun _ => ?_))
      | exact ih0 _ _ _
      | exact ih1 _ _ _
      | exact ih2 _ _ _ _ _ _ _ _
      | exact ih3 _ _ _ _ _ _ _ _
      | exact ih4 _ _ _ _
      | exact ih5 _ _ _ _ _
      | exact ih6 _ _ _ _ _
      | exact LeO.none _
      | refine LeO.ite ?_ ?_
      | refine LeO.bind ?_ (fun _ => ?_)
    · intro y0 y1 y2
      unfold papermillref22_Check.l0
      repeat' first
      | (with_reducible exact ih0 _ _ _)
      | (with_reducible exact ih1 _ _ _)
      | (with_reducible exact ih2 _ _ _ _ _ _ _ _)
      | (with_reducible exact ih3 _ _ _ _ _ _ _ _)
      | (with_reducible exact ih4 _ _ _ _)
      | (with_reducible exact ih5 _ _ _ _ _)
      | (with_reducible exact ih6 _ _ _ _ _)
      | (with_reducible exact LeO.refl _)
      | (with_reducible exact LeO.none _)
      | (with_reducible refine LeO.ite ?_ ?_)
      | (with_reducible refine LeO.bind ?_ (fun _ => ?_))
      | exact ih0 _ _ _
      | exact ih1 _ _ _
      | exact ih2 _ _ _ _ _ _ _ _
      | exact ih3 _ _ _ _ _ _ _ _
      | exact ih4 _ _ _ _
      | exact ih5 _ _ _ _ _
      | exact ih6 _ _ _ _ _
      | exact LeO.none _
      | refine LeO.ite ?_ ?_
      | refine LeO.bind ?_ (fun _ => ?_)
    · intro y0 y1 y2 y3 y4 y5 y6 y7
      unfold papermillref22_Check.j2
      repeat' first
      | (with_reducible exact ih0 _ _ _)
      | (with_reducible exact ih1 _ _ _)
      | (with_reducible exact ih2 _ _ _ _ _ _ _ _)
      | (with_reducible exact ih3 _ _ _ _ _ _ _ _)
      | (with_reducible exact ih4 _ _ _ _)
      | (with_reducible exact ih5 _ _ _ _ _)
      | (with_reducible exact ih6 _ _ _ _ _)
      | (with_reducible exact LeO.refl _)
      | (with_reducible exact LeO.none _)
      | (with_reducible refine LeO.ite ?_ ?_)
      | (with_reducible refine LeO.bind ?_ (fun _ => ?_))
      | exact ih0 _ _ _
      | exact ih1 _ _ _
      | exact ih2 _ _ _ _ _ _ _ _
      | exact ih3 _ _ _ _ _ _ _ _
      | exact ih4 _ _ _ _
      | exact ih5 _ _ _ _ _
      | exact ih6 _ _ _ _ _
      | exact LeO.none _
      | refine LeO.ite ?_ ?_
      | refine LeO.bind ?_ (fun _ => ?_)
    · intro y0 y1 y2 y3 y4 y5 y6 y7
      unfold papermillref22_Check.j3
      repeat' first
      | (with_reducible exact ih0 _ _ _)
      | (with_reducible exact ih1 _ _ _)
      | (with_reducible exact ih2 _ _ _ _ _ _ _ _)
      | (with_reducible exact ih3 _ _ _ _ _ _ _ _)
      | (with_reducible exact ih4 _ _ _ _)
      | (with_reducible exact ih5 _ _ _ _ _)
      | (with_reducible exact ih6 _ _ _ _ _)
      | (with_reducible exact LeO.refl _)
      | (with_reducible exact LeO.none _)
      | (with_reducible refine LeO.ite ?_ ?_)
      | (with_reducible refine LeO.bind ?_ (fun _ => ?_))
      | exact ih0 _ _ _
      | exact ih1 _ _ _
      | exact ih2 _ _ _ _ _ _ _ _
      | exact ih3 _ _ _ _ _ _ _ _
      | exact ih4 _ _ _ _
      | exact ih5 _ _ _ _ _
      | exact ih6 _ _ _ _ _
      | exact LeO.none _
      | refine LeO.ite ?_ ?_
      | refine LeO.bind ?_ (fun _ => ?_)
    · intro y0 y1 y2 y3
      unfold papermillref22_Check.l1
      repeat' first
      | (with_reducible exact ih0 _ _ _)
      | (with_reducible exact ih1 _ _ _)
      | (with_reducible exact ih2 _ _ _ _ _ _ _ _)
      | (with_reducible exact ih3 _ _ _ _ _ _ _ _)
      | (with_reducible exact ih4 _ _ _ _)
      | (with_reducible exact ih5 _ _ _ _ _)
      | (with_reducible exact ih6 _ _ _ _ _)
      | (with_reducible exact LeO.refl _)
      | (with_reducible exact LeO.none _)
      | (with_reducible refine LeO.ite ?_ ?_)
      | (with_reducible refine LeO.bind ?_ (fun _ => ?_))
      | exact ih0 _ _ _
      | exact ih1 _ _ _
      | exact ih2 _ _ _ _ _ _ _ _
      | exact ih3 _ _ _ _ _ _ _ _
      | exact ih4 _ _ _ _
      | exact ih5 _ _ _ _ _
      | exact ih6 _ _ _ _ _
      | exact LeO.none _
      | refine LeO.ite ?_ ?_
      | refine LeO.bind ?_ (fun _ => ?_)
    · intro y0 y1 y2 y3 y4
      unfold papermillref22_Check.j5
      repeat' first
      | (with_reducible exact ih0 _ _ _)
      | (with_reducible exact ih1 _ _ _)
      | (with_reducible exact ih2 _ _ _ _ _ _ _ _)
      | (with_reducible exact ih3 _ _ _ _ _ _ _ _)
      | (with_reducible exact ih4 _ _ _ _)
      | (with_reducible exact ih5 _ _ _ _ _)
      | (with_reducible exact ih6 _ _ _ _ _)
      | (with_reducible exact LeO.refl _)
      | (with_reducible exact LeO.none _)
      | (with_reducible refine LeO.ite ?_ ?_)
      | (with_reducible refine LeO.bind ?_ (fun _ => ?_))
      | exact ih0 _ _ _
      | exact ih1 _ _ _
      | exact ih2 _ _ _ _ _ _ _ _
      | exact ih3 _ _ _ _ _ _ _ _
      | exact ih4 _ _ _ _
      | exact ih5 _ _ _ _ _
      | exact ih6 _ _ _ _ _
      | exact LeO.none _
      | refine LeO.ite ?_ ?_
      | refine LeO.bind ?_ (fun _ => ?_)
    · intro y0 y1 y2 y3 y4
      unfold papermillref22_Check.j6
      repeat' first
      | (with_reducible exact ih0 _ _ _)
      | (with_reducible exact ih1 _ _ _)
      | (with_reducible exact ih2 _ _ _ _ _ _ _ _)
      | (with_reducible exact ih3 _ _ _ _ _ _ _ _)
      | (with_reducible exact ih4 _ _ _ _)
      | (with_reducible exact ih5 _ _ _ _ _)
      | (with_reducible exact ih6 _ _ _ _ _)
      | (with_reducible exact LeO.refl _)
      | (with_reducible exact LeO.none _)
      | (with_reducible refine LeO.ite ?_ ?_)
      | (with_reducible refine LeO.bind ?_ (fun _ => ?_))
      | exact ih0 _ _ _
      | exact ih1 _ _ _
      | exact ih2 _ _ _ _ _ _ _ _
      | exact ih3 _ _ _ _ _ _ _ _
      | exact ih4 _ _ _ _
      | exact ih5 _ _ _ _ _
      | exact ih6 _ _ _ _ _
      | exact LeO.none _
      | refine LeO.ite ?_ ?_
      | refine LeO.bind ?_ (fun _ => ?_)
theorem papermillref22_Check.mono : ∀ a0 a1 k, LeO (papermillref22_Check.f k a0 a1) (papermillref22_Check.f (k + 1) a0 a1) := by
  intro a0 a1 k
  obtain ⟨ih0, ih1, ih2, ih3, ih4, ih5, ih6⟩ := papermillref22_Check.mono_l k
  unfold papermillref22_Check.f
  repeat' first
      | (with_reducible exact ih0 _ _ _)
      | (with_reducible exact ih1 _ _ _)
      | (with_reducible exact ih2 _ _ _ _ _ _ _ _)
      | (with_reducible exact ih3 _ _ _ _ _ _ _ _)
      | (with_reducible exact ih4 _ _ _ _)
      | (with_reducible exact ih5 _ _ _ _ _)
      | (with_reducible exact ih6 _ _ _ _ _)
      | (with_reducible exact LeO.refl _)
      | (with_reducible exact LeO.none _)
      | (with_reducible refine LeO.ite ?_ ?_)
      | (with_reducible refine LeO.bind ?_ (fun _ => ?_))
      | exact ih0 _ _ _
      | exact ih1 _ _ _
      | exact ih2 _ _ _ _ _ _ _ _
      | exact ih3 _ _ _ _ _ _ _ _
      | exact ih4 _ _ _ _
      | exact ih5 _ _ _ _ _
      | exact ih6 _ _ _ _ _
      | exact LeO.none _
      | refine LeO.ite ?_ ?_
      | refine LeO.bind ?_ (fun _ => ?_)
open List (setIfInBounds_toArray set_cons_zero set_cons_succ)
set_option maxHeartbeats 8000000 in
set_option maxRecDepth 100000 in
theorem papermillref22_Check.calls (k : Nat) (A0 : Option Addr) (c0 : Nat) (l0 : List (S63)) (a1 : Int) (r : Int) (w : World) (hr0 : Kd.C k63 w A0 l0.length l0) (hc0 : l0.length ≤ c0) (h : papermillref22_Check.f k l0 a1 = some r) :
  Calls Try.prog 29 #[.slice A0 l0.length c0, .int .i64 a1] w fun e w' => e = .returned (.int .i64 r) ∧ Below w.heap.size w w' := by
 have hu63 := Try.underlying63
 have HR0 := Aside0.mk hr0
 have HC0 := Aside0.mk hc0
 clear hr0 hc0
 have HB := Aside0.mk (Below.refl w.heap.size w)
 have H : (if a1 < 0 then (papermillref22_Check.j0 k l0 a1 true) else (papermillref22_Check.j0 k l0 a1 (decide (a1 > 1099511627776)))) = some r := h
 clear h
 have HC3 := Aside0.mk H
 clear H
 go_enter Try.func29, Try.ntmps29
 go_upto_region 1 with (fail)
 go_cut [14] (fun v14 wc => ∃ (kq : Nat) (x14_2 : Bool), v14 = .bool x14_2 ∧ Aside0 (papermillref22_Check.j0 kq l0 a1 x14_2 = some r) ∧ Aside0 (kq ≤ k) ∧ Aside0 (Below w.heap.size w wc))
 case first =>
  have H := HC3.out
  clear HC3
  by_cases c4 : a1 < 0
  ·rw [if_pos c4] at H
   have c4b0 : decide (a1 < 0) = true := decide_eq_true c4
   clear c4
   (first | rw [c4b0] | (simp only [i64_w, i32_w]; rw [c4b0]) | skip)
   have H' := Aside0.mk H
   clear H
   go_wp2
   go_meet
   case rel => exact ⟨_, (true), (by first | rfl | (simp; done) | (simp [*]; done)), H', ⟨by first | omega | exact Nat.le_refl _⟩, ⟨by with_reducible repeat first | exact HB.out | apply below_alloc | apply pw_below_drewN | apply below_drew1⟩⟩
  ·rw [if_neg c4] at H
   have c4b0 : decide (a1 < 0) = false := decide_eq_false c4
   clear c4
   (first | rw [c4b0] | (simp only [i64_w, i32_w]; rw [c4b0]) | skip)
   have H' := Aside0.mk H
   clear H
   go_wp2
   go_meet
   case rel => exact ⟨_, (decide (a1 > 1099511627776)), (by first | rfl | (simp; done) | (simp [*]; done)), H', ⟨by first | omega | exact Nat.le_refl _⟩, ⟨by with_reducible repeat first | exact HB.out | apply below_alloc | apply pw_below_drewN | apply below_drew1⟩⟩
 case rest =>
  clear HC3
  obtain ⟨kq, x14_2, rfl, HA, HJ2, HB⟩ := hcut
  cases kq with
  | zero => exact absurd HA.out (by simp [papermillref22_Check.j0])
  | succ kj2 =>
   have H := HA.out
   clear HA
   simp only [papermillref22_Check.j0] at H
   by_cases c5 : x14_2 = true
   ·subst c5
    have H1 : (some 1) = some r := by rw [if_pos rfl] at H; exact H
    clear H
    have H := H1
    clear H1
    obtain rfl := Option.some.inj H
    go_wp2
    go_ret
    exact ⟨by first | rfl | (simp [errW_none, errW_some] <;> rfl) | (simp [*, errW_none, errW_some] <;> rfl), by with_reducible repeat first | exact HB.out | apply below_alloc | apply pw_below_drewN | apply below_drew1⟩
   ·replace c5 := Bool.eq_false_iff.mpr c5
    subst c5
    have H1 : (if (l0.length : Int) > 512 then (some 8) else (papermillref22_Check.l0 kj2 l0 a1 0)) = some r := by rw [if_neg (show ¬ (false = true) by decide)] at H; exact H
    clear H
    have H := H1
    clear H1
    by_cases c6 : (l0.length : Int) > 512
    ·rw [if_pos c6] at H
     have c6b0 : decide (512 < (l0.length : Int)) = true := decide_eq_true c6
     have c6b1 : decide (512 < l0.length) = true := decide_eq_true (by omega)
     clear c6
     obtain rfl := Option.some.inj H
     go_wp2
     go_ret
     exact ⟨by first | rfl | (simp [errW_none, errW_some] <;> rfl) | (simp [*, errW_none, errW_some] <;> rfl), by with_reducible repeat first | exact HB.out | apply below_alloc | apply pw_below_drewN | apply below_drew1⟩
    ·rw [if_neg c6] at H
     have c6b0 : decide (512 < (l0.length : Int)) = false := decide_eq_false c6
     have c6b1 : decide (512 < l0.length) = false := decide_eq_false (by omega)
     clear c6
     have H' := Aside0.mk H
     clear H
     go_wp2
     go_loopg [5] kj2 (fun kq v5 w' => ∃ (x5_2 : Int), v5 = .int .i64 x5_2 ∧ Aside0 (papermillref22_Check.l0 kq l0 a1 x5_2 = some r) ∧ Aside0 (kq ≤ kj2) ∧ Aside0 (Below w.heap.size w w'))
     case atStart => exact ⟨(0), (by first | rfl | (simp; done) | (simp [*]; done)), H', ⟨Nat.le_refl _⟩, ⟨by with_reducible repeat first | exact HB.out | apply below_alloc | apply pw_below_drewN | apply below_drew1⟩⟩
     case round =>
      clear H'
      obtain ⟨x5_2, rfl, HA, HK2, HB⟩ := hrel
      cases gk with
      | zero => exact absurd HA.out (by simp [papermillref22_Check.l0])
      | succ k2 =>
       have H := HA.out
       clear HA
       simp only [papermillref22_Check.l0] at H
       by_cases c7 : x5_2 < (l0.length : Int)
       ·rw [if_pos c7] at H
        have c7b0 : decide (x5_2 < (l0.length : Int)) = true := decide_eq_true c7
        clear c7
        by_cases c8 : 0 ≤ x5_2
        ·rw [if_pos c8] at H
         have c8b0 : decide (0 ≤ x5_2) = true := decide_eq_true c8
         clear c8
         have HC9 := Aside0.mk H
         clear H
         have p532 : 0 ≤ (x5_2 : Int) := of_decide_eq_true (by assumption)
         have q532 : x5_2 < (l0.length : Int) := of_decide_eq_true (by assumption)
         obtain ⟨ad532, e532, hx532_0, hx532_1, hx532_2, hx532_3⟩ := at_T63 HR0.out x5_2 p532 q532
         cases e532
         replace hx532_0 := (HB.out.cell (World.block_lt_of_cell? w _ hx532_0)).trans hx532_0
         replace hx532_1 := (HB.out.cell (World.block_lt_of_cell? w _ hx532_1)).trans hx532_1
         replace hx532_2 := (HB.out.cell (World.block_lt_of_cell? w _ hx532_2)).trans hx532_2
         replace hx532_3 := (HB.out.cell (World.block_lt_of_cell? w _ hx532_3)).trans hx532_3
         replace p532 := eq_true p532
         replace q532 := eq_true q532
         go_upto_region 9 with (first | ((with_reducible refine gate_dst (N := 6) rfl ?_); refine box_event ?hg (N := 6) ?hd (cs := #[.int .i64 0, .int .i64 0, .int .i64 0, .int .i64 0]) (t := 63) ?hr ?_; (case hd => rfl); (case hg => rfl); (case hr => first | (go_simp; done) | (go_simp; rfl)); intro gb533 hg w10 hbox hb; have n0_ := Aside0.mk (below_step (by with_reducible repeat first | exact HB.out | apply below_alloc | apply pw_below_drewN | apply below_drew1) hb); have n1_ := Aside0.mk (hbox); have n2_ := Aside0.mk ((by rw [hg]; exact (below_size (by with_reducible repeat first | exact HB.out | apply below_alloc | apply pw_below_drewN | apply below_drew1)) : w.heap.size ≤ gb533)); have n3_ := Aside0.mk ((by rw [hg]; exact (below_size (by with_reducible repeat first | exact HB.out | apply below_alloc | apply pw_below_drewN | apply below_drew1)) : w.heap.size ≤ gb533)); clear HB; have HB := n0_; have BK533 := n1_; have GW533 := n2_; have GE533 := n3_; clear n0_ n1_ n2_ n3_; clear hb hbox hg; have hcz11_0 : w10.cell? ⟨gb533, 0, none⟩ = some (.int .i64 0) := (blk_cell BK533.out 0).trans rfl; have hcz11_1 : w10.cell? ⟨gb533, 1, none⟩ = some (.int .i64 0) := (blk_cell BK533.out 1).trans rfl; have hcz11_2 : w10.cell? ⟨gb533, 2, none⟩ = some (.int .i64 0) := (blk_cell BK533.out 2).trans rfl; have hcz11_3 : w10.cell? ⟨gb533, 3, none⟩ = some (.int .i64 0) := (blk_cell BK533.out 3).trans rfl; have hfz11_0 := blk_frozen BK533.out 0; have hfz11_1 := blk_frozen BK533.out 1; have hfz11_2 := blk_frozen BK533.out 2; have hfz11_3 := blk_frozen BK533.out 3))
         (try simp only [Act.put, setIfInBounds_toArray, set_cons_zero, set_cons_succ])
         go_cut [35] (fun v35 wc => ∃ (kq : Nat) (x35_8 : Bool), v35 = .bool x35_8 ∧ Aside0 (papermillref22_Check.j2 kq l0 a1 x5_2 x35_8 ((rd_T63 l0 x5_2).f0) ((rd_T63 l0 x5_2).f1) ((rd_T63 l0 x5_2).f2) ((rd_T63 l0 x5_2).f3) = some r) ∧ Aside0 (kq ≤ k2) ∧ Aside0 (wc.heap[gb533]? = some (.cells #[.int .i64 ((rd_T63 l0 x5_2).f0), .int .i64 ((rd_T63 l0 x5_2).f1), .int .i64 ((rd_T63 l0 x5_2).f2), .int .i64 ((rd_T63 l0 x5_2).f3)] 63 (0, 0))) ∧ Aside0 (Below w.heap.size w wc))
         case first =>
          have H := HC9.out
          clear HC9
          by_cases c12 : ((rd_T63 l0 x5_2).f0) < 0
          ·rw [if_pos c12] at H
           have c12b0 : decide (((rd_T63 l0 x5_2).f0) < 0) = true := decide_eq_true c12
           clear c12
           (first | rw [c12b0] | (simp only [i64_w, i32_w]; rw [c12b0]) | skip)
           have H' := Aside0.mk H
           clear H
           have hcz13_0 : w10.cell? ⟨gb533, 0, none⟩ = some (.int .i64 0) := (blk_cell BK533.out 0).trans rfl
           have hcz13_1 : w10.cell? ⟨gb533, 1, none⟩ = some (.int .i64 0) := (blk_cell BK533.out 1).trans rfl
           have hcz13_2 : w10.cell? ⟨gb533, 2, none⟩ = some (.int .i64 0) := (blk_cell BK533.out 2).trans rfl
           have hcz13_3 : w10.cell? ⟨gb533, 3, none⟩ = some (.int .i64 0) := (blk_cell BK533.out 3).trans rfl
           have hfz13_0 := blk_frozen BK533.out 0
           have hfz13_1 := blk_frozen BK533.out 1
           have hfz13_2 := blk_frozen BK533.out 2
           have hfz13_3 := blk_frozen BK533.out 3
           go_wp2
           go_meet
           case rel => exact ⟨_, (true), (by first | rfl | (simp; done) | (simp [*]; done)), H', ⟨by have := HJ2.out; have := HK2.out; first | omega | exact Nat.le_refl _⟩, ⟨by (with_reducible repeat (first | refine blk_drewN ?_ _ | refine blk_drew ?_ | refine blk_alloc ?_ _)); refine blk_put (cs := #[.int .i64 ((rd_T63 l0 x5_2).f0), .int .i64 ((rd_T63 l0 x5_2).f1), .int .i64 ((rd_T63 l0 x5_2).f2), .int .i64 0]) ?_ 3 _ rfl; (with_reducible repeat (first | refine blk_drewN ?_ _ | refine blk_drew ?_ | refine blk_alloc ?_ _)); refine blk_put (cs := #[.int .i64 ((rd_T63 l0 x5_2).f0), .int .i64 ((rd_T63 l0 x5_2).f1), .int .i64 0, .int .i64 0]) ?_ 2 _ rfl; (with_reducible repeat (first | refine blk_drewN ?_ _ | refine blk_drew ?_ | refine blk_alloc ?_ _)); refine blk_put (cs := #[.int .i64 ((rd_T63 l0 x5_2).f0), .int .i64 0, .int .i64 0, .int .i64 0]) ?_ 1 _ rfl; (with_reducible repeat (first | refine blk_drewN ?_ _ | refine blk_drew ?_ | refine blk_alloc ?_ _)); refine blk_put (cs := #[.int .i64 0, .int .i64 0, .int .i64 0, .int .i64 0]) ?_ 0 _ rfl; (with_reducible repeat (first | refine blk_drewN ?_ _ | refine blk_drew ?_ | refine blk_alloc ?_ _)); exact BK533.out⟩, ⟨by repeat (first | (with_reducible first | exact HB.out | apply below_alloc | apply pw_below_drewN | apply below_drew1 | refine below_set ?_ GE533.out) | exact HB.out)⟩⟩
          ·rw [if_neg c12] at H
           have c12b0 : decide (((rd_T63 l0 x5_2).f0) < 0) = false := decide_eq_false c12
           clear c12
           (first | rw [c12b0] | (simp only [i64_w, i32_w]; rw [c12b0]) | skip)
           have H' := Aside0.mk H
           clear H
           have hcz14_0 : w10.cell? ⟨gb533, 0, none⟩ = some (.int .i64 0) := (blk_cell BK533.out 0).trans rfl
           have hcz14_1 : w10.cell? ⟨gb533, 1, none⟩ = some (.int .i64 0) := (blk_cell BK533.out 1).trans rfl
           have hcz14_2 : w10.cell? ⟨gb533, 2, none⟩ = some (.int .i64 0) := (blk_cell BK533.out 2).trans rfl
           have hcz14_3 : w10.cell? ⟨gb533, 3, none⟩ = some (.int .i64 0) := (blk_cell BK533.out 3).trans rfl
           have hfz14_0 := blk_frozen BK533.out 0
           have hfz14_1 := blk_frozen BK533.out 1
           have hfz14_2 := blk_frozen BK533.out 2
           have hfz14_3 := blk_frozen BK533.out 3
           go_wp2
           go_meet
           case rel => exact ⟨_, (decide (((rd_T63 l0 x5_2).f0) > 2147483647)), (by first | rfl | (simp; done) | (simp [*]; done)), H', ⟨by have := HJ2.out; have := HK2.out; first | omega | exact Nat.le_refl _⟩, ⟨by (with_reducible repeat (first | refine blk_drewN ?_ _ | refine blk_drew ?_ | refine blk_alloc ?_ _)); refine blk_put (cs := #[.int .i64 ((rd_T63 l0 x5_2).f0), .int .i64 ((rd_T63 l0 x5_2).f1), .int .i64 ((rd_T63 l0 x5_2).f2), .int .i64 0]) ?_ 3 _ rfl; (with_reducible repeat (first | refine blk_drewN ?_ _ | refine blk_drew ?_ | refine blk_alloc ?_ _)); refine blk_put (cs := #[.int .i64 ((rd_T63 l0 x5_2).f0), .int .i64 ((rd_T63 l0 x5_2).f1), .int .i64 0, .int .i64 0]) ?_ 2 _ rfl; (with_reducible repeat (first | refine blk_drewN ?_ _ | refine blk_drew ?_ | refine blk_alloc ?_ _)); refine blk_put (cs := #[.int .i64 ((rd_T63 l0 x5_2).f0), .int .i64 0, .int .i64 0, .int .i64 0]) ?_ 1 _ rfl; (with_reducible repeat (first | refine blk_drewN ?_ _ | refine blk_drew ?_ | refine blk_alloc ?_ _)); refine blk_put (cs := #[.int .i64 0, .int .i64 0, .int .i64 0, .int .i64 0]) ?_ 0 _ rfl; (with_reducible repeat (first | refine blk_drewN ?_ _ | refine blk_drew ?_ | refine blk_alloc ?_ _)); exact BK533.out⟩, ⟨by repeat (first | (with_reducible first | exact HB.out | apply below_alloc | apply pw_below_drewN | apply below_drew1 | refine below_set ?_ GE533.out) | exact HB.out)⟩⟩
         case rest =>
          clear HC9
          obtain ⟨kq, x35_8, rfl, HA, HJ8, BK533, HB⟩ := hcut
          cases kq with
          | zero => exact absurd HA.out (by simp [papermillref22_Check.j2])
          | succ kj8 =>
           have H := HA.out
           clear HA
           simp only [papermillref22_Check.j2] at H
           by_cases c15 : x35_8 = true
           ·subst c15
            have H1 : (some 1) = some r := by rw [if_pos rfl] at H; exact H
            clear H
            have H := H1
            clear H1
            obtain rfl := Option.some.inj H
            go_wp2
            go_ret
            exact ⟨by first | rfl | (simp [errW_none, errW_some] <;> rfl) | (simp [*, errW_none, errW_some] <;> rfl), by repeat (first | (with_reducible first | exact HB.out | apply below_alloc | apply pw_below_drewN | apply below_drew1 | refine below_set ?_ GE533.out) | exact HB.out)⟩
           ·replace c15 := Bool.eq_false_iff.mpr c15
            subst c15
            have H1 : (if ((rd_T63 l0 x5_2).f1) < 1 then (papermillref22_Check.j3 kj8 l0 a1 x5_2 true ((rd_T63 l0 x5_2).f0) ((rd_T63 l0 x5_2).f1) ((rd_T63 l0 x5_2).f2) ((rd_T63 l0 x5_2).f3)) else (papermillref22_Check.j3 kj8 l0 a1 x5_2 (decide (((rd_T63 l0 x5_2).f1) > 7)) ((rd_T63 l0 x5_2).f0) ((rd_T63 l0 x5_2).f1) ((rd_T63 l0 x5_2).f2) ((rd_T63 l0 x5_2).f3))) = some r := by rw [if_neg (show ¬ (false = true) by decide)] at H; exact H
            clear H
            have H := H1
            clear H1
            have HC16 := Aside0.mk H
            clear H
            go_upto_region 11 with (fail)
            go_cut [43] (fun v43 wc => ∃ (kq : Nat) (x43_15 : Bool), v43 = .bool x43_15 ∧ Aside0 (papermillref22_Check.j3 kq l0 a1 x5_2 x43_15 ((rd_T63 l0 x5_2).f0) ((rd_T63 l0 x5_2).f1) ((rd_T63 l0 x5_2).f2) ((rd_T63 l0 x5_2).f3) = some r) ∧ Aside0 (kq ≤ kj8) ∧ Aside0 (wc.heap[gb533]? = some (.cells #[.int .i64 ((rd_T63 l0 x5_2).f0), .int .i64 ((rd_T63 l0 x5_2).f1), .int .i64 ((rd_T63 l0 x5_2).f2), .int .i64 ((rd_T63 l0 x5_2).f3)] 63 (0, 0))) ∧ Aside0 (Below w.heap.size w wc))
            case first =>
             have H := HC16.out
             clear HC16
             by_cases c17 : ((rd_T63 l0 x5_2).f1) < 1
             ·rw [if_pos c17] at H
              have c17b0 : decide (((rd_T63 l0 x5_2).f1) < 1) = true := decide_eq_true c17
              clear c17
              (first | rw [c17b0] | (simp only [i64_w, i32_w]; rw [c17b0]) | skip)
              have H' := Aside0.mk H
              clear H
              have hcz18_0 : wc.cell? ⟨gb533, 0, none⟩ = some (.int .i64 ((rd_T63 l0 x5_2).f0)) := (blk_cell BK533.out 0).trans rfl
              have hcz18_1 : wc.cell? ⟨gb533, 1, none⟩ = some (.int .i64 ((rd_T63 l0 x5_2).f1)) := (blk_cell BK533.out 1).trans rfl
              have hcz18_2 : wc.cell? ⟨gb533, 2, none⟩ = some (.int .i64 ((rd_T63 l0 x5_2).f2)) := (blk_cell BK533.out 2).trans rfl
              have hcz18_3 : wc.cell? ⟨gb533, 3, none⟩ = some (.int .i64 ((rd_T63 l0 x5_2).f3)) := (blk_cell BK533.out 3).trans rfl
              have hfz18_0 := blk_frozen BK533.out 0
              have hfz18_1 := blk_frozen BK533.out 1
              have hfz18_2 := blk_frozen BK533.out 2
              have hfz18_3 := blk_frozen BK533.out 3
              go_wp2
              go_meet
              case rel => exact ⟨_, (true), (by first | rfl | (simp; done) | (simp [*]; done)), H', ⟨by have := HJ2.out; have := HK2.out; have := HJ8.out; first | omega | exact Nat.le_refl _⟩, ⟨by (with_reducible repeat (first | refine blk_drewN ?_ _ | refine blk_drew ?_ | refine blk_alloc ?_ _)); exact BK533.out⟩, ⟨by repeat (first | (with_reducible first | exact HB.out | apply below_alloc | apply pw_below_drewN | apply below_drew1 | refine below_set ?_ GE533.out) | exact HB.out)⟩⟩
             ·rw [if_neg c17] at H
              have c17b0 : decide (((rd_T63 l0 x5_2).f1) < 1) = false := decide_eq_false c17
              clear c17
              (first | rw [c17b0] | (simp only [i64_w, i32_w]; rw [c17b0]) | skip)
              have H' := Aside0.mk H
              clear H
              have hcz19_0 : wc.cell? ⟨gb533, 0, none⟩ = some (.int .i64 ((rd_T63 l0 x5_2).f0)) := (blk_cell BK533.out 0).trans rfl
              have hcz19_1 : wc.cell? ⟨gb533, 1, none⟩ = some (.int .i64 ((rd_T63 l0 x5_2).f1)) := (blk_cell BK533.out 1).trans rfl
              have hcz19_2 : wc.cell? ⟨gb533, 2, none⟩ = some (.int .i64 ((rd_T63 l0 x5_2).f2)) := (blk_cell BK533.out 2).trans rfl
              have hcz19_3 : wc.cell? ⟨gb533, 3, none⟩ = some (.int .i64 ((rd_T63 l0 x5_2).f3)) := (blk_cell BK533.out 3).trans rfl
              have hfz19_0 := blk_frozen BK533.out 0
              have hfz19_1 := blk_frozen BK533.out 1
              have hfz19_2 := blk_frozen BK533.out 2
              have hfz19_3 := blk_frozen BK533.out 3
              go_wp2
              go_meet
              case rel => exact ⟨_, (decide (((rd_T63 l0 x5_2).f1) > 7)), (by first | rfl | (simp; done) | (simp [*]; done)), H', ⟨by have := HJ2.out; have := HK2.out; have := HJ8.out; first | omega | exact Nat.le_refl _⟩, ⟨by (with_reducible repeat (first | refine blk_drewN ?_ _ | refine blk_drew ?_ | refine blk_alloc ?_ _)); exact BK533.out⟩, ⟨by repeat (first | (with_reducible first | exact HB.out | apply below_alloc | apply pw_below_drewN | apply below_drew1 | refine below_set ?_ GE533.out) | exact HB.out)⟩⟩
            case rest =>
             clear HC16
             obtain ⟨kq, x43_15, rfl, HA, HJ15, BK533, HB⟩ := hcut
             cases kq with
             | zero => exact absurd HA.out (by simp [papermillref22_Check.j3])
             | succ kj15 =>
              have H := HA.out
              clear HA
              simp only [papermillref22_Check.j3] at H
              by_cases c20 : x43_15 = true
              ·subst c20
               have H1 : (some 17) = some r := by rw [if_pos rfl] at H; exact H
               clear H
               have H := H1
               clear H1
               obtain rfl := Option.some.inj H
               go_wp2
               go_ret
               exact ⟨by first | rfl | (simp [errW_none, errW_some] <;> rfl) | (simp [*, errW_none, errW_some] <;> rfl), by repeat (first | (with_reducible first | exact HB.out | apply below_alloc | apply pw_below_drewN | apply below_drew1 | refine below_set ?_ GE533.out) | exact HB.out)⟩
              ·replace c20 := Bool.eq_false_iff.mpr c20
               subst c20
               have H1 : (if ((rd_T63 l0 x5_2).f2) < 1 then (some 1) else (if ((rd_T63 l0 x5_2).f2) > 1099511627776 then (some 1) else (if ((rd_T63 l0 x5_2).f3) < 0 then (some 1) else (if ((rd_T63 l0 x5_2).f3) > 206158430208000 then (some 1) else (papermillref22_Check.l0 kj15 l0 a1 (wrap64 (x5_2 + 1))))))) = some r := by rw [if_neg (show ¬ (false = true) by decide)] at H; exact H
               clear H
               have H := H1
               clear H1
               by_cases c21 : ((rd_T63 l0 x5_2).f2) < 1
               ·rw [if_pos c21] at H
                have c21b0 : decide (((rd_T63 l0 x5_2).f2) < 1) = true := decide_eq_true c21
                clear c21
                obtain rfl := Option.some.inj H
                have hcz22_0 : wc.cell? ⟨gb533, 0, none⟩ = some (.int .i64 ((rd_T63 l0 x5_2).f0)) := (blk_cell BK533.out 0).trans rfl
                have hcz22_1 : wc.cell? ⟨gb533, 1, none⟩ = some (.int .i64 ((rd_T63 l0 x5_2).f1)) := (blk_cell BK533.out 1).trans rfl
                have hcz22_2 : wc.cell? ⟨gb533, 2, none⟩ = some (.int .i64 ((rd_T63 l0 x5_2).f2)) := (blk_cell BK533.out 2).trans rfl
                have hcz22_3 : wc.cell? ⟨gb533, 3, none⟩ = some (.int .i64 ((rd_T63 l0 x5_2).f3)) := (blk_cell BK533.out 3).trans rfl
                have hfz22_0 := blk_frozen BK533.out 0
                have hfz22_1 := blk_frozen BK533.out 1
                have hfz22_2 := blk_frozen BK533.out 2
                have hfz22_3 := blk_frozen BK533.out 3
                go_wp2
                go_ret
                exact ⟨by first | rfl | (simp [errW_none, errW_some] <;> rfl) | (simp [*, errW_none, errW_some] <;> rfl), by repeat (first | (with_reducible first | exact HB.out | apply below_alloc | apply pw_below_drewN | apply below_drew1 | refine below_set ?_ GE533.out) | exact HB.out)⟩
               ·rw [if_neg c21] at H
                have c21b0 : decide (((rd_T63 l0 x5_2).f2) < 1) = false := decide_eq_false c21
                clear c21
                by_cases c23 : ((rd_T63 l0 x5_2).f2) > 1099511627776
                ·rw [if_pos c23] at H
                 have c23b0 : decide (1099511627776 < ((rd_T63 l0 x5_2).f2)) = true := decide_eq_true c23
                 clear c23
                 obtain rfl := Option.some.inj H
                 have hcz24_0 : wc.cell? ⟨gb533, 0, none⟩ = some (.int .i64 ((rd_T63 l0 x5_2).f0)) := (blk_cell BK533.out 0).trans rfl
                 have hcz24_1 : wc.cell? ⟨gb533, 1, none⟩ = some (.int .i64 ((rd_T63 l0 x5_2).f1)) := (blk_cell BK533.out 1).trans rfl
                 have hcz24_2 : wc.cell? ⟨gb533, 2, none⟩ = some (.int .i64 ((rd_T63 l0 x5_2).f2)) := (blk_cell BK533.out 2).trans rfl
                 have hcz24_3 : wc.cell? ⟨gb533, 3, none⟩ = some (.int .i64 ((rd_T63 l0 x5_2).f3)) := (blk_cell BK533.out 3).trans rfl
                 have hfz24_0 := blk_frozen BK533.out 0
                 have hfz24_1 := blk_frozen BK533.out 1
                 have hfz24_2 := blk_frozen BK533.out 2
                 have hfz24_3 := blk_frozen BK533.out 3
                 go_wp2
                 go_ret
                 exact ⟨by first | rfl | (simp [errW_none, errW_some] <;> rfl) | (simp [*, errW_none, errW_some] <;> rfl), by repeat (first | (with_reducible first | exact HB.out | apply below_alloc | apply pw_below_drewN | apply below_drew1 | refine below_set ?_ GE533.out) | exact HB.out)⟩
                ·rw [if_neg c23] at H
                 have c23b0 : decide (1099511627776 < ((rd_T63 l0 x5_2).f2)) = false := decide_eq_false c23
                 clear c23
                 by_cases c25 : ((rd_T63 l0 x5_2).f3) < 0
                 ·rw [if_pos c25] at H
                  have c25b0 : decide (((rd_T63 l0 x5_2).f3) < 0) = true := decide_eq_true c25
                  clear c25
                  obtain rfl := Option.some.inj H
                  have hcz26_0 : wc.cell? ⟨gb533, 0, none⟩ = some (.int .i64 ((rd_T63 l0 x5_2).f0)) := (blk_cell BK533.out 0).trans rfl
                  have hcz26_1 : wc.cell? ⟨gb533, 1, none⟩ = some (.int .i64 ((rd_T63 l0 x5_2).f1)) := (blk_cell BK533.out 1).trans rfl
                  have hcz26_2 : wc.cell? ⟨gb533, 2, none⟩ = some (.int .i64 ((rd_T63 l0 x5_2).f2)) := (blk_cell BK533.out 2).trans rfl
                  have hcz26_3 : wc.cell? ⟨gb533, 3, none⟩ = some (.int .i64 ((rd_T63 l0 x5_2).f3)) := (blk_cell BK533.out 3).trans rfl
                  have hfz26_0 := blk_frozen BK533.out 0
                  have hfz26_1 := blk_frozen BK533.out 1
                  have hfz26_2 := blk_frozen BK533.out 2
                  have hfz26_3 := blk_frozen BK533.out 3
                  go_wp2
                  go_ret
                  exact ⟨by first | rfl | (simp [errW_none, errW_some] <;> rfl) | (simp [*, errW_none, errW_some] <;> rfl), by repeat (first | (with_reducible first | exact HB.out | apply below_alloc | apply pw_below_drewN | apply below_drew1 | refine below_set ?_ GE533.out) | exact HB.out)⟩
                 ·rw [if_neg c25] at H
                  have c25b0 : decide (((rd_T63 l0 x5_2).f3) < 0) = false := decide_eq_false c25
                  clear c25
                  by_cases c27 : ((rd_T63 l0 x5_2).f3) > 206158430208000
                  ·rw [if_pos c27] at H
                   have c27b0 : decide (206158430208000 < ((rd_T63 l0 x5_2).f3)) = true := decide_eq_true c27
                   clear c27
                   obtain rfl := Option.some.inj H
                   have hcz28_0 : wc.cell? ⟨gb533, 0, none⟩ = some (.int .i64 ((rd_T63 l0 x5_2).f0)) := (blk_cell BK533.out 0).trans rfl
                   have hcz28_1 : wc.cell? ⟨gb533, 1, none⟩ = some (.int .i64 ((rd_T63 l0 x5_2).f1)) := (blk_cell BK533.out 1).trans rfl
                   have hcz28_2 : wc.cell? ⟨gb533, 2, none⟩ = some (.int .i64 ((rd_T63 l0 x5_2).f2)) := (blk_cell BK533.out 2).trans rfl
                   have hcz28_3 : wc.cell? ⟨gb533, 3, none⟩ = some (.int .i64 ((rd_T63 l0 x5_2).f3)) := (blk_cell BK533.out 3).trans rfl
                   have hfz28_0 := blk_frozen BK533.out 0
                   have hfz28_1 := blk_frozen BK533.out 1
                   have hfz28_2 := blk_frozen BK533.out 2
                   have hfz28_3 := blk_frozen BK533.out 3
                   go_wp2
                   go_ret
                   exact ⟨by first | rfl | (simp [errW_none, errW_some] <;> rfl) | (simp [*, errW_none, errW_some] <;> rfl), by repeat (first | (with_reducible first | exact HB.out | apply below_alloc | apply pw_below_drewN | apply below_drew1 | refine below_set ?_ GE533.out) | exact HB.out)⟩
                  ·rw [if_neg c27] at H
                   have c27b0 : decide (206158430208000 < ((rd_T63 l0 x5_2).f3)) = false := decide_eq_false c27
                   clear c27
                   have H' := Aside0.mk H
                   clear H
                   have hcz29_0 : wc.cell? ⟨gb533, 0, none⟩ = some (.int .i64 ((rd_T63 l0 x5_2).f0)) := (blk_cell BK533.out 0).trans rfl
                   have hcz29_1 : wc.cell? ⟨gb533, 1, none⟩ = some (.int .i64 ((rd_T63 l0 x5_2).f1)) := (blk_cell BK533.out 1).trans rfl
                   have hcz29_2 : wc.cell? ⟨gb533, 2, none⟩ = some (.int .i64 ((rd_T63 l0 x5_2).f2)) := (blk_cell BK533.out 2).trans rfl
                   have hcz29_3 : wc.cell? ⟨gb533, 3, none⟩ = some (.int .i64 ((rd_T63 l0 x5_2).f3)) := (blk_cell BK533.out 3).trans rfl
                   have hfz29_0 := blk_frozen BK533.out 0
                   have hfz29_1 := blk_frozen BK533.out 1
                   have hfz29_2 := blk_frozen BK533.out 2
                   have hfz29_3 := blk_frozen BK533.out 3
                   go_wp2
                   go_roundg kj15
                   case measure => have := HJ2.out; have := HK2.out; have := HJ8.out; have := HJ15.out; omega
                   case rel => exact ⟨(wrap64 (x5_2 + 1)), (by first | rfl | (simp; done) | (simp [*]; done)), H', ⟨by have := HJ2.out; have := HK2.out; have := HJ8.out; have := HJ15.out; omega⟩, ⟨by repeat (first | (with_reducible first | exact HB.out | apply below_alloc | apply pw_below_drewN | apply below_drew1 | refine below_set ?_ GE533.out) | exact HB.out)⟩⟩
        ·rw [if_neg c8] at H
         exact absurd H (by simp)
       ·rw [if_neg c7] at H
        have c7b0 : decide (x5_2 < (l0.length : Int)) = false := decide_eq_false c7
        clear c7
        have H' := Aside0.mk H
        clear H
        go_wp2
        go_loopg [7, 8] k2 (fun kq v7 v8 w' => ∃ (x7_3 : Int) (x8_3 : Int), v7 = .int .i64 x7_3 ∧ v8 = .int .i64 x8_3 ∧ Aside0 (papermillref22_Check.l1 kq l0 a1 x7_3 x8_3 = some r) ∧ Aside0 (kq ≤ k2) ∧ Aside0 (Below w.heap.size w w'))
        case atStart => exact ⟨(0), (0), (by first | rfl | (simp; done) | (simp [*]; done)), (by first | rfl | (simp; done) | (simp [*]; done)), H', ⟨Nat.le_refl _⟩, ⟨by with_reducible repeat first | exact HB.out | apply below_alloc | apply pw_below_drewN | apply below_drew1⟩⟩
        case round =>
         clear H'
         obtain ⟨x7_3, x8_3, rfl, rfl, HA, HK3, HB⟩ := hrel
         cases gk with
         | zero => exact absurd HA.out (by simp [papermillref22_Check.l1])
         | succ k3 =>
          have H := HA.out
          clear HA
          simp only [papermillref22_Check.l1] at H
          by_cases c30 : x8_3 < (l0.length : Int)
          ·rw [if_pos c30] at H
           have c30b0 : decide (x8_3 < (l0.length : Int)) = true := decide_eq_true c30
           clear c30
           have HC31 := Aside0.mk H
           clear H
           go_upto_region 19 with (fail)
           go_cut [83] (fun v83 wc => ∃ (kq : Nat) (x83_30 : Bool), v83 = .bool x83_30 ∧ Aside0 (papermillref22_Check.j5 kq l0 a1 x7_3 x8_3 x83_30 = some r) ∧ Aside0 (kq ≤ k3) ∧ Aside0 (Below w.heap.size w wc))
           case first =>
            have H := HC31.out
            clear HC31
            by_cases c32 : x8_3 > 0
            ·rw [if_pos c32] at H
             have c32b0 : decide (0 < x8_3) = true := decide_eq_true c32
             clear c32
             (first | rw [c32b0] | (simp only [i64_w, i32_w]; rw [c32b0]) | skip)
             by_cases c33 : 0 ≤ x8_3
             ·rw [if_pos c33] at H
              have c33b0 : decide (0 ≤ x8_3) = true := decide_eq_true c33
              clear c33
              obtain ⟨ji34, hji34⟩ : ∃ j_ : Int, (wrap64 (x8_3 - 1)) = j_ := ⟨_, rfl⟩
              replace H : (if 0 ≤ (ji34) then (if (ji34) < (l0.length : Int) then (papermillref22_Check.j5 k3 l0 a1 x7_3 x8_3 (decide (((rd_T63 l0 x8_3).f0) < ((rd_T63 l0 (ji34)).f0)))) else (none)) else (none)) = some r := by first | (rw [hji34] at H; exact H) | (simp only [hji34] at H ⊢; exact H)
              have hji34w : (IntKind.i64.wrap (x8_3 - 1)) = ji34 := (i64_w _).trans hji34
              by_cases c35 : 0 ≤ (ji34)
              ·rw [if_pos c35] at H
               have c35b0 : decide (0 ≤ (ji34)) = true := decide_eq_true c35
               clear c35
               by_cases c36 : (ji34) < (l0.length : Int)
               ·rw [if_pos c36] at H
                have c36b0 : decide ((ji34) < (l0.length : Int)) = true := decide_eq_true c36
                clear c36
                have H' := Aside0.mk H
                clear H
                have p534 : 0 ≤ (x8_3 : Int) := of_decide_eq_true (by assumption)
                have q534 : x8_3 < (l0.length : Int) := of_decide_eq_true (by assumption)
                obtain ⟨ad534, e534, hx534_0, hx534_1, hx534_2, hx534_3⟩ := at_T63 HR0.out x8_3 p534 q534
                cases e534
                replace hx534_0 := (HB.out.cell (World.block_lt_of_cell? w _ hx534_0)).trans hx534_0
                replace hx534_1 := (HB.out.cell (World.block_lt_of_cell? w _ hx534_1)).trans hx534_1
                replace hx534_2 := (HB.out.cell (World.block_lt_of_cell? w _ hx534_2)).trans hx534_2
                replace hx534_3 := (HB.out.cell (World.block_lt_of_cell? w _ hx534_3)).trans hx534_3
                replace p534 := eq_true p534
                replace q534 := eq_true q534
                have p535 : 0 ≤ ((ji34) : Int) := of_decide_eq_true (by assumption)
                have q535 : (ji34) < (l0.length : Int) := of_decide_eq_true (by assumption)
                obtain ⟨ad535, e535, hx535_0, hx535_1, hx535_2, hx535_3⟩ := at_T63 HR0.out (ji34) p535 q535
                obtain rfl : ad534 = ad535 := (by injection e535)
                replace hx535_0 := (HB.out.cell (World.block_lt_of_cell? w _ hx535_0)).trans hx535_0
                replace hx535_1 := (HB.out.cell (World.block_lt_of_cell? w _ hx535_1)).trans hx535_1
                replace hx535_2 := (HB.out.cell (World.block_lt_of_cell? w _ hx535_2)).trans hx535_2
                replace hx535_3 := (HB.out.cell (World.block_lt_of_cell? w _ hx535_3)).trans hx535_3
                replace p535 := eq_true p535
                replace q535 := eq_true q535
                go_wp2
                repeat (go_quiet (fail); try go_wp2)
                go_meet
                case rel => exact ⟨_, (decide (((rd_T63 l0 x8_3).f0) < ((rd_T63 l0 (ji34)).f0))), (by first | rfl | (simp; done) | (simp only [← hji34] <;> (first | rfl | simp)) | (simp [*]; done)), H', ⟨by have := HJ2.out; have := HK2.out; have := HK3.out; first | omega | exact Nat.le_refl _⟩, ⟨by with_reducible repeat first | exact HB.out | apply below_alloc | apply pw_below_drewN | apply below_drew1⟩⟩
               ·rw [if_neg c36] at H
                exact absurd H (by simp)
              ·rw [if_neg c35] at H
               exact absurd H (by simp)
             ·rw [if_neg c33] at H
              exact absurd H (by simp)
            ·rw [if_neg c32] at H
             have c32b0 : decide (0 < x8_3) = false := decide_eq_false c32
             clear c32
             (first | rw [c32b0] | (simp only [i64_w, i32_w]; rw [c32b0]) | skip)
             have H' := Aside0.mk H
             clear H
             go_wp2
             repeat (go_quiet (fail); try go_wp2)
             go_meet
             case rel => exact ⟨_, (false), (by first | rfl | (simp; done) | (simp [*]; done)), H', ⟨by have := HJ2.out; have := HK2.out; have := HK3.out; first | omega | exact Nat.le_refl _⟩, ⟨by with_reducible repeat first | exact HB.out | apply below_alloc | apply pw_below_drewN | apply below_drew1⟩⟩
           case rest =>
            clear HC31
            obtain ⟨kq, x83_30, rfl, HA, HJ30, HB⟩ := hcut
            cases kq with
            | zero => exact absurd HA.out (by simp [papermillref22_Check.j5])
            | succ kj30 =>
             have H := HA.out
             clear HA
             simp only [papermillref22_Check.j5] at H
             by_cases c37 : x83_30 = true
             ·subst c37
              have H1 : (some 9) = some r := by rw [if_pos rfl] at H; exact H
              clear H
              have H := H1
              clear H1
              obtain rfl := Option.some.inj H
              go_wp2
              go_ret
              exact ⟨by first | rfl | (simp [errW_none, errW_some] <;> rfl) | (simp [*, errW_none, errW_some] <;> rfl), by with_reducible repeat first | exact HB.out | apply below_alloc | apply pw_below_drewN | apply below_drew1⟩
             ·replace c37 := Bool.eq_false_iff.mpr c37
              subst c37
              have H1 : (if 0 ≤ x8_3 then (if x8_3 < (l0.length : Int) then (if ((rd_T63 l0 x8_3).f1) = 6 then (papermillref22_Check.j6 kj30 l0 a1 x7_3 x8_3 (decide (((rd_T63 l0 x8_3).f2) > x7_3))) else (papermillref22_Check.j6 kj30 l0 a1 x7_3 x8_3 false)) else (none)) else (none)) = some r := by rw [if_neg (show ¬ (false = true) by decide)] at H; exact H
              clear H
              have H := H1
              clear H1
              have HC38 := Aside0.mk H
              clear H
              go_upto_region 21 with (fail)
              go_cut [98] (fun v98 wc => ∃ (kq : Nat) (x98_37 : Bool), v98 = .bool x98_37 ∧ Aside0 (papermillref22_Check.j6 kq l0 a1 x7_3 x8_3 x98_37 = some r) ∧ Aside0 (kq ≤ kj30) ∧ Aside0 (Below w.heap.size w wc))
              case first =>
               have H := HC38.out
               clear HC38
               by_cases c39 : 0 ≤ x8_3
               ·rw [if_pos c39] at H
                have c39b0 : decide (0 ≤ x8_3) = true := decide_eq_true c39
                clear c39
                (first | rw [c39b0] | (simp only [i64_w, i32_w]; rw [c39b0]) | skip)
                by_cases c40 : x8_3 < (l0.length : Int)
                ·rw [if_pos c40] at H
                 have c40b0 : decide (x8_3 < (l0.length : Int)) = true := decide_eq_true c40
                 clear c40
                 by_cases c41 : ((rd_T63 l0 x8_3).f1) = 6
                 ·rw [if_pos c41] at H
                  have c41b0 : (((rd_T63 l0 x8_3).f1) == 6) = true := beq_iff_eq.mpr c41
                  have c41b1 : (((rd_T63 l0 x8_3).f1) != 6) = false := bne_eq_false_iff_eq.mpr c41
                  clear c41
                  have H' := Aside0.mk H
                  clear H
                  have p536 : 0 ≤ (x8_3 : Int) := of_decide_eq_true (by assumption)
                  have q536 : x8_3 < (l0.length : Int) := of_decide_eq_true (by assumption)
                  obtain ⟨ad536, e536, hx536_0, hx536_1, hx536_2, hx536_3⟩ := at_T63 HR0.out x8_3 p536 q536
                  cases e536
                  replace hx536_0 := (HB.out.cell (World.block_lt_of_cell? w _ hx536_0)).trans hx536_0
                  replace hx536_1 := (HB.out.cell (World.block_lt_of_cell? w _ hx536_1)).trans hx536_1
                  replace hx536_2 := (HB.out.cell (World.block_lt_of_cell? w _ hx536_2)).trans hx536_2
                  replace hx536_3 := (HB.out.cell (World.block_lt_of_cell? w _ hx536_3)).trans hx536_3
                  replace p536 := eq_true p536
                  replace q536 := eq_true q536
                  have p537 : 0 ≤ (x8_3 : Int) := of_decide_eq_true (by assumption)
                  have q537 : x8_3 < (l0.length : Int) := of_decide_eq_true (by assumption)
                  obtain ⟨ad537, e537, hx537_0, hx537_1, hx537_2, hx537_3⟩ := at_T63 HR0.out x8_3 p537 q537
                  obtain rfl : ad536 = ad537 := (by injection e537)
                  replace hx537_0 := (HB.out.cell (World.block_lt_of_cell? w _ hx537_0)).trans hx537_0
                  replace hx537_1 := (HB.out.cell (World.block_lt_of_cell? w _ hx537_1)).trans hx537_1
                  replace hx537_2 := (HB.out.cell (World.block_lt_of_cell? w _ hx537_2)).trans hx537_2
                  replace hx537_3 := (HB.out.cell (World.block_lt_of_cell? w _ hx537_3)).trans hx537_3
                  replace p537 := eq_true p537
                  replace q537 := eq_true q537
                  go_wp2
                  go_meet
                  case rel => exact ⟨_, (decide (((rd_T63 l0 x8_3).f2) > x7_3)), (by first | rfl | (simp; done) | (simp [*]; done)), H', ⟨by have := HJ2.out; have := HK2.out; have := HK3.out; have := HJ30.out; first | omega | exact Nat.le_refl _⟩, ⟨by with_reducible repeat first | exact HB.out | apply below_alloc | apply pw_below_drewN | apply below_drew1⟩⟩
                 ·rw [if_neg c41] at H
                  have c41b0 : (((rd_T63 l0 x8_3).f1) == 6) = false := beq_eq_false_iff_ne.mpr c41
                  have c41b1 : (((rd_T63 l0 x8_3).f1) != 6) = true := bne_iff_ne.mpr c41
                  have H' := Aside0.mk H
                  clear H
                  have p536 : 0 ≤ (x8_3 : Int) := of_decide_eq_true (by assumption)
                  have q536 : x8_3 < (l0.length : Int) := of_decide_eq_true (by assumption)
                  obtain ⟨ad536, e536, hx536_0, hx536_1, hx536_2, hx536_3⟩ := at_T63 HR0.out x8_3 p536 q536
                  cases e536
                  replace hx536_0 := (HB.out.cell (World.block_lt_of_cell? w _ hx536_0)).trans hx536_0
                  replace hx536_1 := (HB.out.cell (World.block_lt_of_cell? w _ hx536_1)).trans hx536_1
                  replace hx536_2 := (HB.out.cell (World.block_lt_of_cell? w _ hx536_2)).trans hx536_2
                  replace hx536_3 := (HB.out.cell (World.block_lt_of_cell? w _ hx536_3)).trans hx536_3
                  replace p536 := eq_true p536
                  replace q536 := eq_true q536
                  go_wp2
                  go_meet
                  case rel => exact ⟨_, (false), (by first | rfl | (simp; done) | (simp [*]; done)), H', ⟨by have := HJ2.out; have := HK2.out; have := HK3.out; have := HJ30.out; first | omega | exact Nat.le_refl _⟩, ⟨by with_reducible repeat first | exact HB.out | apply below_alloc | apply pw_below_drewN | apply below_drew1⟩⟩
                ·rw [if_neg c40] at H
                 exact absurd H (by simp)
               ·rw [if_neg c39] at H
                exact absurd H (by simp)
              case rest =>
               clear HC38
               obtain ⟨kq, x98_37, rfl, HA, HJ37, HB⟩ := hcut
               cases kq with
               | zero => exact absurd HA.out (by simp [papermillref22_Check.j6])
               | succ kj37 =>
                have H := HA.out
                clear HA
                simp only [papermillref22_Check.j6] at H
                by_cases c42 : x98_37 = true
                ·subst c42
                 have H1 : (some 19) = some r := by rw [if_pos rfl] at H; exact H
                 clear H
                 have H := H1
                 clear H1
                 obtain rfl := Option.some.inj H
                 go_wp2
                 go_ret
                 exact ⟨by first | rfl | (simp [errW_none, errW_some] <;> rfl) | (simp [*, errW_none, errW_some] <;> rfl), by with_reducible repeat first | exact HB.out | apply below_alloc | apply pw_below_drewN | apply below_drew1⟩
                ·replace c42 := Bool.eq_false_iff.mpr c42
                 subst c42
                 have H1 : (if 0 ≤ x8_3 then (if x8_3 < (l0.length : Int) then ((papermillref22_Change.f ((rd_T63 l0 x8_3).f0) ((rd_T63 l0 x8_3).f1) ((rd_T63 l0 x8_3).f2) ((rd_T63 l0 x8_3).f3)).bind fun t539 => (if (wrap64 (x7_3 + t539)) > a1 then (some 8) else (papermillref22_Check.l1 kj37 l0 a1 (wrap64 (x7_3 + t539)) (wrap64 (x8_3 + 1))))) else (none)) else (none)) = some r := by rw [if_neg (show ¬ (false = true) by decide)] at H; exact H
                 clear H
                 have H := H1
                 clear H1
                 by_cases c43 : 0 ≤ x8_3
                 ·rw [if_pos c43] at H
                  have c43b0 : decide (0 ≤ x8_3) = true := decide_eq_true c43
                  clear c43
                  by_cases c44 : x8_3 < (l0.length : Int)
                  ·rw [if_pos c44] at H
                   have c44b0 : decide (x8_3 < (l0.length : Int)) = true := decide_eq_true c44
                   clear c44
                   replace H := Option.bind_eq_some_iff.mp H
                   obtain ⟨t539, A450, H⟩ := H
                   replace H : (if (wrap64 (x7_3 + t539)) > a1 then (some 8) else (papermillref22_Check.l1 kj37 l0 a1 (wrap64 (x7_3 + t539)) (wrap64 (x8_3 + 1)))) = some r := H
                   have A45 := Aside0.mk A450
                   clear A450
                   by_cases c46 : (wrap64 (x7_3 + t539)) > a1
                   ·rw [if_pos c46] at H
                    have c46b0 : decide (a1 < (wrap64 (x7_3 + t539))) = true := decide_eq_true c46
                    clear c46
                    obtain rfl := Option.some.inj H
                    have p538 : 0 ≤ (x8_3 : Int) := of_decide_eq_true (by assumption)
                    have q538 : x8_3 < (l0.length : Int) := of_decide_eq_true (by assumption)
                    obtain ⟨ad538, e538, hx538_0, hx538_1, hx538_2, hx538_3⟩ := at_T63 HR0.out x8_3 p538 q538
                    cases e538
                    replace hx538_0 := (HB.out.cell (World.block_lt_of_cell? w _ hx538_0)).trans hx538_0
                    replace hx538_1 := (HB.out.cell (World.block_lt_of_cell? w _ hx538_1)).trans hx538_1
                    replace hx538_2 := (HB.out.cell (World.block_lt_of_cell? w _ hx538_2)).trans hx538_2
                    replace hx538_3 := (HB.out.cell (World.block_lt_of_cell? w _ hx538_3)).trans hx538_3
                    replace p538 := eq_true p538
                    replace q538 := eq_true q538
                    go_wp2_with (first | (go_at_call 47; (with_reducible refine (papermillref22_Change.calls ((rd_T63 l0 x8_3).f0) ((rd_T63 l0 x8_3).f1) ((rd_T63 l0 x8_3).f2) ((rd_T63 l0 x8_3).f3) t539 _ A45.out).mono ?_); rintro e w47 ⟨rfl, hb⟩; have n0_ := Aside0.mk (below_step (by with_reducible repeat first | exact HB.out | apply below_alloc | apply pw_below_drewN | apply below_drew1) hb); clear HB; have HB := n0_; clear n0_))
                    go_ret
                    exact ⟨by first | rfl | (simp [errW_none, errW_some] <;> rfl) | (simp [*, errW_none, errW_some] <;> rfl), by with_reducible repeat first | exact HB.out | apply below_alloc | apply pw_below_drewN | apply below_drew1⟩
                   ·rw [if_neg c46] at H
                    have c46b0 : decide (a1 < (wrap64 (x7_3 + t539))) = false := decide_eq_false c46
                    clear c46
                    have H' := Aside0.mk H
                    clear H
                    have p538 : 0 ≤ (x8_3 : Int) := of_decide_eq_true (by assumption)
                    have q538 : x8_3 < (l0.length : Int) := of_decide_eq_true (by assumption)
                    obtain ⟨ad538, e538, hx538_0, hx538_1, hx538_2, hx538_3⟩ := at_T63 HR0.out x8_3 p538 q538
                    cases e538
                    replace hx538_0 := (HB.out.cell (World.block_lt_of_cell? w _ hx538_0)).trans hx538_0
                    replace hx538_1 := (HB.out.cell (World.block_lt_of_cell? w _ hx538_1)).trans hx538_1
                    replace hx538_2 := (HB.out.cell (World.block_lt_of_cell? w _ hx538_2)).trans hx538_2
                    replace hx538_3 := (HB.out.cell (World.block_lt_of_cell? w _ hx538_3)).trans hx538_3
                    replace p538 := eq_true p538
                    replace q538 := eq_true q538
                    go_wp2_with (first | (go_at_call 47; (with_reducible refine (papermillref22_Change.calls ((rd_T63 l0 x8_3).f0) ((rd_T63 l0 x8_3).f1) ((rd_T63 l0 x8_3).f2) ((rd_T63 l0 x8_3).f3) t539 _ A45.out).mono ?_); rintro e w48 ⟨rfl, hb⟩; have n0_ := Aside0.mk (below_step (by with_reducible repeat first | exact HB.out | apply below_alloc | apply pw_below_drewN | apply below_drew1) hb); clear HB; have HB := n0_; clear n0_))
                    go_roundg kj37
                    case measure => have := HJ2.out; have := HK2.out; have := HK3.out; have := HJ30.out; have := HJ37.out; omega
                    case rel => exact ⟨(wrap64 (x7_3 + t539)), (wrap64 (x8_3 + 1)), (by first | rfl | (simp; done) | (simp [*]; done)), (by first | rfl | (simp; done) | (simp [*]; done)), H', ⟨by have := HJ2.out; have := HK2.out; have := HK3.out; have := HJ30.out; have := HJ37.out; omega⟩, ⟨by with_reducible repeat first | exact HB.out | apply below_alloc | apply pw_below_drewN | apply below_drew1⟩⟩
                  ·rw [if_neg c44] at H
                   exact absurd H (by simp)
                 ·rw [if_neg c43] at H
                  exact absurd H (by simp)
          ·rw [if_neg c30] at H
           have c30b0 : decide (x8_3 < (l0.length : Int)) = false := decide_eq_false c30
           clear c30
           obtain rfl := Option.some.inj H
           go_wp2
           go_ret
           exact ⟨by first | rfl | (simp [errW_none, errW_some] <;> rfl) | (simp [*, errW_none, errW_some] <;> rfl), by with_reducible repeat first | exact HB.out | apply below_alloc | apply pw_below_drewN | apply below_drew1⟩

end Go.Proofs.Ytnkmeocccbkdkaa.P
