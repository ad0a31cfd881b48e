-- Written by a program (wip/prog/pp.py) over the kit's print; some of its functions are proved by hand. Not trusted: Lean checks it.
import Derived.Test.YtnkmeocccbkdkaaPx0
namespace Go.Proofs.Ytnkmeocccbkdkaa.P
open Go.RowKit Go.Proofs.YtnkmeocccbkdkaaW.PrintWords Go.Proofs.YtnkmeocccbkdkaaW.PrintLast Go.Proofs.YtnkmeocccbkdkaaW.PrintMore
attribute [local go_sem] max2_int min2_int max_two min_two max_three min_three max_four min_four   -- for this text's walks alone
set_option linter.unusedVariables false
set_option linter.unusedSimpArgs false

/-! ### broke_checkOne: function 45 -/
mutual
def broke_checkOne.j0 : Nat → Bool → Int → Int → Int → Int → Option (Int)
  | 0, _, _, _, _, _ => none
  | k + 1, x3, x521000, x521001, x521002, x521003 => if x3 = true then (some 1) else (if x521001 < 1 then (broke_checkOne.j1 k true x521000 x521001 x521002 x521003) else (broke_checkOne.j1 k (decide (x521001 > 7)) x521000 x521001 x521002 x521003))
def broke_checkOne.j1 : Nat → Bool → Int → Int → Int → Int → Option (Int)
  | 0, _, _, _, _, _ => none
  | k + 1, x12, x521000, x521001, x521002, x521003 => if x12 = true then (some 17) else (if x521002 < 1 then (broke_checkOne.j2 k true x521000 x521001 x521002 x521003) else (broke_checkOne.j2 k (decide (x521002 > 1099511627776)) x521000 x521001 x521002 x521003))
def broke_checkOne.j2 : Nat → Bool → Int → Int → Int → Int → Option (Int)
  | 0, _, _, _, _, _ => none
  | k + 1, x21, x521000, x521001, x521002, x521003 => if x21 = true then (some 1) else (if x521003 < 0 then (some 1) else (if x521003 > 206158430208000 then (some 1) else (some 0)))
end
def broke_checkOne.f (k : Nat) (a0_0 : Int) (a0_1 : Int) (a0_2 : Int) (a0_3 : Int) : Option (Int) := if a0_0 < 0 then (broke_checkOne.j0 k true a0_0 a0_1 a0_2 a0_3) else (broke_checkOne.j0 k (decide (a0_0 > 2147483647)) a0_0 a0_1 a0_2 a0_3)
theorem broke_checkOne.mono_l : ∀ k, (∀ y0 y1 y2 y3 y4, LeO (broke_checkOne.j0 k y0 y1 y2 y3 y4) (broke_checkOne.j0 (k + 1) y0 y1 y2 y3 y4)) ∧ (∀ y0 y1 y2 y3 y4, LeO (broke_checkOne.j1 k y0 y1 y2 y3 y4) (broke_checkOne.j1 (k + 1) y0 y1 y2 y3 y4)) ∧ (∀ y0 y1 y2 y3 y4, LeO (broke_checkOne.j2 k y0 y1 y2 y3 y4) (broke_checkOne.j2 (k + 1) y0 y1 y2 y3 y4))
  | 0 => ⟨fun _ _ _ _ _ r h => by simp [broke_checkOne.j0] at h, fun _ _ _ _ _ r h => by simp [broke_checkOne.j1] at h, fun _ _ _ _ _ r h => by simp [broke_checkOne.j2] at h⟩
  | k + 1 => by
    obtain ⟨ih0, ih1, ih2⟩ := broke_checkOne.mono_l k
    refine ⟨?_, ?_, ?_⟩
    · intro y0 y1 y2 y3 y4
      unfold broke_checkOne.j0
      repeat' first
      | (with_reducible exact ih0 _ _ _ _ _)
      | (with_reducible exact ih1 _ _ _ _ _)
      | (with_reducible exact ih2 _ _ _ _ _)
      | (with_reducible exact LeO.refl _)
      | (with_reducible exact LeO.none _)
      | (with_reducible refine LeO.ite ?_ ?_)
      | (with_reducible refine LeO.bind ?_ (fun _ => ?_))
      | exact ih0 _ _ _ _ _
      | exact ih1 _ _ _ _ _
      | exact ih2 _ _ _ _ _
      | exact LeO.none _
      | refine LeO.ite ?_ ?_
      | refine LeO.bind ?_ (fun _ => ?_)
    · intro y0 y1 y2 y3 y4
      unfold broke_checkOne.j1
      repeat' first
      | (with_reducible exact ih0 _ _ _ _ _)
      | (with_reducible exact ih1 _ _ _ _ _)
      | (with_reducible exact ih2 _ _ _ _ _)
      | (with_reducible exact LeO.refl _)
      | (with_reducible exact LeO.none _)
      | (with_reducible refine LeO.ite ?_ ?_)
      | (with_reducible refine LeO.bind ?_ (fun _ => ?_))
      | exact ih0 _ _ _ _ _
      | exact ih1 _ _ _ _ _
      | exact ih2 _ _ _ _ _
      | exact LeO.none _
      | refine LeO.ite ?_ ?_
      | refine LeO.bind ?_ (fun _ => ?_)
    · intro y0 y1 y2 y3 y4
      unfold broke_checkOne.j2
      repeat' first
      | (with_reducible exact ih0 _ _ _ _ _)
      | (with_reducible exact ih1 _ _ _ _ _)
      | (with_reducible exact ih2 _ _ _ _ _)
      | (with_reducible exact LeO.refl _)
      | (with_reducible exact LeO.none _)
      | (with_reducible refine LeO.ite ?_ ?_)
      | (with_reducible refine LeO.bind ?_ (fun _ => ?_))
      | exact ih0 _ _ _ _ _
      | exact ih1 _ _ _ _ _
      | exact ih2 _ _ _ _ _
      | exact LeO.none _
      | refine LeO.ite ?_ ?_
      | refine LeO.bind ?_ (fun _ => ?_)
theorem broke_checkOne.mono : ∀ a0 a1 a2 a3 k, LeO (broke_checkOne.f k a0 a1 a2 a3) (broke_checkOne.f (k + 1) a0 a1 a2 a3) := by
  intro a0 a1 a2 a3 k
  obtain ⟨ih0, ih1, ih2⟩ := broke_checkOne.mono_l k
  unfold broke_checkOne.f
  repeat' first
      | (with_reducible exact ih0 _ _ _ _ _)
      | (with_reducible exact ih1 _ _ _ _ _)
      | (with_reducible exact ih2 _ _ _ _ _)
      | (with_reducible exact LeO.refl _)
      | (with_reducible exact LeO.none _)
      | (with_reducible refine LeO.ite ?_ ?_)
      | (with_reducible refine LeO.bind ?_ (fun _ => ?_))
      | exact ih0 _ _ _ _ _
      | exact ih1 _ _ _ _ _
      | exact ih2 _ _ _ _ _
      | exact LeO.none _
      | refine LeO.ite ?_ ?_
      | refine LeO.bind ?_ (fun _ => ?_)
open List (setIfInBounds_toArray set_cons_zero set_cons_succ)
set_option maxHeartbeats 8000000 in
set_option maxRecDepth 100000 in
theorem broke_checkOne.calls (k : Nat) (a0_0 : Int) (a0_1 : Int) (a0_2 : Int) (a0_3 : Int) (r : Int) (w : World) (h : broke_checkOne.f k a0_0 a0_1 a0_2 a0_3 = some r) :
  Calls Try.prog 45 #[.agg #[.int .i64 a0_0, .int .i64 a0_1, .int .i64 a0_2, .int .i64 a0_3]] w fun e w' => e = .returned (.int .i64 r) ∧ Below w.heap.size w w' := by
 have hu63 := Try.underlying63
 have HB := Aside0.mk (Below.refl w.heap.size w)
 have H : (if a0_0 < 0 then (broke_checkOne.j0 k true a0_0 a0_1 a0_2 a0_3) else (broke_checkOne.j0 k (decide (a0_0 > 2147483647)) a0_0 a0_1 a0_2 a0_3)) = some r := h
 clear h
 have HC2 := Aside0.mk H
 clear H
 go_enter Try.func45, Try.ntmps45
 go_upto_region 1 with (first | ((with_reducible refine gate_dst (N := 1) rfl ?_); refine box_event ?hg (N := 1) ?hd (cs := #[.int .i64 a0_0, .int .i64 a0_1, .int .i64 a0_2, .int .i64 a0_3]) (t := 63) ?hr ?_; (case hd => rfl); (case hg => rfl); (case hr => first | (go_simp; done) | (go_simp; rfl)); intro gb520 hg w3 hbox hb; have n0_ := Aside0.mk (below_step (by with_reducible repeat first | exact HB.out | apply below_alloc | apply pw_below_drewN | apply below_drew1) hb); have n1_ := Aside0.mk (hbox); have n2_ := Aside0.mk ((by rw [hg]; exact (below_size (by with_reducible repeat first | exact HB.out | apply below_alloc | apply pw_below_drewN | apply below_drew1)) : w.heap.size ≤ gb520)); have n3_ := Aside0.mk ((by rw [hg]; exact (below_size (by with_reducible repeat first | exact HB.out | apply below_alloc | apply pw_below_drewN | apply below_drew1)) : w.heap.size ≤ gb520)); clear HB; have HB := n0_; have BK520 := n1_; have GW520 := n2_; have GE520 := n3_; clear n0_ n1_ n2_ n3_; clear hb hbox hg))
 (try simp only [Act.put, setIfInBounds_toArray, set_cons_zero, set_cons_succ])
 go_cut [3] (fun v3 wc => ∃ (kq : Nat) (x3_1 : Bool), v3 = .bool x3_1 ∧ Aside0 (broke_checkOne.j0 kq x3_1 a0_0 a0_1 a0_2 a0_3 = some r) ∧ Aside0 (kq ≤ k) ∧ Aside0 (wc.heap[gb520]? = some (.cells #[.int .i64 a0_0, .int .i64 a0_1, .int .i64 a0_2, .int .i64 a0_3] 63 (0, 0))) ∧ Aside0 (Below w.heap.size w wc))
 case first =>
  have H := HC2.out
  clear HC2
  by_cases c4 : a0_0 < 0
  ·rw [if_pos c4] at H
   have c4b0 : decide (a0_0 < 0) = true := decide_eq_true c4
   clear c4
   (first | rw [c4b0] | (simp only [i64_w, i32_w]; rw [c4b0]) | skip)
   have H' := Aside0.mk H
   clear H
   have hcz5_0 : w3.cell? ⟨gb520, 0, none⟩ = some (.int .i64 a0_0) := (blk_cell BK520.out 0).trans rfl
   have hcz5_1 : w3.cell? ⟨gb520, 1, none⟩ = some (.int .i64 a0_1) := (blk_cell BK520.out 1).trans rfl
   have hcz5_2 : w3.cell? ⟨gb520, 2, none⟩ = some (.int .i64 a0_2) := (blk_cell BK520.out 2).trans rfl
   have hcz5_3 : w3.cell? ⟨gb520, 3, none⟩ = some (.int .i64 a0_3) := (blk_cell BK520.out 3).trans rfl
   have hfz5_0 := blk_frozen BK520.out 0
   have hfz5_1 := blk_frozen BK520.out 1
   have hfz5_2 := blk_frozen BK520.out 2
   have hfz5_3 := blk_frozen BK520.out 3
   go_wp2
   go_meet
   case rel => exact ⟨_, (true), (by first | rfl | (simp; done) | (simp [*]; done)), H', ⟨by first | omega | exact Nat.le_refl _⟩, ⟨by (with_reducible repeat (first | refine blk_drewN ?_ _ | refine blk_drew ?_ | refine blk_alloc ?_ _)); exact BK520.out⟩, ⟨by repeat (first | (with_reducible first | exact HB.out | apply below_alloc | apply pw_below_drewN | apply below_drew1 | refine below_set ?_ GE520.out) | exact HB.out)⟩⟩
  ·rw [if_neg c4] at H
   have c4b0 : decide (a0_0 < 0) = false := decide_eq_false c4
   clear c4
   (first | rw [c4b0] | (simp only [i64_w, i32_w]; rw [c4b0]) | skip)
   have H' := Aside0.mk H
   clear H
   have hcz6_0 : w3.cell? ⟨gb520, 0, none⟩ = some (.int .i64 a0_0) := (blk_cell BK520.out 0).trans rfl
   have hcz6_1 : w3.cell? ⟨gb520, 1, none⟩ = some (.int .i64 a0_1) := (blk_cell BK520.out 1).trans rfl
   have hcz6_2 : w3.cell? ⟨gb520, 2, none⟩ = some (.int .i64 a0_2) := (blk_cell BK520.out 2).trans rfl
   have hcz6_3 : w3.cell? ⟨gb520, 3, none⟩ = some (.int .i64 a0_3) := (blk_cell BK520.out 3).trans rfl
   have hfz6_0 := blk_frozen BK520.out 0
   have hfz6_1 := blk_frozen BK520.out 1
   have hfz6_2 := blk_frozen BK520.out 2
   have hfz6_3 := blk_frozen BK520.out 3
   go_wp2
   go_meet
   case rel => exact ⟨_, (decide (a0_0 > 2147483647)), (by first | rfl | (simp; done) | (simp [*]; done)), H', ⟨by first | omega | exact Nat.le_refl _⟩, ⟨by (with_reducible repeat (first | refine blk_drewN ?_ _ | refine blk_drew ?_ | refine blk_alloc ?_ _)); exact BK520.out⟩, ⟨by repeat (first | (with_reducible first | exact HB.out | apply below_alloc | apply pw_below_drewN | apply below_drew1 | refine below_set ?_ GE520.out) | exact HB.out)⟩⟩
 case rest =>
  clear HC2
  obtain ⟨kq, x3_1, rfl, HA, HJ1, BK520, HB⟩ := hcut
  cases kq with
  | zero => exact absurd HA.out (by simp [broke_checkOne.j0])
  | succ kj1 =>
   have H := HA.out
   clear HA
   simp only [broke_checkOne.j0] at H
   by_cases c7 : x3_1 = true
   ·subst c7
    have H1 : (some 1) = some r := by rw [if_pos rfl] at H; exact H
    clear H
    have H := H1
    clear H1
    obtain rfl := Option.some.inj H
    go_wp2
    go_ret
    exact ⟨by first | rfl | (simp [errW_none, errW_some] <;> rfl) | (simp [*, errW_none, errW_some] <;> rfl), by repeat (first | (with_reducible first | exact HB.out | apply below_alloc | apply pw_below_drewN | apply below_drew1 | refine below_set ?_ GE520.out) | exact HB.out)⟩
   ·replace c7 := Bool.eq_false_iff.mpr c7
    subst c7
    have H1 : (if a0_1 < 1 then (broke_checkOne.j1 kj1 true a0_0 a0_1 a0_2 a0_3) else (broke_checkOne.j1 kj1 (decide (a0_1 > 7)) a0_0 a0_1 a0_2 a0_3)) = some r := by rw [if_neg (show ¬ (false = true) by decide)] at H; exact H
    clear H
    have H := H1
    clear H1
    have HC8 := Aside0.mk H
    clear H
    go_upto_region 3 with (fail)
    go_cut [12] (fun v12 wc => ∃ (kq : Nat) (x12_7 : Bool), v12 = .bool x12_7 ∧ Aside0 (broke_checkOne.j1 kq x12_7 a0_0 a0_1 a0_2 a0_3 = some r) ∧ Aside0 (kq ≤ kj1) ∧ Aside0 (wc.heap[gb520]? = some (.cells #[.int .i64 a0_0, .int .i64 a0_1, .int .i64 a0_2, .int .i64 a0_3] 63 (0, 0))) ∧ Aside0 (Below w.heap.size w wc))
    case first =>
     have H := HC8.out
     clear HC8
     by_cases c9 : a0_1 < 1
     ·rw [if_pos c9] at H
      have c9b0 : decide (a0_1 < 1) = true := decide_eq_true c9
      clear c9
      (first | rw [c9b0] | (simp only [i64_w, i32_w]; rw [c9b0]) | skip)
      have H' := Aside0.mk H
      clear H
      have hcz10_0 : wc.cell? ⟨gb520, 0, none⟩ = some (.int .i64 a0_0) := (blk_cell BK520.out 0).trans rfl
      have hcz10_1 : wc.cell? ⟨gb520, 1, none⟩ = some (.int .i64 a0_1) := (blk_cell BK520.out 1).trans rfl
      have hcz10_2 : wc.cell? ⟨gb520, 2, none⟩ = some (.int .i64 a0_2) := (blk_cell BK520.out 2).trans rfl
      have hcz10_3 : wc.cell? ⟨gb520, 3, none⟩ = some (.int .i64 a0_3) := (blk_cell BK520.out 3).trans rfl
      have hfz10_0 := blk_frozen BK520.out 0
      have hfz10_1 := blk_frozen BK520.out 1
      have hfz10_2 := blk_frozen BK520.out 2
      have hfz10_3 := blk_frozen BK520.out 3
      go_wp2
      go_meet
      case rel => exact ⟨_, (true), (by first | rfl | (simp; done) | (simp [*]; done)), H', ⟨by have := HJ1.out; first | omega | exact Nat.le_refl _⟩, ⟨by (with_reducible repeat (first | refine blk_drewN ?_ _ | refine blk_drew ?_ | refine blk_alloc ?_ _)); exact BK520.out⟩, ⟨by repeat (first | (with_reducible first | exact HB.out | apply below_alloc | apply pw_below_drewN | apply below_drew1 | refine below_set ?_ GE520.out) | exact HB.out)⟩⟩
     ·rw [if_neg c9] at H
      have c9b0 : decide (a0_1 < 1) = false := decide_eq_false c9
      clear c9
      (first | rw [c9b0] | (simp only [i64_w, i32_w]; rw [c9b0]) | skip)
      have H' := Aside0.mk H
      clear H
      have hcz11_0 : wc.cell? ⟨gb520, 0, none⟩ = some (.int .i64 a0_0) := (blk_cell BK520.out 0).trans rfl
      have hcz11_1 : wc.cell? ⟨gb520, 1, none⟩ = some (.int .i64 a0_1) := (blk_cell BK520.out 1).trans rfl
      have hcz11_2 : wc.cell? ⟨gb520, 2, none⟩ = some (.int .i64 a0_2) := (blk_cell BK520.out 2).trans rfl
      have hcz11_3 : wc.cell? ⟨gb520, 3, none⟩ = some (.int .i64 a0_3) := (blk_cell BK520.out 3).trans rfl
      have hfz11_0 := blk_frozen BK520.out 0
      have hfz11_1 := blk_frozen BK520.out 1
      have hfz11_2 := blk_frozen BK520.out 2
      have hfz11_3 := blk_frozen BK520.out 3
      go_wp2
      go_meet
      case rel => exact ⟨_, (decide (a0_1 > 7)), (by first | rfl | (simp; done) | (simp [*]; done)), H', ⟨by have := HJ1.out; first | omega | exact Nat.le_refl _⟩, ⟨by (with_reducible repeat (first | refine blk_drewN ?_ _ | refine blk_drew ?_ | refine blk_alloc ?_ _)); exact BK520.out⟩, ⟨by repeat (first | (with_reducible first | exact HB.out | apply below_alloc | apply pw_below_drewN | apply below_drew1 | refine below_set ?_ GE520.out) | exact HB.out)⟩⟩
    case rest =>
     clear HC8
     obtain ⟨kq, x12_7, rfl, HA, HJ7, BK520, HB⟩ := hcut
     cases kq with
     | zero => exact absurd HA.out (by simp [broke_checkOne.j1])
     | succ kj7 =>
      have H := HA.out
      clear HA
      simp only [broke_checkOne.j1] at H
      by_cases c12 : x12_7 = true
      ·subst c12
       have H1 : (some 17) = some r := by rw [if_pos rfl] at H; exact H
       clear H
       have H := H1
       clear H1
       obtain rfl := Option.some.inj H
       go_wp2
       go_ret
       exact ⟨by first | rfl | (simp [errW_none, errW_some] <;> rfl) | (simp [*, errW_none, errW_some] <;> rfl), by repeat (first | (with_reducible first | exact HB.out | apply below_alloc | apply pw_below_drewN | apply below_drew1 | refine below_set ?_ GE520.out) | exact HB.out)⟩
      ·replace c12 := Bool.eq_false_iff.mpr c12
       subst c12
       have H1 : (if a0_2 < 1 then (broke_checkOne.j2 kj7 true a0_0 a0_1 a0_2 a0_3) else (broke_checkOne.j2 kj7 (decide (a0_2 > 1099511627776)) a0_0 a0_1 a0_2 a0_3)) = some r := by rw [if_neg (show ¬ (false = true) by decide)] at H; exact H
       clear H
       have H := H1
       clear H1
       have HC13 := Aside0.mk H
       clear H
       go_upto_region 5 with (fail)
       go_cut [21] (fun v21 wc => ∃ (kq : Nat) (x21_12 : Bool), v21 = .bool x21_12 ∧ Aside0 (broke_checkOne.j2 kq x21_12 a0_0 a0_1 a0_2 a0_3 = some r) ∧ Aside0 (kq ≤ kj7) ∧ Aside0 (wc.heap[gb520]? = some (.cells #[.int .i64 a0_0, .int .i64 a0_1, .int .i64 a0_2, .int .i64 a0_3] 63 (0, 0))) ∧ Aside0 (Below w.heap.size w wc))
       case first =>
        have H := HC13.out
        clear HC13
        by_cases c14 : a0_2 < 1
        ·rw [if_pos c14] at H
         have c14b0 : decide (a0_2 < 1) = true := decide_eq_true c14
         clear c14
         (first | rw [c14b0] | (simp only [i64_w, i32_w]; rw [c14b0]) | skip)
         have H' := Aside0.mk H
         clear H
         have hcz15_0 : wc.cell? ⟨gb520, 0, none⟩ = some (.int .i64 a0_0) := (blk_cell BK520.out 0).trans rfl
         have hcz15_1 : wc.cell? ⟨gb520, 1, none⟩ = some (.int .i64 a0_1) := (blk_cell BK520.out 1).trans rfl
         have hcz15_2 : wc.cell? ⟨gb520, 2, none⟩ = some (.int .i64 a0_2) := (blk_cell BK520.out 2).trans rfl
         have hcz15_3 : wc.cell? ⟨gb520, 3, none⟩ = some (.int .i64 a0_3) := (blk_cell BK520.out 3).trans rfl
         have hfz15_0 := blk_frozen BK520.out 0
         have hfz15_1 := blk_frozen BK520.out 1
         have hfz15_2 := blk_frozen BK520.out 2
         have hfz15_3 := blk_frozen BK520.out 3
         go_wp2
         go_meet
         case rel => exact ⟨_, (true), (by first | rfl | (simp; done) | (simp [*]; done)), H', ⟨by have := HJ1.out; have := HJ7.out; first | omega | exact Nat.le_refl _⟩, ⟨by (with_reducible repeat (first | refine blk_drewN ?_ _ | refine blk_drew ?_ | refine blk_alloc ?_ _)); exact BK520.out⟩, ⟨by repeat (first | (with_reducible first | exact HB.out | apply below_alloc | apply pw_below_drewN | apply below_drew1 | refine below_set ?_ GE520.out) | exact HB.out)⟩⟩
        ·rw [if_neg c14] at H
         have c14b0 : decide (a0_2 < 1) = false := decide_eq_false c14
         clear c14
         (first | rw [c14b0] | (simp only [i64_w, i32_w]; rw [c14b0]) | skip)
         have H' := Aside0.mk H
         clear H
         have hcz16_0 : wc.cell? ⟨gb520, 0, none⟩ = some (.int .i64 a0_0) := (blk_cell BK520.out 0).trans rfl
         have hcz16_1 : wc.cell? ⟨gb520, 1, none⟩ = some (.int .i64 a0_1) := (blk_cell BK520.out 1).trans rfl
         have hcz16_2 : wc.cell? ⟨gb520, 2, none⟩ = some (.int .i64 a0_2) := (blk_cell BK520.out 2).trans rfl
         have hcz16_3 : wc.cell? ⟨gb520, 3, none⟩ = some (.int .i64 a0_3) := (blk_cell BK520.out 3).trans rfl
         have hfz16_0 := blk_frozen BK520.out 0
         have hfz16_1 := blk_frozen BK520.out 1
         have hfz16_2 := blk_frozen BK520.out 2
         have hfz16_3 := blk_frozen BK520.out 3
         go_wp2
         go_meet
         case rel => exact ⟨_, (decide (a0_2 > 1099511627776)), (by first | rfl | (simp; done) | (simp [*]; done)), H', ⟨by have := HJ1.out; have := HJ7.out; first | omega | exact Nat.le_refl _⟩, ⟨by (with_reducible repeat (first | refine blk_drewN ?_ _ | refine blk_drew ?_ | refine blk_alloc ?_ _)); exact BK520.out⟩, ⟨by repeat (first | (with_reducible first | exact HB.out | apply below_alloc | apply pw_below_drewN | apply below_drew1 | refine below_set ?_ GE520.out) | exact HB.out)⟩⟩
       case rest =>
        clear HC13
        obtain ⟨kq, x21_12, rfl, HA, HJ12, BK520, HB⟩ := hcut
        cases kq with
        | zero => exact absurd HA.out (by simp [broke_checkOne.j2])
        | succ kj12 =>
         have H := HA.out
         clear HA
         simp only [broke_checkOne.j2] at H
         by_cases c17 : x21_12 = true
         ·subst c17
          have H1 : (some 1) = some r := by rw [if_pos rfl] at H; exact H
          clear H
          have H := H1
          clear H1
          obtain rfl := Option.some.inj H
          go_wp2
          go_ret
          exact ⟨by first | rfl | (simp [errW_none, errW_some] <;> rfl) | (simp [*, errW_none, errW_some] <;> rfl), by repeat (first | (with_reducible first | exact HB.out | apply below_alloc | apply pw_below_drewN | apply below_drew1 | refine below_set ?_ GE520.out) | exact HB.out)⟩
         ·replace c17 := Bool.eq_false_iff.mpr c17
          subst c17
          have H1 : (if a0_3 < 0 then (some 1) else (if a0_3 > 206158430208000 then (some 1) else (some 0))) = some r := by rw [if_neg (show ¬ (false = true) by decide)] at H; exact H
          clear H
          have H := H1
          clear H1
          by_cases c18 : a0_3 < 0
          ·rw [if_pos c18] at H
           have c18b0 : decide (a0_3 < 0) = true := decide_eq_true c18
           clear c18
           obtain rfl := Option.some.inj H
           have hcz19_0 : wc.cell? ⟨gb520, 0, none⟩ = some (.int .i64 a0_0) := (blk_cell BK520.out 0).trans rfl
           have hcz19_1 : wc.cell? ⟨gb520, 1, none⟩ = some (.int .i64 a0_1) := (blk_cell BK520.out 1).trans rfl
           have hcz19_2 : wc.cell? ⟨gb520, 2, none⟩ = some (.int .i64 a0_2) := (blk_cell BK520.out 2).trans rfl
           have hcz19_3 : wc.cell? ⟨gb520, 3, none⟩ = some (.int .i64 a0_3) := (blk_cell BK520.out 3).trans rfl
           have hfz19_0 := blk_frozen BK520.out 0
           have hfz19_1 := blk_frozen BK520.out 1
           have hfz19_2 := blk_frozen BK520.out 2
           have hfz19_3 := blk_frozen BK520.out 3
           go_wp2
           go_ret
           exact ⟨by first | rfl | (simp [errW_none, errW_some] <;> rfl) | (simp [*, errW_none, errW_some] <;> rfl), by repeat (first | (with_reducible first | exact HB.out | apply below_alloc | apply pw_below_drewN | apply below_drew1 | refine below_set ?_ GE520.out) | exact HB.out)⟩
          ·rw [if_neg c18] at H
           have c18b0 : decide (a0_3 < 0) = false := decide_eq_false c18
           clear c18
           by_cases c20 : a0_3 > 206158430208000
           ·rw [if_pos c20] at H
            have c20b0 : decide (206158430208000 < a0_3) = true := decide_eq_true c20
            clear c20
            obtain rfl := Option.some.inj H
            have hcz21_0 : wc.cell? ⟨gb520, 0, none⟩ = some (.int .i64 a0_0) := (blk_cell BK520.out 0).trans rfl
            have hcz21_1 : wc.cell? ⟨gb520, 1, none⟩ = some (.int .i64 a0_1) := (blk_cell BK520.out 1).trans rfl
            have hcz21_2 : wc.cell? ⟨gb520, 2, none⟩ = some (.int .i64 a0_2) := (blk_cell BK520.out 2).trans rfl
            have hcz21_3 : wc.cell? ⟨gb520, 3, none⟩ = some (.int .i64 a0_3) := (blk_cell BK520.out 3).trans rfl
            have hfz21_0 := blk_frozen BK520.out 0
            have hfz21_1 := blk_frozen BK520.out 1
            have hfz21_2 := blk_frozen BK520.out 2
            have hfz21_3 := blk_frozen BK520.out 3
            go_wp2
            go_ret
            exact ⟨by first | rfl | (simp [errW_none, errW_some] <;> rfl) | (simp [*, errW_none, errW_some] <;> rfl), by repeat (first | (with_reducible first | exact HB.out | apply below_alloc | apply pw_below_drewN | apply below_drew1 | refine below_set ?_ GE520.out) | exact HB.out)⟩
           ·rw [if_neg c20] at H
            have c20b0 : decide (206158430208000 < a0_3) = false := decide_eq_false c20
            clear c20
            obtain rfl := Option.some.inj H
            have hcz22_0 : wc.cell? ⟨gb520, 0, none⟩ = some (.int .i64 a0_0) := (blk_cell BK520.out 0).trans rfl
            have hcz22_1 : wc.cell? ⟨gb520, 1, none⟩ = some (.int .i64 a0_1) := (blk_cell BK520.out 1).trans rfl
            have hcz22_2 : wc.cell? ⟨gb520, 2, none⟩ = some (.int .i64 a0_2) := (blk_cell BK520.out 2).trans rfl
            have hcz22_3 : wc.cell? ⟨gb520, 3, none⟩ = some (.int .i64 a0_3) := (blk_cell BK520.out 3).trans rfl
            have hfz22_0 := blk_frozen BK520.out 0
            have hfz22_1 := blk_frozen BK520.out 1
            have hfz22_2 := blk_frozen BK520.out 2
            have hfz22_3 := blk_frozen BK520.out 3
            go_wp2
            go_ret
            exact ⟨by first | rfl | (simp [errW_none, errW_some] <;> rfl) | (simp [*, errW_none, errW_some] <;> rfl), by repeat (first | (with_reducible first | exact HB.out | apply below_alloc | apply pw_below_drewN | apply below_drew1 | refine below_set ?_ GE520.out) | exact HB.out)⟩

end Go.Proofs.Ytnkmeocccbkdkaa.P

namespace Go.Proofs.Ytnkmeocccbkdkaa.P
open Go.RowKit Go.Proofs.YtnkmeocccbkdkaaW.PrintWords Go.Proofs.YtnkmeocccbkdkaaW.PrintLast Go.Proofs.YtnkmeocccbkdkaaW.PrintMore
attribute [local go_sem] max2_int min2_int max_two min_two max_three min_three max_four min_four   -- for this text's walks alone
set_option linter.unusedVariables false
set_option linter.unusedSimpArgs false

/-! ### broke_signed: function 46 -/
def broke_signed.j0 : Nat → Int → Int → Bool → Int → Int → Int → Int → Option (Int)
  | 0, _, _, _, _, _, _, _ => none
  | k + 1, x3, x5, x6, x522000, x522001, x522002, x522003 => if x6 = true then (some x522002) else (if x5 = 7 then (some x522002) else (if x5 = 6 then (some (wrap64 (-x522002))) else (some x3)))
def broke_signed.f (k : Nat) (a0_0 : Int) (a0_1 : Int) (a0_2 : Int) (a0_3 : Int) : Option (Int) := if a0_1 = 1 then (broke_signed.j0 k 0 a0_1 (a0_1 == 1) a0_0 a0_1 a0_2 a0_3) else (if a0_1 = 2 then (broke_signed.j0 k 0 a0_1 (a0_1 == 2) a0_0 a0_1 a0_2 a0_3) else (if a0_1 = 3 then (broke_signed.j0 k 0 a0_1 (a0_1 == 3) a0_0 a0_1 a0_2 a0_3) else (if a0_1 = 4 then (broke_signed.j0 k 0 a0_1 (a0_1 == 4) a0_0 a0_1 a0_2 a0_3) else (broke_signed.j0 k 0 a0_1 (a0_1 == 5) a0_0 a0_1 a0_2 a0_3))))
theorem broke_signed.mono_l : ∀ k, (∀ y0 y1 y2 y3 y4 y5 y6, LeO (broke_signed.j0 k y0 y1 y2 y3 y4 y5 y6) (broke_signed.j0 (k + 1) y0 y1 y2 y3 y4 y5 y6))
  | 0 => fun _ _ _ _ _ _ _ r h => by simp [broke_signed.j0] at h
  | k + 1 => by
    have ih0 := broke_signed.mono_l k
    · intro y0 y1 y2 y3 y4 y5 y6
      unfold broke_signed.j0
      repeat' first
      | (with_reducible exact ih0 _ _ _ _ _ _ _)
      | (with_reducible exact LeO.refl _)
      | (with_reducible exact LeO.none _)
      | (with_reducible refine LeO.ite ?_ ?_)
      | (with_reducible refine LeO.bind ?_ (fun _ => ?_))
      | exact ih0 _ _ _ _ _ _ _
      | exact LeO.none _
      | refine LeO.ite ?_ ?_
      | refine LeO.bind ?_ (fun _ => ?_)
theorem broke_signed.mono : ∀ a0 a1 a2 a3 k, LeO (broke_signed.f k a0 a1 a2 a3) (broke_signed.f (k + 1) a0 a1 a2 a3) := by
  intro a0 a1 a2 a3 k
  have ih0 := broke_signed.mono_l k
  unfold broke_signed.f
  repeat' first
      | (with_reducible exact ih0 _ _ _ _ _ _ _)
      | (with_reducible exact LeO.refl _)
      | (with_reducible exact LeO.none _)
      | (with_reducible refine LeO.ite ?_ ?_)
      | (with_reducible refine LeO.bind ?_ (fun _ => ?_))
      | exact ih0 _ _ _ _ _ _ _
      | exact LeO.none _
      | refine LeO.ite ?_ ?_
      | refine LeO.bind ?_ (fun _ => ?_)
open List (setIfInBounds_toArray set_cons_zero set_cons_succ)
set_option maxHeartbeats 8000000 in
set_option maxRecDepth 100000 in
theorem broke_signed.calls (k : Nat) (a0_0 : Int) (a0_1 : Int) (a0_2 : Int) (a0_3 : Int) (r : Int) (w : World) (h : broke_signed.f k a0_0 a0_1 a0_2 a0_3 = some r) :
  Calls Try.prog 46 #[.agg #[.int .i64 a0_0, .int .i64 a0_1, .int .i64 a0_2, .int .i64 a0_3]] w fun e w' => e = .returned (.int .i64 r) ∧ Below w.heap.size w w' := by
 have hu63 := Try.underlying63
 have HB := Aside0.mk (Below.refl w.heap.size w)
 have H : (if a0_1 = 1 then (broke_signed.j0 k 0 a0_1 (a0_1 == 1) a0_0 a0_1 a0_2 a0_3) else (if a0_1 = 2 then (broke_signed.j0 k 0 a0_1 (a0_1 == 2) a0_0 a0_1 a0_2 a0_3) else (if a0_1 = 3 then (broke_signed.j0 k 0 a0_1 (a0_1 == 3) a0_0 a0_1 a0_2 a0_3) else (if a0_1 = 4 then (broke_signed.j0 k 0 a0_1 (a0_1 == 4) a0_0 a0_1 a0_2 a0_3) else (broke_signed.j0 k 0 a0_1 (a0_1 == 5) a0_0 a0_1 a0_2 a0_3))))) = some r := h
 clear h
 have HC2 := Aside0.mk H
 clear H
 go_enter Try.func46, Try.ntmps46
 go_upto_if 6 with (first | ((with_reducible refine gate_dst (N := 1) rfl ?_); refine box_event ?hg (N := 1) ?hd (cs := #[.int .i64 a0_0, .int .i64 a0_1, .int .i64 a0_2, .int .i64 a0_3]) (t := 63) ?hr ?_; (case hd => rfl); (case hg => rfl); (case hr => first | (go_simp; done) | (go_simp; rfl)); intro gb521 hg w3 hbox hb; have n0_ := Aside0.mk (below_step (by with_reducible repeat first | exact HB.out | apply below_alloc | apply pw_below_drewN | apply below_drew1) hb); have n1_ := Aside0.mk (hbox); have n2_ := Aside0.mk ((by rw [hg]; exact (below_size (by with_reducible repeat first | exact HB.out | apply below_alloc | apply pw_below_drewN | apply below_drew1)) : w.heap.size ≤ gb521)); have n3_ := Aside0.mk ((by rw [hg]; exact (below_size (by with_reducible repeat first | exact HB.out | apply below_alloc | apply pw_below_drewN | apply below_drew1)) : w.heap.size ≤ gb521)); clear HB; have HB := n0_; have BK521 := n1_; have GW521 := n2_; have GE521 := n3_; clear n0_ n1_ n2_ n3_; clear hb hbox hg; have hcz4_0 : w3.cell? ⟨gb521, 0, none⟩ = some (.int .i64 a0_0) := (blk_cell BK521.out 0).trans rfl; have hcz4_1 : w3.cell? ⟨gb521, 1, none⟩ = some (.int .i64 a0_1) := (blk_cell BK521.out 1).trans rfl; have hcz4_2 : w3.cell? ⟨gb521, 2, none⟩ = some (.int .i64 a0_2) := (blk_cell BK521.out 2).trans rfl; have hcz4_3 : w3.cell? ⟨gb521, 3, none⟩ = some (.int .i64 a0_3) := (blk_cell BK521.out 3).trans rfl; have hfz4_0 := blk_frozen BK521.out 0; have hfz4_1 := blk_frozen BK521.out 1; have hfz4_2 := blk_frozen BK521.out 2; have hfz4_3 := blk_frozen BK521.out 3))
 (try simp only [Act.put, setIfInBounds_toArray, set_cons_zero, set_cons_succ])
 go_cut [6] (fun v6 wc => ∃ (kq : Nat) (x6_1 : Bool), v6 = .bool x6_1 ∧ Aside0 (broke_signed.j0 kq 0 a0_1 x6_1 a0_0 a0_1 a0_2 a0_3 = some r) ∧ Aside0 (kq ≤ k) ∧ Aside0 (wc.heap[gb521]? = some (.cells #[.int .i64 a0_0, .int .i64 a0_1, .int .i64 a0_2, .int .i64 a0_3] 63 (0, 0))) ∧ Aside0 (Below w.heap.size w wc))
 case first =>
  have H := HC2.out
  clear HC2
  by_cases c5 : a0_1 = 1
  ·rw [if_pos c5] at H
   have c5b0 : (a0_1 == 1) = true := beq_iff_eq.mpr c5
   have c5b1 : (a0_1 != 1) = false := bne_eq_false_iff_eq.mpr c5
   clear c5
   (first | rw [c5b0] | (simp only [i64_w, i32_w]; rw [c5b0]) | skip)
   have H' := Aside0.mk H
   clear H
   go_wp2
   go_meet
   case rel => exact ⟨_, ((a0_1 == 1)), (by first | rfl | (simp; done) | (simp [*]; done)), H', ⟨by first | omega | exact Nat.le_refl _⟩, ⟨by (with_reducible repeat (first | refine blk_drewN ?_ _ | refine blk_drew ?_ | refine blk_alloc ?_ _)); exact BK521.out⟩, ⟨by repeat (first | (with_reducible first | exact HB.out | apply below_alloc | apply pw_below_drewN | apply below_drew1 | refine below_set ?_ GE521.out) | exact HB.out)⟩⟩
  ·rw [if_neg c5] at H
   have c5b0 : (a0_1 == 1) = false := beq_eq_false_iff_ne.mpr c5
   have c5b1 : (a0_1 != 1) = true := bne_iff_ne.mpr c5
   (first | rw [c5b0] | (simp only [i64_w, i32_w]; rw [c5b0]) | skip)
   by_cases c6 : a0_1 = 2
   ·rw [if_pos c6] at H
    have c6b0 : (a0_1 == 2) = true := beq_iff_eq.mpr c6
    have c6b1 : (a0_1 != 2) = false := bne_eq_false_iff_eq.mpr c6
    clear c6
    have H' := Aside0.mk H
    clear H
    go_wp2
    go_meet
    case rel => exact ⟨_, ((a0_1 == 2)), (by first | rfl | (simp; done) | (simp [*]; done)), H', ⟨by first | omega | exact Nat.le_refl _⟩, ⟨by (with_reducible repeat (first | refine blk_drewN ?_ _ | refine blk_drew ?_ | refine blk_alloc ?_ _)); exact BK521.out⟩, ⟨by repeat (first | (with_reducible first | exact HB.out | apply below_alloc | apply pw_below_drewN | apply below_drew1 | refine below_set ?_ GE521.out) | exact HB.out)⟩⟩
   ·rw [if_neg c6] at H
    have c6b0 : (a0_1 == 2) = false := beq_eq_false_iff_ne.mpr c6
    have c6b1 : (a0_1 != 2) = true := bne_iff_ne.mpr c6
    by_cases c7 : a0_1 = 3
    ·rw [if_pos c7] at H
     have c7b0 : (a0_1 == 3) = true := beq_iff_eq.mpr c7
     have c7b1 : (a0_1 != 3) = false := bne_eq_false_iff_eq.mpr c7
     clear c7
     have H' := Aside0.mk H
     clear H
     go_wp2
     go_meet
     case rel => exact ⟨_, ((a0_1 == 3)), (by first | rfl | (simp; done) | (simp [*]; done)), H', ⟨by first | omega | exact Nat.le_refl _⟩, ⟨by (with_reducible repeat (first | refine blk_drewN ?_ _ | refine blk_drew ?_ | refine blk_alloc ?_ _)); exact BK521.out⟩, ⟨by repeat (first | (with_reducible first | exact HB.out | apply below_alloc | apply pw_below_drewN | apply below_drew1 | refine below_set ?_ GE521.out) | exact HB.out)⟩⟩
    ·rw [if_neg c7] at H
     have c7b0 : (a0_1 == 3) = false := beq_eq_false_iff_ne.mpr c7
     have c7b1 : (a0_1 != 3) = true := bne_iff_ne.mpr c7
     by_cases c8 : a0_1 = 4
     ·rw [if_pos c8] at H
      have c8b0 : (a0_1 == 4) = true := beq_iff_eq.mpr c8
      have c8b1 : (a0_1 != 4) = false := bne_eq_false_iff_eq.mpr c8
      clear c8
      have H' := Aside0.mk H
      clear H
      go_wp2
      go_meet
      case rel => exact ⟨_, ((a0_1 == 4)), (by first | rfl | (simp; done) | (simp [*]; done)), H', ⟨by first | omega | exact Nat.le_refl _⟩, ⟨by (with_reducible repeat (first | refine blk_drewN ?_ _ | refine blk_drew ?_ | refine blk_alloc ?_ _)); exact BK521.out⟩, ⟨by repeat (first | (with_reducible first | exact HB.out | apply below_alloc | apply pw_below_drewN | apply below_drew1 | refine below_set ?_ GE521.out) | exact HB.out)⟩⟩
     ·rw [if_neg c8] at H
      have c8b0 : (a0_1 == 4) = false := beq_eq_false_iff_ne.mpr c8
      have c8b1 : (a0_1 != 4) = true := bne_iff_ne.mpr c8
      have H' := Aside0.mk H
      clear H
      go_wp2
      go_meet
      case rel => exact ⟨_, ((a0_1 == 5)), (by first | rfl | (simp; done) | (simp [*]; done)), H', ⟨by first | omega | exact Nat.le_refl _⟩, ⟨by (with_reducible repeat (first | refine blk_drewN ?_ _ | refine blk_drew ?_ | refine blk_alloc ?_ _)); exact BK521.out⟩, ⟨by repeat (first | (with_reducible first | exact HB.out | apply below_alloc | apply pw_below_drewN | apply below_drew1 | refine below_set ?_ GE521.out) | exact HB.out)⟩⟩
 case rest =>
  clear HC2
  obtain ⟨kq, x6_1, rfl, HA, HJ1, BK521, HB⟩ := hcut
  cases kq with
  | zero => exact absurd HA.out (by simp [broke_signed.j0])
  | succ kj1 =>
   have H := HA.out
   clear HA
   simp only [broke_signed.j0] at H
   by_cases c9 : x6_1 = true
   ·subst c9
    have H1 : (some a0_2) = some r := by rw [if_pos rfl] at H; exact H
    clear H
    have H := H1
    clear H1
    obtain rfl := Option.some.inj H
    have hcz10_0 : wc.cell? ⟨gb521, 0, none⟩ = some (.int .i64 a0_0) := (blk_cell BK521.out 0).trans rfl
    have hcz10_1 : wc.cell? ⟨gb521, 1, none⟩ = some (.int .i64 a0_1) := (blk_cell BK521.out 1).trans rfl
    have hcz10_2 : wc.cell? ⟨gb521, 2, none⟩ = some (.int .i64 a0_2) := (blk_cell BK521.out 2).trans rfl
    have hcz10_3 : wc.cell? ⟨gb521, 3, none⟩ = some (.int .i64 a0_3) := (blk_cell BK521.out 3).trans rfl
    have hfz10_0 := blk_frozen BK521.out 0
    have hfz10_1 := blk_frozen BK521.out 1
    have hfz10_2 := blk_frozen BK521.out 2
    have hfz10_3 := blk_frozen BK521.out 3
    go_wp2
    go_ret
    exact ⟨by first | rfl | (simp [errW_none, errW_some] <;> rfl) | (simp [*, errW_none, errW_some] <;> rfl), by repeat (first | (with_reducible first | exact HB.out | apply below_alloc | apply pw_below_drewN | apply below_drew1 | refine below_set ?_ GE521.out) | exact HB.out)⟩
   ·replace c9 := Bool.eq_false_iff.mpr c9
    subst c9
    have H1 : (if a0_1 = 7 then (some a0_2) else (if a0_1 = 6 then (some (wrap64 (-a0_2))) else (some 0))) = some r := by rw [if_neg (show ¬ (false = true) by decide)] at H; exact H
    clear H
    have H := H1
    clear H1
    by_cases c11 : a0_1 = 7
    ·rw [if_pos c11] at H
     have c11b0 : (a0_1 == 7) = true := beq_iff_eq.mpr c11
     have c11b1 : (a0_1 != 7) = false := bne_eq_false_iff_eq.mpr c11
     clear c11
     obtain rfl := Option.some.inj H
     have hcz12_0 : wc.cell? ⟨gb521, 0, none⟩ = some (.int .i64 a0_0) := (blk_cell BK521.out 0).trans rfl
     have hcz12_1 : wc.cell? ⟨gb521, 1, none⟩ = some (.int .i64 a0_1) := (blk_cell BK521.out 1).trans rfl
     have hcz12_2 : wc.cell? ⟨gb521, 2, none⟩ = some (.int .i64 a0_2) := (blk_cell BK521.out 2).trans rfl
     have hcz12_3 : wc.cell? ⟨gb521, 3, none⟩ = some (.int .i64 a0_3) := (blk_cell BK521.out 3).trans rfl
     have hfz12_0 := blk_frozen BK521.out 0
     have hfz12_1 := blk_frozen BK521.out 1
     have hfz12_2 := blk_frozen BK521.out 2
     have hfz12_3 := blk_frozen BK521.out 3
     go_wp2
     go_ret
     exact ⟨by first | rfl | (simp [errW_none, errW_some] <;> rfl) | (simp [*, errW_none, errW_some] <;> rfl), by repeat (first | (with_reducible first | exact HB.out | apply below_alloc | apply pw_below_drewN | apply below_drew1 | refine below_set ?_ GE521.out) | exact HB.out)⟩
    ·rw [if_neg c11] at H
     have c11b0 : (a0_1 == 7) = false := beq_eq_false_iff_ne.mpr c11
     have c11b1 : (a0_1 != 7) = true := bne_iff_ne.mpr c11
     by_cases c13 : a0_1 = 6
     ·rw [if_pos c13] at H
      have c13b0 : (a0_1 == 6) = true := beq_iff_eq.mpr c13
      have c13b1 : (a0_1 != 6) = false := bne_eq_false_iff_eq.mpr c13
      clear c13
      obtain rfl := Option.some.inj H
      have hcz14_0 : wc.cell? ⟨gb521, 0, none⟩ = some (.int .i64 a0_0) := (blk_cell BK521.out 0).trans rfl
      have hcz14_1 : wc.cell? ⟨gb521, 1, none⟩ = some (.int .i64 a0_1) := (blk_cell BK521.out 1).trans rfl
      have hcz14_2 : wc.cell? ⟨gb521, 2, none⟩ = some (.int .i64 a0_2) := (blk_cell BK521.out 2).trans rfl
      have hcz14_3 : wc.cell? ⟨gb521, 3, none⟩ = some (.int .i64 a0_3) := (blk_cell BK521.out 3).trans rfl
      have hfz14_0 := blk_frozen BK521.out 0
      have hfz14_1 := blk_frozen BK521.out 1
      have hfz14_2 := blk_frozen BK521.out 2
      have hfz14_3 := blk_frozen BK521.out 3
      go_wp2
      go_ret
      exact ⟨by first | rfl | (simp [errW_none, errW_some] <;> rfl) | (simp [*, errW_none, errW_some] <;> rfl), by repeat (first | (with_reducible first | exact HB.out | apply below_alloc | apply pw_below_drewN | apply below_drew1 | refine below_set ?_ GE521.out) | exact HB.out)⟩
     ·rw [if_neg c13] at H
      have c13b0 : (a0_1 == 6) = false := beq_eq_false_iff_ne.mpr c13
      have c13b1 : (a0_1 != 6) = true := bne_iff_ne.mpr c13
      obtain rfl := Option.some.inj H
      go_wp2
      go_ret
      exact ⟨by first | rfl | (simp [errW_none, errW_some] <;> rfl) | (simp [*, errW_none, errW_some] <;> rfl), by repeat (first | (with_reducible first | exact HB.out | apply below_alloc | apply pw_below_drewN | apply below_drew1 | refine below_set ?_ GE521.out) | exact HB.out)⟩

end Go.Proofs.Ytnkmeocccbkdkaa.P

namespace Go.Proofs.Ytnkmeocccbkdkaa.P
open Go.RowKit Go.Proofs.YtnkmeocccbkdkaaW.PrintWords Go.Proofs.YtnkmeocccbkdkaaW.PrintLast Go.Proofs.YtnkmeocccbkdkaaW.PrintMore
attribute [local go_sem] max2_int min2_int max_two min_two max_three min_three max_four min_four   -- for this text's walks alone
set_option linter.unusedVariables false
set_option linter.unusedSimpArgs false

/-! ### broke_Check: function 27 -/
mutual
def broke_Check.j0 : Nat → List (S63) → Int → Bool → Option (Int)
  | 0, _, _, _ => none
  | k + 1, x0, x1, x15 => if x15 = true then (some 1) else (if (x0.length : Int) > 512 then (some 8) else (broke_Check.l0 k x0 x1 (x0.length : Int) 0))
def broke_Check.l0 : Nat → List (S63) → Int → Int → Int → Option (Int)
  | 0, _, _, _, _ => none
  | k + 1, x0, x1, x20, x21 => if x21 < x20 then (if 0 ≤ x21 then (if x21 < (x0.length : Int) then ((broke_checkOne.f k ((rd_T63 x0 x21).f0) ((rd_T63 x0 x21).f1) ((rd_T63 x0 x21).f2) ((rd_T63 x0 x21).f3)).bind fun t523 => (if t523 = 0 then (broke_Check.l0 k x0 x1 x20 (wrap64 (x21 + 1))) else (some t523))) else (none)) else (none)) else (broke_Check.l1 k x0 x1 0 (x0.length : Int) 0)
def broke_Check.l1 : Nat → List (S63) → Int → Int → Int → Int → Option (Int)
  | 0, _, _, _, _, _ => none
  | k + 1, x0, x1, x7, x34, x35 => if x35 < x34 then (if 0 ≤ x35 then (if x35 < (x0.length : Int) then (if x35 > 0 then (if 0 ≤ (wrap64 (x35 - 1)) then (if (wrap64 (x35 - 1)) < (x0.length : Int) then (broke_Check.j3 k x0 x1 x7 x34 x35 (decide (((rd_T63 x0 x35).f0) < ((rd_T63 x0 (wrap64 (x35 - 1))).f0))) ((rd_T63 x0 x35).f0) ((rd_T63 x0 x35).f1) ((rd_T63 x0 x35).f2) ((rd_T63 x0 x35).f3)) else (none)) else (none)) else (broke_Check.j3 k x0 x1 x7 x34 x35 false ((rd_T63 x0 x35).f0) ((rd_T63 x0 x35).f1) ((rd_T63 x0 x35).f2) ((rd_T63 x0 x35).f3))) else (none)) else (none)) else (some 0)
def broke_Check.j3 : Nat → List (S63) → Int → Int → Int → Int → Bool → Int → Int → Int → Int → Option (Int)
  | 0, _, _, _, _, _, _, _, _, _, _ => none
  | k + 1, x0, x1, x7, x34, x35, x54, x526000, x526001, x526002, x526003 => if x54 = true then (some 9) else (if x526001 = 6 then (broke_Check.j4 k x0 x1 x7 x34 x35 (decide (x526002 > x7)) x526000 x526001 x526002 x526003) else (broke_Check.j4 k x0 x1 x7 x34 x35 false x526000 x526001 x526002 x526003))
def broke_Check.j4 : Nat → List (S63) → Int → Int → Int → Int → Bool → Int → Int → Int → Int → Option (Int)
  | 0, _, _, _, _, _, _, _, _, _, _ => none
  | k + 1, x0, x1, x7, x34, x35, x63, x526000, x526001, x526002, x526003 => if x63 = true then (some 19) else ((broke_signed.f k x526000 x526001 x526002 x526003).bind fun t527 => (if (wrap64 (x7 + t527)) > x1 then (some 8) else (broke_Check.l1 k x0 x1 (wrap64 (x7 + t527)) x34 (wrap64 (x35 + 1)))))
end
def broke_Check.f (k : Nat) (l0 : List (S63)) (a1 : Int) : Option (Int) := if a1 < 0 then (broke_Check.j0 k l0 a1 true) else (broke_Check.j0 k l0 a1 (decide (a1 > 1099511627776)))
theorem broke_Check.mono_l : ∀ k, (∀ y0 y1 y2, LeO (broke_Check.j0 k y0 y1 y2) (broke_Check.j0 (k + 1) y0 y1 y2)) ∧ (∀ y0 y1 y2 y3, LeO (broke_Check.l0 k y0 y1 y2 y3) (broke_Check.l0 (k + 1) y0 y1 y2 y3)) ∧ (∀ y0 y1 y2 y3 y4, LeO (broke_Check.l1 k y0 y1 y2 y3 y4) (broke_Check.l1 (k + 1) y0 y1 y2 y3 y4)) ∧ (∀ y0 y1 y2 y3 y4 y5 y6 y7 y8 y9, LeO (broke_Check.j3 k y0 y1 y2 y3 y4 y5 y6 y7 y8 y9) (broke_Check.j3 (k + 1) y0 y1 y2 y3 y4 y5 y6 y7 y8 y9)) ∧ (∀ y0 y1 y2 y3 y4 y5 y6 y7 y8 y9, LeO (broke_Check.j4 k y0 y1 y2 y3 y4 y5 y6 y7 y8 y9) (broke_Check.j4 (k + 1) y0 y1 y2 y3 y4 y5 y6 y7 y8 y9))
  | 0 => ⟨fun _ _ _ r h => by simp [broke_Check.j0] at h, fun _ _ _ _ r h => by simp [broke_Check.l0] at h, fun _ _ _ _ _ r h => by simp [broke_Check.l1] at h, fun _ _ _ _ _ _ _ _ _ _ r h => by simp [broke_Check.j3] at h, fun _ _ _ _ _ _ _ _ _ _ r h => by simp [broke_Check.j4] at h⟩
  | k + 1 => by
    obtain ⟨ih0, ih1, ih2, ih3, ih4⟩ := broke_Check.mono_l k
    refine ⟨?_, ?_, ?_, ?_, ?_⟩
    · intro y0 y1 y2
      unfold broke_Check.j0
      repeat' first
      | (with_reducible exact ih0 _ _ _)
      | (with_reducible exact ih1 _ _ _ _)
      | (with_reducible exact ih2 _ _ _ _ _)
      | (with_reducible exact ih3 _ _ _ _ _ _ _ _ _ _)
      | (with_reducible exact ih4 _ _ _ _ _ _ _ _ _ _)
      | (with_reducible exact broke_checkOne.mono _ _ _ _ _)
      | (with_reducible exact broke_signed.mono _ _ _ _ _)
      | (with_reducible exact LeO.refl _)
      | (with_reducible exact LeO.none _)
      | (with_reducible refine LeO.ite ?_ ?_)
      | (with_reducible refine LeO.bind ?_ (fun _ => ?_))
      | exact ih0 _ _ _
      | exact ih1 _ _ _ _
      | exact ih2 _ _ _ _ _
      | exact ih3 _ _ _ _ _ _ _ _ _ _
      | exact ih4 _ _ _ _ _ _ _ _ _ _
      | exact broke_checkOne.mono _ _ _ _ _
      | exact broke_signed.mono _ _ _ _ _
      | exact LeO.none _
      | refine LeO.ite ?_ ?_
      | refine LeO.bind ?_ (fun _ => ?_)
    · intro y0 y1 y2 y3
      unfold broke_Check.l0
      repeat' first
      | (with_reducible exact ih0 _ _ _)
      | (with_reducible exact ih1 _ _ _ _)
      | (with_reducible exact ih2 _ _ _ _ _)
      | (with_reducible exact ih3 _ _ _ _ _ _ _ _ _ _)
      | (with_reducible exact ih4 _ _ _ _ _ _ _ _ _ _)
      | (with_reducible exact broke_checkOne.mono _ _ _ _ _)
      | (with_reducible exact broke_signed.mono _ _ _ _ _)
      | (with_reducible exact LeO.refl _)
      | (with_reducible exact LeO.none _)
      | (with_reducible refine LeO.ite ?_ ?_)
      | (with_reducible refine LeO.bind ?_ (fun _ => ?_))
      | exact ih0 _ _ _
      | exact ih1 _ _ _ _
      | exact ih2 _ _ _ _ _
      | exact ih3 _ _ _ _ _ _ _ _ _ _
      | exact ih4 _ _ _ _ _ _ _ _ _ _
      | exact broke_checkOne.mono _ _ _ _ _
      | exact broke_signed.mono _ _ _ _ _
      | exact LeO.none _
      | refine LeO.ite ?_ ?_
      | refine LeO.bind ?_ (fun _ => ?_)
    · intro y0 y1 y2 y3 y4
      unfold broke_Check.l1
      repeat' first
      | (with_reducible exact ih0 _ _ _)
      | (with_reducible exact ih1 _ _ _ _)
      | (with_reducible exact ih2 _ _ _ _ _)
      | (with_reducible exact ih3 _ _ _ _ _ _ _ _ _ _)
      | (with_reducible exact ih4 _ _ _ _ _ _ _ _ _ _)
      | (with_reducible exact broke_checkOne.mono _ _ _ _ _)
      | (with_reducible exact broke_signed.mono _ _ _ _ _)
      | (with_reducible exact LeO.refl _)
      | (with_reducible exact LeO.none _)
      | (with_reducible refine LeO.ite ?_ ?_)
      | (with_reducible refine LeO.bind ?_ (fun _ => ?_))
      | exact ih0 _ _ _
      | exact ih1 _ _ _ _
      | exact ih2 _ _ _ _ _
      | exact ih3 _ _ _ _ _ _ _ _ _ _
      | exact ih4 _ _ _ _ _ _ _ _ _ _
      | exact broke_checkOne.mono _ _ _ _ _
      | exact broke_signed.mono _ _ _ _ _
      | exact LeO.none _
      | refine LeO.ite ?_ ?_
      | refine LeO.bind ?_ (fun _ => ?_)
    · intro y0 y1 y2 y3 y4 y5 y6 y7 y8 y9
      unfold broke_Check.j3
      repeat' first
      | (with_reducible exact ih0 _ _ _)
      | (with_reducible exact ih1 _ _ _ _)
      | (with_reducible exact ih2 _ _ _ _ _)
      | (with_reducible exact ih3 _ _ _ _ _ _ _ _ _ _)
      | (with_reducible exact ih4 _ _ _ _ _ _ _ _ _ _)
      | (with_reducible exact broke_checkOne.mono _ _ _ _ _)
      | (with_reducible exact broke_signed.mono _ _ _ _ _)
      | (with_reducible exact LeO.refl _)
      | (with_reducible exact LeO.none _)
      | (with_reducible refine LeO.ite ?_ ?_)
      | (with_reducible refine LeO.bind ?_ (fun _ => ?_))
      | exact ih0 _ _ _
      | exact ih1 _ _ _ _
      | exact ih2 _ _ _ _ _
      | exact ih3 _ _ _ _ _ _ _ _ _ _
      | exact ih4 _ _ _ _ _ _ _ _ _ _
      | exact broke_checkOne.mono _ _ _ _ _
      | exact broke_signed.mono _ _ _ _ _
      | exact LeO.none _
      | refine LeO.ite ?_ ?_
      | refine LeO.bind ?_ (fun _ => ?_)
    · intro y0 y1 y2 y3 y4 y5 y6 y7 y8 y9
      unfold broke_Check.j4
      repeat' first
      | (with_reducible exact ih0 _ _ _)
      | (with_reducible exact ih1 _ _ _ _)
      | (with_reducible exact ih2 _ _ _ _ _)
      | (with_reducible exact ih3 _ _ _ _ _ _ _ _ _ _)
      | (with_reducible exact ih4 _ _ _ _ _ _ _ _ _ _)
      | (with_reducible exact broke_checkOne.mono _ _ _ _ _)
      | (with_reducible exact broke_signed.mono _ _ _ _ _)
      | (with_reducible exact LeO.refl _)
      | (with_reducible exact LeO.none _)
      | (with_reducible refine LeO.ite ?_ ?_)
      | (with_reducible refine LeO.bind ?_ (fun _ => ?_))
      | exact ih0 _ _ _
      | exact ih1 _ _ _ _
      | exact ih2 _ _ _ _ _
      | exact ih3 _ _ _ _ _ _ _ _ _ _
      | exact ih4 _ _ _ _ _ _ _ _ _ _
      | exact broke_checkOne.mono _ _ _ _ _
      | exact broke_signed.mono _ _ _ _ _
      | exact LeO.none _
      | refine LeO.ite ?_ ?_
      | refine LeO.bind ?_ (fun _ => ?_)
theorem broke_Check.mono : ∀ a0 a1 k, LeO (broke_Check.f k a0 a1) (broke_Check.f (k + 1) a0 a1) := by
  intro a0 a1 k
  obtain ⟨ih0, ih1, ih2, ih3, ih4⟩ := broke_Check.mono_l k
  unfold broke_Check.f
  repeat' first
      | (with_reducible exact ih0 _ _ _)
      | (with_reducible exact ih1 _ _ _ _)
      | (with_reducible exact ih2 _ _ _ _ _)
      | (with_reducible exact ih3 _ _ _ _ _ _ _ _ _ _)
      | (with_reducible exact ih4 _ _ _ _ _ _ _ _ _ _)
      | (with_reducible exact broke_checkOne.mono _ _ _ _ _)
      | (with_reducible exact broke_signed.mono _ _ _ _ _)
      | (with_reducible exact LeO.refl _)
      | (with_reducible exact LeO.none _)
      | (with_reducible refine LeO.ite ?_ ?_)
      | (with_reducible refine LeO.bind ?_ (fun _ => ?_))
      | exact ih0 _ _ _
      | exact ih1 _ _ _ _
      | exact ih2 _ _ _ _ _
      | exact ih3 _ _ _ _ _ _ _ _ _ _
      | exact ih4 _ _ _ _ _ _ _ _ _ _
      | exact broke_checkOne.mono _ _ _ _ _
      | exact broke_signed.mono _ _ _ _ _
      | exact LeO.none _
      | refine LeO.ite ?_ ?_
      | refine LeO.bind ?_ (fun _ => ?_)
open List (setIfInBounds_toArray set_cons_zero set_cons_succ)
set_option maxHeartbeats 8000000 in
set_option maxRecDepth 100000 in
theorem broke_Check.calls (k : Nat) (A0 : Option Addr) (c0 : Nat) (l0 : List (S63)) (a1 : Int) (r : Int) (w : World) (hr0 : Kd.C k63 w A0 l0.length l0) (hc0 : l0.length ≤ c0) (h : broke_Check.f k l0 a1 = some r) :
  Calls Try.prog 27 #[.slice A0 l0.length c0, .int .i64 a1] w fun e w' => e = .returned (.int .i64 r) ∧ Below w.heap.size w w' := by
 have hu63 := Try.underlying63
 have HR0 := Aside0.mk hr0
 have HC0 := Aside0.mk hc0
 clear hr0 hc0
 have HB := Aside0.mk (Below.refl w.heap.size w)
 have H : (if a1 < 0 then (broke_Check.j0 k l0 a1 true) else (broke_Check.j0 k l0 a1 (decide (a1 > 1099511627776)))) = some r := h
 clear h
 have HC3 := Aside0.mk H
 clear H
 go_enter Try.func27, Try.ntmps27
 go_upto_region 1 with (fail)
 go_cut [15] (fun v15 wc => ∃ (kq : Nat) (x15_2 : Bool), v15 = .bool x15_2 ∧ Aside0 (broke_Check.j0 kq l0 a1 x15_2 = some r) ∧ Aside0 (kq ≤ k) ∧ Aside0 (Below w.heap.size w wc))
 case first =>
  have H := HC3.out
  clear HC3
  by_cases c4 : a1 < 0
  ·rw [if_pos c4] at H
   have c4b0 : decide (a1 < 0) = true := decide_eq_true c4
   clear c4
   (first | rw [c4b0] | (simp only [i64_w, i32_w]; rw [c4b0]) | skip)
   have H' := Aside0.mk H
   clear H
   go_wp2
   go_meet
   case rel => exact ⟨_, (true), (by first | rfl | (simp; done) | (simp [*]; done)), H', ⟨by first | omega | exact Nat.le_refl _⟩, ⟨by with_reducible repeat first | exact HB.out | apply below_alloc | apply pw_below_drewN | apply below_drew1⟩⟩
  ·rw [if_neg c4] at H
   have c4b0 : decide (a1 < 0) = false := decide_eq_false c4
   clear c4
   (first | rw [c4b0] | (simp only [i64_w, i32_w]; rw [c4b0]) | skip)
   have H' := Aside0.mk H
   clear H
   go_wp2
   go_meet
   case rel => exact ⟨_, (decide (a1 > 1099511627776)), (by first | rfl | (simp; done) | (simp [*]; done)), H', ⟨by first | omega | exact Nat.le_refl _⟩, ⟨by with_reducible repeat first | exact HB.out | apply below_alloc | apply pw_below_drewN | apply below_drew1⟩⟩
 case rest =>
  clear HC3
  obtain ⟨kq, x15_2, rfl, HA, HJ2, HB⟩ := hcut
  cases kq with
  | zero => exact absurd HA.out (by simp [broke_Check.j0])
  | succ kj2 =>
   have H := HA.out
   clear HA
   simp only [broke_Check.j0] at H
   by_cases c5 : x15_2 = true
   ·subst c5
    have H1 : (some 1) = some r := by rw [if_pos rfl] at H; exact H
    clear H
    have H := H1
    clear H1
    obtain rfl := Option.some.inj H
    go_wp2
    go_ret
    exact ⟨by first | rfl | (simp [errW_none, errW_some] <;> rfl) | (simp [*, errW_none, errW_some] <;> rfl), by with_reducible repeat first | exact HB.out | apply below_alloc | apply pw_below_drewN | apply below_drew1⟩
   ·replace c5 := Bool.eq_false_iff.mpr c5
    subst c5
    have H1 : (if (l0.length : Int) > 512 then (some 8) else (broke_Check.l0 kj2 l0 a1 (l0.length : Int) 0)) = some r := by rw [if_neg (show ¬ (false = true) by decide)] at H; exact H
    clear H
    have H := H1
    clear H1
    by_cases c6 : (l0.length : Int) > 512
    ·rw [if_pos c6] at H
     have c6b0 : decide (512 < (l0.length : Int)) = true := decide_eq_true c6
     have c6b1 : decide (512 < l0.length) = true := decide_eq_true (by omega)
     clear c6
     obtain rfl := Option.some.inj H
     go_wp2
     go_ret
     exact ⟨by first | rfl | (simp [errW_none, errW_some] <;> rfl) | (simp [*, errW_none, errW_some] <;> rfl), by with_reducible repeat first | exact HB.out | apply below_alloc | apply pw_below_drewN | apply below_drew1⟩
    ·rw [if_neg c6] at H
     have c6b0 : decide (512 < (l0.length : Int)) = false := decide_eq_false c6
     have c6b1 : decide (512 < l0.length) = false := decide_eq_false (by omega)
     clear c6
     have H' := Aside0.mk H
     clear H
     go_wp2
     go_loopg [21] kj2 (fun kq v21 w' => ∃ (x21_2 : Int), v21 = .int .i64 x21_2 ∧ Aside0 (broke_Check.l0 kq l0 a1 (l0.length : Int) x21_2 = some r) ∧ Aside0 (kq ≤ kj2) ∧ Aside0 (Below w.heap.size w w'))
     case atStart => exact ⟨(0), (by first | rfl | (simp; done) | (simp [*]; done)), H', ⟨Nat.le_refl _⟩, ⟨by with_reducible repeat first | exact HB.out | apply below_alloc | apply pw_below_drewN | apply below_drew1⟩⟩
     case round =>
      clear H'
      obtain ⟨x21_2, rfl, HA, HK2, HB⟩ := hrel
      cases gk with
      | zero => exact absurd HA.out (by simp [broke_Check.l0])
      | succ k2 =>
       have H := HA.out
       clear HA
       simp only [broke_Check.l0] at H
       by_cases c7 : x21_2 < (l0.length : Int)
       ·rw [if_pos c7] at H
        have c7b0 : decide (x21_2 < (l0.length : Int)) = true := decide_eq_true c7
        clear c7
        by_cases c8 : 0 ≤ x21_2
        ·rw [if_pos c8] at H
         have c8b0 : decide (0 ≤ x21_2) = true := decide_eq_true c8
         clear c8
         by_cases c9 : x21_2 < (l0.length : Int)
         ·rw [if_pos c9] at H
          have c9b0 : decide (x21_2 < (l0.length : Int)) = true := decide_eq_true c9
          clear c9
          replace H := Option.bind_eq_some_iff.mp H
          obtain ⟨t523, A100, H⟩ := H
          replace H : (if t523 = 0 then (broke_Check.l0 k2 l0 a1 (l0.length : Int) (wrap64 (x21_2 + 1))) else (some t523)) = some r := H
          have A10 := Aside0.mk A100
          clear A100
          by_cases c11 : t523 = 0
          ·rw [if_pos c11] at H
           have c11b0 : (t523 == 0) = true := beq_iff_eq.mpr c11
           have c11b1 : (t523 != 0) = false := bne_eq_false_iff_eq.mpr c11
           clear c11
           have H' := Aside0.mk H
           clear H
           have p522 : 0 ≤ (x21_2 : Int) := of_decide_eq_true (by assumption)
           have q522 : x21_2 < (l0.length : Int) := of_decide_eq_true (by assumption)
           obtain ⟨ad522, e522, hx522_0, hx522_1, hx522_2, hx522_3⟩ := at_T63 HR0.out x21_2 p522 q522
           cases e522
           replace hx522_0 := (HB.out.cell (World.block_lt_of_cell? w _ hx522_0)).trans hx522_0
           replace hx522_1 := (HB.out.cell (World.block_lt_of_cell? w _ hx522_1)).trans hx522_1
           replace hx522_2 := (HB.out.cell (World.block_lt_of_cell? w _ hx522_2)).trans hx522_2
           replace hx522_3 := (HB.out.cell (World.block_lt_of_cell? w _ hx522_3)).trans hx522_3
           replace p522 := eq_true p522
           replace q522 := eq_true q522
           go_wp2_with (first | (go_at_call 45; (with_reducible refine (broke_checkOne.calls k2 ((rd_T63 l0 x21_2).f0) ((rd_T63 l0 x21_2).f1) ((rd_T63 l0 x21_2).f2) ((rd_T63 l0 x21_2).f3) t523 _ A10.out).mono ?_); rintro e w12 ⟨rfl, hb⟩; have n0_ := Aside0.mk (below_step (by with_reducible repeat first | exact HB.out | apply below_alloc | apply pw_below_drewN | apply below_drew1) hb); clear HB; have HB := n0_; clear n0_))
           go_roundg k2
           case measure => have := HJ2.out; have := HK2.out; omega
           case rel => exact ⟨(wrap64 (x21_2 + 1)), (by first | rfl | (simp; done) | (simp [*]; done)), H', ⟨by have := HJ2.out; have := HK2.out; omega⟩, ⟨by with_reducible repeat first | exact HB.out | apply below_alloc | apply pw_below_drewN | apply below_drew1⟩⟩
          ·rw [if_neg c11] at H
           have c11b0 : (t523 == 0) = false := beq_eq_false_iff_ne.mpr c11
           have c11b1 : (t523 != 0) = true := bne_iff_ne.mpr c11
           obtain rfl := Option.some.inj H
           have p522 : 0 ≤ (x21_2 : Int) := of_decide_eq_true (by assumption)
           have q522 : x21_2 < (l0.length : Int) := of_decide_eq_true (by assumption)
           obtain ⟨ad522, e522, hx522_0, hx522_1, hx522_2, hx522_3⟩ := at_T63 HR0.out x21_2 p522 q522
           cases e522
           replace hx522_0 := (HB.out.cell (World.block_lt_of_cell? w _ hx522_0)).trans hx522_0
           replace hx522_1 := (HB.out.cell (World.block_lt_of_cell? w _ hx522_1)).trans hx522_1
           replace hx522_2 := (HB.out.cell (World.block_lt_of_cell? w _ hx522_2)).trans hx522_2
           replace hx522_3 := (HB.out.cell (World.block_lt_of_cell? w _ hx522_3)).trans hx522_3
           replace p522 := eq_true p522
           replace q522 := eq_true q522
           go_wp2_with (first | (go_at_call 45; (with_reducible refine (broke_checkOne.calls k2 ((rd_T63 l0 x21_2).f0) ((rd_T63 l0 x21_2).f1) ((rd_T63 l0 x21_2).f2) ((rd_T63 l0 x21_2).f3) t523 _ A10.out).mono ?_); rintro e w13 ⟨rfl, hb⟩; have n0_ := Aside0.mk (below_step (by with_reducible repeat first | exact HB.out | apply below_alloc | apply pw_below_drewN | apply below_drew1) hb); clear HB; have HB := n0_; clear n0_))
           go_ret
           exact ⟨by first | rfl | (simp [errW_none, errW_some] <;> rfl) | (simp [*, errW_none, errW_some] <;> rfl), by with_reducible repeat first | exact HB.out | apply below_alloc | apply pw_below_drewN | apply below_drew1⟩
         ·rw [if_neg c9] at H
          exact absurd H (by simp)
        ·rw [if_neg c8] at H
         exact absurd H (by simp)
       ·rw [if_neg c7] at H
        have c7b0 : decide (x21_2 < (l0.length : Int)) = false := decide_eq_false c7
        clear c7
        have H' := Aside0.mk H
        clear H
        go_wp2
        go_loopg [7, 35] k2 (fun kq v7 v35 w' => ∃ (x7_3 : Int) (x35_3 : Int), v7 = .int .i64 x7_3 ∧ v35 = .int .i64 x35_3 ∧ Aside0 (broke_Check.l1 kq l0 a1 x7_3 (l0.length : Int) x35_3 = some r) ∧ Aside0 (kq ≤ k2) ∧ Aside0 (Below w.heap.size w w'))
        case atStart => exact ⟨(0), (0), (by first | rfl | (simp; done) | (simp [*]; done)), (by first | rfl | (simp; done) | (simp [*]; done)), H', ⟨Nat.le_refl _⟩, ⟨by with_reducible repeat first | exact HB.out | apply below_alloc | apply pw_below_drewN | apply below_drew1⟩⟩
        case round =>
         clear H'
         obtain ⟨x7_3, x35_3, rfl, rfl, HA, HK3, HB⟩ := hrel
         cases gk with
         | zero => exact absurd HA.out (by simp [broke_Check.l1])
         | succ k3 =>
          have H := HA.out
          clear HA
          simp only [broke_Check.l1] at H
          by_cases c14 : x35_3 < (l0.length : Int)
          ·rw [if_pos c14] at H
           have c14b0 : decide (x35_3 < (l0.length : Int)) = true := decide_eq_true c14
           clear c14
           by_cases c15 : 0 ≤ x35_3
           ·rw [if_pos c15] at H
            have c15b0 : decide (0 ≤ x35_3) = true := decide_eq_true c15
            clear c15
            by_cases c16 : x35_3 < (l0.length : Int)
            ·rw [if_pos c16] at H
             have c16b0 : decide (x35_3 < (l0.length : Int)) = true := decide_eq_true c16
             clear c16
             have HC17 := Aside0.mk H
             clear H
             have p524 : 0 ≤ (x35_3 : Int) := of_decide_eq_true (by assumption)
             have q524 : x35_3 < (l0.length : Int) := of_decide_eq_true (by assumption)
             obtain ⟨ad524, e524, hx524_0, hx524_1, hx524_2, hx524_3⟩ := at_T63 HR0.out x35_3 p524 q524
             cases e524
             replace hx524_0 := (HB.out.cell (World.block_lt_of_cell? w _ hx524_0)).trans hx524_0
             replace hx524_1 := (HB.out.cell (World.block_lt_of_cell? w _ hx524_1)).trans hx524_1
             replace hx524_2 := (HB.out.cell (World.block_lt_of_cell? w _ hx524_2)).trans hx524_2
             replace hx524_3 := (HB.out.cell (World.block_lt_of_cell? w _ hx524_3)).trans hx524_3
             replace p524 := eq_true p524
             replace q524 := eq_true q524
             go_upto_region 17 with (first | ((with_reducible refine gate_dst (N := 9) rfl ?_); refine box_event ?hg (N := 9) ?hd (cs := #[.int .i64 0, .int .i64 0, .int .i64 0, .int .i64 0]) (t := 63) ?hr ?_; (case hd => rfl); (case hg => rfl); (case hr => first | (go_simp; done) | (go_simp; rfl)); intro gb525 hg w18 hbox hb; have n0_ := Aside0.mk (below_step (by with_reducible repeat first | exact HB.out | apply below_alloc | apply pw_below_drewN | apply below_drew1) hb); have n1_ := Aside0.mk (hbox); have n2_ := Aside0.mk ((by rw [hg]; exact (below_size (by with_reducible repeat first | exact HB.out | apply below_alloc | apply pw_below_drewN | apply below_drew1)) : w.heap.size ≤ gb525)); have n3_ := Aside0.mk ((by rw [hg]; exact (below_size (by with_reducible repeat first | exact HB.out | apply below_alloc | apply pw_below_drewN | apply below_drew1)) : w.heap.size ≤ gb525)); clear HB; have HB := n0_; have BK525 := n1_; have GW525 := n2_; have GE525 := n3_; clear n0_ n1_ n2_ n3_; clear hb hbox hg; have hcz19_0 : w18.cell? ⟨gb525, 0, none⟩ = some (.int .i64 0) := (blk_cell BK525.out 0).trans rfl; have hcz19_1 : w18.cell? ⟨gb525, 1, none⟩ = some (.int .i64 0) := (blk_cell BK525.out 1).trans rfl; have hcz19_2 : w18.cell? ⟨gb525, 2, none⟩ = some (.int .i64 0) := (blk_cell BK525.out 2).trans rfl; have hcz19_3 : w18.cell? ⟨gb525, 3, none⟩ = some (.int .i64 0) := (blk_cell BK525.out 3).trans rfl; have hfz19_0 := blk_frozen BK525.out 0; have hfz19_1 := blk_frozen BK525.out 1; have hfz19_2 := blk_frozen BK525.out 2; have hfz19_3 := blk_frozen BK525.out 3))
             (try simp only [Act.put, setIfInBounds_toArray, set_cons_zero, set_cons_succ])
             go_cut [54] (fun v54 wc => ∃ (kq : Nat) (x54_16 : Bool), v54 = .bool x54_16 ∧ Aside0 (broke_Check.j3 kq l0 a1 x7_3 (l0.length : Int) x35_3 x54_16 ((rd_T63 l0 x35_3).f0) ((rd_T63 l0 x35_3).f1) ((rd_T63 l0 x35_3).f2) ((rd_T63 l0 x35_3).f3) = some r) ∧ Aside0 (kq ≤ k3) ∧ Aside0 (wc.heap[gb525]? = some (.cells #[.int .i64 ((rd_T63 l0 x35_3).f0), .int .i64 ((rd_T63 l0 x35_3).f1), .int .i64 ((rd_T63 l0 x35_3).f2), .int .i64 ((rd_T63 l0 x35_3).f3)] 63 (0, 0))) ∧ Aside0 (Below w.heap.size w wc))
             case first =>
              have H := HC17.out
              clear HC17
              by_cases c20 : x35_3 > 0
              ·rw [if_pos c20] at H
               have c20b0 : decide (0 < x35_3) = true := decide_eq_true c20
               clear c20
               (first | rw [c20b0] | (simp only [i64_w, i32_w]; rw [c20b0]) | skip)
               obtain ⟨ji21, hji21⟩ : ∃ j_ : Int, (wrap64 (x35_3 - 1)) = j_ := ⟨_, rfl⟩
               replace H : (if 0 ≤ (ji21) then (if (ji21) < (l0.length : Int) then (broke_Check.j3 k3 l0 a1 x7_3 (l0.length : Int) x35_3 (decide (((rd_T63 l0 x35_3).f0) < ((rd_T63 l0 (ji21)).f0))) ((rd_T63 l0 x35_3).f0) ((rd_T63 l0 x35_3).f1) ((rd_T63 l0 x35_3).f2) ((rd_T63 l0 x35_3).f3)) else (none)) else (none)) = some r := by first | (rw [hji21] at H; exact H) | (simp only [hji21] at H ⊢; exact H)
               have hji21w : (IntKind.i64.wrap (x35_3 - 1)) = ji21 := (i64_w _).trans hji21
               by_cases c22 : 0 ≤ (ji21)
               ·rw [if_pos c22] at H
                have c22b0 : decide (0 ≤ (ji21)) = true := decide_eq_true c22
                clear c22
                by_cases c23 : (ji21) < (l0.length : Int)
                ·rw [if_pos c23] at H
                 have c23b0 : decide ((ji21) < (l0.length : Int)) = true := decide_eq_true c23
                 clear c23
                 have H' := Aside0.mk H
                 clear H
                 have hcz24_0 : w18.cell? ⟨gb525, 0, none⟩ = some (.int .i64 0) := (blk_cell BK525.out 0).trans rfl
                 have hcz24_1 : w18.cell? ⟨gb525, 1, none⟩ = some (.int .i64 0) := (blk_cell BK525.out 1).trans rfl
                 have hcz24_2 : w18.cell? ⟨gb525, 2, none⟩ = some (.int .i64 0) := (blk_cell BK525.out 2).trans rfl
                 have hcz24_3 : w18.cell? ⟨gb525, 3, none⟩ = some (.int .i64 0) := (blk_cell BK525.out 3).trans rfl
                 have hfz24_0 := blk_frozen BK525.out 0
                 have hfz24_1 := blk_frozen BK525.out 1
                 have hfz24_2 := blk_frozen BK525.out 2
                 have hfz24_3 := blk_frozen BK525.out 3
                 have p526 : 0 ≤ ((ji21) : Int) := of_decide_eq_true (by assumption)
                 have q526 : (ji21) < (l0.length : Int) := of_decide_eq_true (by assumption)
                 obtain ⟨ad526, e526, hx526_0, hx526_1, hx526_2, hx526_3⟩ := at_T63 HR0.out (ji21) p526 q526
                 obtain rfl : ad524 = ad526 := (by injection e526)
                 have hn526_0 : ad524.block ≠ gb525 := Nat.ne_of_lt (Nat.lt_of_lt_of_le (by have := World.block_lt_of_cell? _ _ hx526_0; first | rwa [add_block] at this | exact this) GW525.out)
                 have hn526_1 : ad524.block ≠ gb525 := Nat.ne_of_lt (Nat.lt_of_lt_of_le (by have := World.block_lt_of_cell? _ _ hx526_0; first | rwa [add_block] at this | exact this) GW525.out)
                 have hn526_2 : ad524.block ≠ gb525 := Nat.ne_of_lt (Nat.lt_of_lt_of_le (by have := World.block_lt_of_cell? _ _ hx526_0; first | rwa [add_block] at this | exact this) GW525.out)
                 have hn526_3 : ad524.block ≠ gb525 := Nat.ne_of_lt (Nat.lt_of_lt_of_le (by have := World.block_lt_of_cell? _ _ hx526_0; first | rwa [add_block] at this | exact this) GW525.out)
                 replace hx526_0 := (HB.out.cell (World.block_lt_of_cell? w _ hx526_0)).trans hx526_0
                 replace hx526_1 := (HB.out.cell (World.block_lt_of_cell? w _ hx526_1)).trans hx526_1
                 replace hx526_2 := (HB.out.cell (World.block_lt_of_cell? w _ hx526_2)).trans hx526_2
                 replace hx526_3 := (HB.out.cell (World.block_lt_of_cell? w _ hx526_3)).trans hx526_3
                 replace hx526_0 := (cell_far (p := ⟨gb525, 0, none⟩) (by first | (rw [add_block]; exact hn526_0) | (show (Addr.add _ _).block ≠ _; rw [add_block]; exact hn526_0) | exact hn526_0) (.int .i64 ((rd_T63 l0 x35_3).f0))).trans hx526_0
                 replace hx526_1 := (cell_far (p := ⟨gb525, 0, none⟩) (by first | (rw [add_block]; exact hn526_0) | (show (Addr.add _ _).block ≠ _; rw [add_block]; exact hn526_0) | exact hn526_0) (.int .i64 ((rd_T63 l0 x35_3).f0))).trans hx526_1
                 replace hx526_2 := (cell_far (p := ⟨gb525, 0, none⟩) (by first | (rw [add_block]; exact hn526_0) | (show (Addr.add _ _).block ≠ _; rw [add_block]; exact hn526_0) | exact hn526_0) (.int .i64 ((rd_T63 l0 x35_3).f0))).trans hx526_2
                 replace hx526_3 := (cell_far (p := ⟨gb525, 0, none⟩) (by first | (rw [add_block]; exact hn526_0) | (show (Addr.add _ _).block ≠ _; rw [add_block]; exact hn526_0) | exact hn526_0) (.int .i64 ((rd_T63 l0 x35_3).f0))).trans hx526_3
                 replace hx526_0 := (cell_far (p := ⟨gb525, 1, none⟩) (by first | (rw [add_block]; exact hn526_1) | (show (Addr.add _ _).block ≠ _; rw [add_block]; exact hn526_1) | exact hn526_1) (.int .i64 ((rd_T63 l0 x35_3).f1))).trans hx526_0
                 replace hx526_1 := (cell_far (p := ⟨gb525, 1, none⟩) (by first | (rw [add_block]; exact hn526_1) | (show (Addr.add _ _).block ≠ _; rw [add_block]; exact hn526_1) | exact hn526_1) (.int .i64 ((rd_T63 l0 x35_3).f1))).trans hx526_1
                 replace hx526_2 := (cell_far (p := ⟨gb525, 1, none⟩) (by first | (rw [add_block]; exact hn526_1) | (show (Addr.add _ _).block ≠ _; rw [add_block]; exact hn526_1) | exact hn526_1) (.int .i64 ((rd_T63 l0 x35_3).f1))).trans hx526_2
                 replace hx526_3 := (cell_far (p := ⟨gb525, 1, none⟩) (by first | (rw [add_block]; exact hn526_1) | (show (Addr.add _ _).block ≠ _; rw [add_block]; exact hn526_1) | exact hn526_1) (.int .i64 ((rd_T63 l0 x35_3).f1))).trans hx526_3
                 replace hx526_0 := (cell_far (p := ⟨gb525, 2, none⟩) (by first | (rw [add_block]; exact hn526_2) | (show (Addr.add _ _).block ≠ _; rw [add_block]; exact hn526_2) | exact hn526_2) (.int .i64 ((rd_T63 l0 x35_3).f2))).trans hx526_0
                 replace hx526_1 := (cell_far (p := ⟨gb525, 2, none⟩) (by first | (rw [add_block]; exact hn526_2) | (show (Addr.add _ _).block ≠ _; rw [add_block]; exact hn526_2) | exact hn526_2) (.int .i64 ((rd_T63 l0 x35_3).f2))).trans hx526_1
                 replace hx526_2 := (cell_far (p := ⟨gb525, 2, none⟩) (by first | (rw [add_block]; exact hn526_2) | (show (Addr.add _ _).block ≠ _; rw [add_block]; exact hn526_2) | exact hn526_2) (.int .i64 ((rd_T63 l0 x35_3).f2))).trans hx526_2
                 replace hx526_3 := (cell_far (p := ⟨gb525, 2, none⟩) (by first | (rw [add_block]; exact hn526_2) | (show (Addr.add _ _).block ≠ _; rw [add_block]; exact hn526_2) | exact hn526_2) (.int .i64 ((rd_T63 l0 x35_3).f2))).trans hx526_3
                 replace hx526_0 := (cell_far (p := ⟨gb525, 3, none⟩) (by first | (rw [add_block]; exact hn526_3) | (show (Addr.add _ _).block ≠ _; rw [add_block]; exact hn526_3) | exact hn526_3) (.int .i64 ((rd_T63 l0 x35_3).f3))).trans hx526_0
                 replace hx526_1 := (cell_far (p := ⟨gb525, 3, none⟩) (by first | (rw [add_block]; exact hn526_3) | (show (Addr.add _ _).block ≠ _; rw [add_block]; exact hn526_3) | exact hn526_3) (.int .i64 ((rd_T63 l0 x35_3).f3))).trans hx526_1
                 replace hx526_2 := (cell_far (p := ⟨gb525, 3, none⟩) (by first | (rw [add_block]; exact hn526_3) | (show (Addr.add _ _).block ≠ _; rw [add_block]; exact hn526_3) | exact hn526_3) (.int .i64 ((rd_T63 l0 x35_3).f3))).trans hx526_2
                 replace hx526_3 := (cell_far (p := ⟨gb525, 3, none⟩) (by first | (rw [add_block]; exact hn526_3) | (show (Addr.add _ _).block ≠ _; rw [add_block]; exact hn526_3) | exact hn526_3) (.int .i64 ((rd_T63 l0 x35_3).f3))).trans hx526_3
                 (try have hy526_0 := fun (n_ : Nat) => (show ((((((w18.drewN n_).setCell ⟨gb525, 0, none⟩ (.int .i64 ((rd_T63 l0 x35_3).f0))).setCell ⟨gb525, 1, none⟩ (.int .i64 ((rd_T63 l0 x35_3).f1))).setCell ⟨gb525, 2, none⟩ (.int .i64 ((rd_T63 l0 x35_3).f2))).setCell ⟨gb525, 3, none⟩ (.int .i64 ((rd_T63 l0 x35_3).f3)))).cell? _ = some _ from hx526_0))
                 (try have hy526_1 := fun (n_ : Nat) => (show ((((((w18.drewN n_).setCell ⟨gb525, 0, none⟩ (.int .i64 ((rd_T63 l0 x35_3).f0))).setCell ⟨gb525, 1, none⟩ (.int .i64 ((rd_T63 l0 x35_3).f1))).setCell ⟨gb525, 2, none⟩ (.int .i64 ((rd_T63 l0 x35_3).f2))).setCell ⟨gb525, 3, none⟩ (.int .i64 ((rd_T63 l0 x35_3).f3)))).cell? _ = some _ from hx526_1))
                 (try have hy526_2 := fun (n_ : Nat) => (show ((((((w18.drewN n_).setCell ⟨gb525, 0, none⟩ (.int .i64 ((rd_T63 l0 x35_3).f0))).setCell ⟨gb525, 1, none⟩ (.int .i64 ((rd_T63 l0 x35_3).f1))).setCell ⟨gb525, 2, none⟩ (.int .i64 ((rd_T63 l0 x35_3).f2))).setCell ⟨gb525, 3, none⟩ (.int .i64 ((rd_T63 l0 x35_3).f3)))).cell? _ = some _ from hx526_2))
                 (try have hy526_3 := fun (n_ : Nat) => (show ((((((w18.drewN n_).setCell ⟨gb525, 0, none⟩ (.int .i64 ((rd_T63 l0 x35_3).f0))).setCell ⟨gb525, 1, none⟩ (.int .i64 ((rd_T63 l0 x35_3).f1))).setCell ⟨gb525, 2, none⟩ (.int .i64 ((rd_T63 l0 x35_3).f2))).setCell ⟨gb525, 3, none⟩ (.int .i64 ((rd_T63 l0 x35_3).f3)))).cell? _ = some _ from hx526_3))
                 clear hn526_0
                 clear hn526_1
                 clear hn526_2
                 clear hn526_3
                 replace p526 := eq_true p526
                 replace q526 := eq_true q526
                 go_wp2
                 repeat (go_quiet (fail); try go_wp2)
                 go_meet
                 case rel => exact ⟨_, (decide (((rd_T63 l0 x35_3).f0) < ((rd_T63 l0 (ji21)).f0))), (by first | rfl | (simp; done) | (simp only [← hji21] <;> (first | rfl | simp)) | (simp [*]; done)), H', ⟨by have := HJ2.out; have := HK2.out; have := HK3.out; first | omega | exact Nat.le_refl _⟩, ⟨by (with_reducible repeat (first | refine blk_drewN ?_ _ | refine blk_drew ?_ | refine blk_alloc ?_ _)); refine blk_put (cs := #[.int .i64 ((rd_T63 l0 x35_3).f0), .int .i64 ((rd_T63 l0 x35_3).f1), .int .i64 ((rd_T63 l0 x35_3).f2), .int .i64 0]) ?_ 3 _ rfl; (with_reducible repeat (first | refine blk_drewN ?_ _ | refine blk_drew ?_ | refine blk_alloc ?_ _)); refine blk_put (cs := #[.int .i64 ((rd_T63 l0 x35_3).f0), .int .i64 ((rd_T63 l0 x35_3).f1), .int .i64 0, .int .i64 0]) ?_ 2 _ rfl; (with_reducible repeat (first | refine blk_drewN ?_ _ | refine blk_drew ?_ | refine blk_alloc ?_ _)); refine blk_put (cs := #[.int .i64 ((rd_T63 l0 x35_3).f0), .int .i64 0, .int .i64 0, .int .i64 0]) ?_ 1 _ rfl; (with_reducible repeat (first | refine blk_drewN ?_ _ | refine blk_drew ?_ | refine blk_alloc ?_ _)); refine blk_put (cs := #[.int .i64 0, .int .i64 0, .int .i64 0, .int .i64 0]) ?_ 0 _ rfl; (with_reducible repeat (first | refine blk_drewN ?_ _ | refine blk_drew ?_ | refine blk_alloc ?_ _)); exact BK525.out⟩, ⟨by repeat (first | (with_reducible first | exact HB.out | apply below_alloc | apply pw_below_drewN | apply below_drew1 | refine below_set ?_ GE525.out) | exact HB.out)⟩⟩
                ·rw [if_neg c23] at H
                 exact absurd H (by simp)
               ·rw [if_neg c22] at H
                exact absurd H (by simp)
              ·rw [if_neg c20] at H
               have c20b0 : decide (0 < x35_3) = false := decide_eq_false c20
               clear c20
               (first | rw [c20b0] | (simp only [i64_w, i32_w]; rw [c20b0]) | skip)
               have H' := Aside0.mk H
               clear H
               go_wp2
               repeat (go_quiet (fail); try go_wp2)
               go_meet
               case rel => exact ⟨_, (false), (by first | rfl | (simp; done) | (simp [*]; done)), H', ⟨by have := HJ2.out; have := HK2.out; have := HK3.out; first | omega | exact Nat.le_refl _⟩, ⟨by (with_reducible repeat (first | refine blk_drewN ?_ _ | refine blk_drew ?_ | refine blk_alloc ?_ _)); refine blk_put (cs := #[.int .i64 ((rd_T63 l0 x35_3).f0), .int .i64 ((rd_T63 l0 x35_3).f1), .int .i64 ((rd_T63 l0 x35_3).f2), .int .i64 0]) ?_ 3 _ rfl; (with_reducible repeat (first | refine blk_drewN ?_ _ | refine blk_drew ?_ | refine blk_alloc ?_ _)); refine blk_put (cs := #[.int .i64 ((rd_T63 l0 x35_3).f0), .int .i64 ((rd_T63 l0 x35_3).f1), .int .i64 0, .int .i64 0]) ?_ 2 _ rfl; (with_reducible repeat (first | refine blk_drewN ?_ _ | refine blk_drew ?_ | refine blk_alloc ?_ _)); refine blk_put (cs := #[.int .i64 ((rd_T63 l0 x35_3).f0), .int .i64 0, .int .i64 0, .int .i64 0]) ?_ 1 _ rfl; (with_reducible repeat (first | refine blk_drewN ?_ _ | refine blk_drew ?_ | refine blk_alloc ?_ _)); refine blk_put (cs := #[.int .i64 0, .int .i64 0, .int .i64 0, .int .i64 0]) ?_ 0 _ rfl; (with_reducible repeat (first | refine blk_drewN ?_ _ | refine blk_drew ?_ | refine blk_alloc ?_ _)); exact BK525.out⟩, ⟨by repeat (first | (with_reducible first | exact HB.out | apply below_alloc | apply pw_below_drewN | apply below_drew1 | refine below_set ?_ GE525.out) | exact HB.out)⟩⟩
             case rest =>
              clear HC17
              obtain ⟨kq, x54_16, rfl, HA, HJ16, BK525, HB⟩ := hcut
              cases kq with
              | zero => exact absurd HA.out (by simp [broke_Check.j3])
              | succ kj16 =>
               have H := HA.out
               clear HA
               simp only [broke_Check.j3] at H
               by_cases c25 : x54_16 = true
               ·subst c25
                have H1 : (some 9) = some r := by rw [if_pos rfl] at H; exact H
                clear H
                have H := H1
                clear H1
                obtain rfl := Option.some.inj H
                go_wp2
                go_ret
                exact ⟨by first | rfl | (simp [errW_none, errW_some] <;> rfl) | (simp [*, errW_none, errW_some] <;> rfl), by repeat (first | (with_reducible first | exact HB.out | apply below_alloc | apply pw_below_drewN | apply below_drew1 | refine below_set ?_ GE525.out) | exact HB.out)⟩
               ·replace c25 := Bool.eq_false_iff.mpr c25
                subst c25
                have H1 : (if ((rd_T63 l0 x35_3).f1) = 6 then (broke_Check.j4 kj16 l0 a1 x7_3 (l0.length : Int) x35_3 (decide (((rd_T63 l0 x35_3).f2) > x7_3)) ((rd_T63 l0 x35_3).f0) ((rd_T63 l0 x35_3).f1) ((rd_T63 l0 x35_3).f2) ((rd_T63 l0 x35_3).f3)) else (broke_Check.j4 kj16 l0 a1 x7_3 (l0.length : Int) x35_3 false ((rd_T63 l0 x35_3).f0) ((rd_T63 l0 x35_3).f1) ((rd_T63 l0 x35_3).f2) ((rd_T63 l0 x35_3).f3))) = some r := by rw [if_neg (show ¬ (false = true) by decide)] at H; exact H
                clear H
                have H := H1
                clear H1
                have HC26 := Aside0.mk H
                clear H
                go_upto_region 19 with (fail)
                go_cut [63] (fun v63 wc => ∃ (kq : Nat) (x63_25 : Bool), v63 = .bool x63_25 ∧ Aside0 (broke_Check.j4 kq l0 a1 x7_3 (l0.length : Int) x35_3 x63_25 ((rd_T63 l0 x35_3).f0) ((rd_T63 l0 x35_3).f1) ((rd_T63 l0 x35_3).f2) ((rd_T63 l0 x35_3).f3) = some r) ∧ Aside0 (kq ≤ kj16) ∧ Aside0 (wc.heap[gb525]? = some (.cells #[.int .i64 ((rd_T63 l0 x35_3).f0), .int .i64 ((rd_T63 l0 x35_3).f1), .int .i64 ((rd_T63 l0 x35_3).f2), .int .i64 ((rd_T63 l0 x35_3).f3)] 63 (0, 0))) ∧ Aside0 (Below w.heap.size w wc))
                case first =>
                 have H := HC26.out
                 clear HC26
                 by_cases c27 : ((rd_T63 l0 x35_3).f1) = 6
                 ·rw [if_pos c27] at H
                  have c27b0 : (((rd_T63 l0 x35_3).f1) == 6) = true := beq_iff_eq.mpr c27
                  have c27b1 : (((rd_T63 l0 x35_3).f1) != 6) = false := bne_eq_false_iff_eq.mpr c27
                  clear c27
                  (first | rw [c27b0] | (simp only [i64_w, i32_w]; rw [c27b0]) | skip)
                  have H' := Aside0.mk H
                  clear H
                  have hcz28_0 : wc.cell? ⟨gb525, 0, none⟩ = some (.int .i64 ((rd_T63 l0 x35_3).f0)) := (blk_cell BK525.out 0).trans rfl
                  have hcz28_1 : wc.cell? ⟨gb525, 1, none⟩ = some (.int .i64 ((rd_T63 l0 x35_3).f1)) := (blk_cell BK525.out 1).trans rfl
                  have hcz28_2 : wc.cell? ⟨gb525, 2, none⟩ = some (.int .i64 ((rd_T63 l0 x35_3).f2)) := (blk_cell BK525.out 2).trans rfl
                  have hcz28_3 : wc.cell? ⟨gb525, 3, none⟩ = some (.int .i64 ((rd_T63 l0 x35_3).f3)) := (blk_cell BK525.out 3).trans rfl
                  have hfz28_0 := blk_frozen BK525.out 0
                  have hfz28_1 := blk_frozen BK525.out 1
                  have hfz28_2 := blk_frozen BK525.out 2
                  have hfz28_3 := blk_frozen BK525.out 3
                  go_wp2
                  go_meet
                  case rel => exact ⟨_, (decide (((rd_T63 l0 x35_3).f2) > x7_3)), (by first | rfl | (simp; done) | (simp [*]; done)), H', ⟨by have := HJ2.out; have := HK2.out; have := HK3.out; have := HJ16.out; first | omega | exact Nat.le_refl _⟩, ⟨by (with_reducible repeat (first | refine blk_drewN ?_ _ | refine blk_drew ?_ | refine blk_alloc ?_ _)); exact BK525.out⟩, ⟨by repeat (first | (with_reducible first | exact HB.out | apply below_alloc | apply pw_below_drewN | apply below_drew1 | refine below_set ?_ GE525.out) | exact HB.out)⟩⟩
                 ·rw [if_neg c27] at H
                  have c27b0 : (((rd_T63 l0 x35_3).f1) == 6) = false := beq_eq_false_iff_ne.mpr c27
                  have c27b1 : (((rd_T63 l0 x35_3).f1) != 6) = true := bne_iff_ne.mpr c27
                  (first | rw [c27b0] | (simp only [i64_w, i32_w]; rw [c27b0]) | skip)
                  have H' := Aside0.mk H
                  clear H
                  have hcz29_0 : wc.cell? ⟨gb525, 0, none⟩ = some (.int .i64 ((rd_T63 l0 x35_3).f0)) := (blk_cell BK525.out 0).trans rfl
                  have hcz29_1 : wc.cell? ⟨gb525, 1, none⟩ = some (.int .i64 ((rd_T63 l0 x35_3).f1)) := (blk_cell BK525.out 1).trans rfl
                  have hcz29_2 : wc.cell? ⟨gb525, 2, none⟩ = some (.int .i64 ((rd_T63 l0 x35_3).f2)) := (blk_cell BK525.out 2).trans rfl
                  have hcz29_3 : wc.cell? ⟨gb525, 3, none⟩ = some (.int .i64 ((rd_T63 l0 x35_3).f3)) := (blk_cell BK525.out 3).trans rfl
                  have hfz29_0 := blk_frozen BK525.out 0
                  have hfz29_1 := blk_frozen BK525.out 1
                  have hfz29_2 := blk_frozen BK525.out 2
                  have hfz29_3 := blk_frozen BK525.out 3
                  go_wp2
                  go_meet
                  case rel => exact ⟨_, (false), (by first | rfl | (simp; done) | (simp [*]; done)), H', ⟨by have := HJ2.out; have := HK2.out; have := HK3.out; have := HJ16.out; first | omega | exact Nat.le_refl _⟩, ⟨by (with_reducible repeat (first | refine blk_drewN ?_ _ | refine blk_drew ?_ | refine blk_alloc ?_ _)); exact BK525.out⟩, ⟨by repeat (first | (with_reducible first | exact HB.out | apply below_alloc | apply pw_below_drewN | apply below_drew1 | refine below_set ?_ GE525.out) | exact HB.out)⟩⟩
                case rest =>
                 clear HC26
                 obtain ⟨kq, x63_25, rfl, HA, HJ25, BK525, HB⟩ := hcut
                 cases kq with
                 | zero => exact absurd HA.out (by simp [broke_Check.j4])
                 | succ kj25 =>
                  have H := HA.out
                  clear HA
                  simp only [broke_Check.j4] at H
                  by_cases c30 : x63_25 = true
                  ·subst c30
                   have H1 : (some 19) = some r := by rw [if_pos rfl] at H; exact H
                   clear H
                   have H := H1
                   clear H1
                   obtain rfl := Option.some.inj H
                   go_wp2
                   go_ret
                   exact ⟨by first | rfl | (simp [errW_none, errW_some] <;> rfl) | (simp [*, errW_none, errW_some] <;> rfl), by repeat (first | (with_reducible first | exact HB.out | apply below_alloc | apply pw_below_drewN | apply below_drew1 | refine below_set ?_ GE525.out) | exact HB.out)⟩
                  ·replace c30 := Bool.eq_false_iff.mpr c30
                   subst c30
                   have H1 : ((broke_signed.f kj25 ((rd_T63 l0 x35_3).f0) ((rd_T63 l0 x35_3).f1) ((rd_T63 l0 x35_3).f2) ((rd_T63 l0 x35_3).f3)).bind fun t527 => (if (wrap64 (x7_3 + t527)) > a1 then (some 8) else (broke_Check.l1 kj25 l0 a1 (wrap64 (x7_3 + t527)) (l0.length : Int) (wrap64 (x35_3 + 1))))) = some r := by rw [if_neg (show ¬ (false = true) by decide)] at H; exact H
                   clear H
                   have H := H1
                   clear H1
                   replace H := Option.bind_eq_some_iff.mp H
                   obtain ⟨t527, A310, H⟩ := H
                   replace H : (if (wrap64 (x7_3 + t527)) > a1 then (some 8) else (broke_Check.l1 kj25 l0 a1 (wrap64 (x7_3 + t527)) (l0.length : Int) (wrap64 (x35_3 + 1)))) = some r := H
                   have A31 := Aside0.mk A310
                   clear A310
                   by_cases c32 : (wrap64 (x7_3 + t527)) > a1
                   ·rw [if_pos c32] at H
                    have c32b0 : decide (a1 < (wrap64 (x7_3 + t527))) = true := decide_eq_true c32
                    clear c32
                    obtain rfl := Option.some.inj H
                    have hcz33_0 : wc.cell? ⟨gb525, 0, none⟩ = some (.int .i64 ((rd_T63 l0 x35_3).f0)) := (blk_cell BK525.out 0).trans rfl
                    have hcz33_1 : wc.cell? ⟨gb525, 1, none⟩ = some (.int .i64 ((rd_T63 l0 x35_3).f1)) := (blk_cell BK525.out 1).trans rfl
                    have hcz33_2 : wc.cell? ⟨gb525, 2, none⟩ = some (.int .i64 ((rd_T63 l0 x35_3).f2)) := (blk_cell BK525.out 2).trans rfl
                    have hcz33_3 : wc.cell? ⟨gb525, 3, none⟩ = some (.int .i64 ((rd_T63 l0 x35_3).f3)) := (blk_cell BK525.out 3).trans rfl
                    have hfz33_0 := blk_frozen BK525.out 0
                    have hfz33_1 := blk_frozen BK525.out 1
                    have hfz33_2 := blk_frozen BK525.out 2
                    have hfz33_3 := blk_frozen BK525.out 3
                    go_wp2_with (first | (go_at_call 46; (with_reducible refine (broke_signed.calls kj25 ((rd_T63 l0 x35_3).f0) ((rd_T63 l0 x35_3).f1) ((rd_T63 l0 x35_3).f2) ((rd_T63 l0 x35_3).f3) t527 _ A31.out).mono ?_); rintro e w34 ⟨rfl, hb⟩; have n0_ := Aside0.mk (blk_below (g := gb525) (o := .cells #[.int .i64 ((rd_T63 l0 x35_3).f0), .int .i64 ((rd_T63 l0 x35_3).f1), .int .i64 ((rd_T63 l0 x35_3).f2), .int .i64 ((rd_T63 l0 x35_3).f3)] 63 (0, 0)) (by (with_reducible repeat (first | refine blk_drewN ?_ _ | refine blk_drew ?_ | refine blk_alloc ?_ _)); exact BK525.out) hb); have n1_ := Aside0.mk (below_step (by repeat (first | (with_reducible first | exact HB.out | apply below_alloc | apply pw_below_drewN | apply below_drew1 | refine below_set ?_ GE525.out) | exact HB.out)) hb); clear BK525; clear HB; have BK525 := n0_; have HB := n1_; clear n0_ n1_))
                    go_ret
                    exact ⟨by first | rfl | (simp [errW_none, errW_some] <;> rfl) | (simp [*, errW_none, errW_some] <;> rfl), by repeat (first | (with_reducible first | exact HB.out | apply below_alloc | apply pw_below_drewN | apply below_drew1 | refine below_set ?_ GE525.out) | exact HB.out)⟩
                   ·rw [if_neg c32] at H
                    have c32b0 : decide (a1 < (wrap64 (x7_3 + t527))) = false := decide_eq_false c32
                    clear c32
                    have H' := Aside0.mk H
                    clear H
                    have hcz35_0 : wc.cell? ⟨gb525, 0, none⟩ = some (.int .i64 ((rd_T63 l0 x35_3).f0)) := (blk_cell BK525.out 0).trans rfl
                    have hcz35_1 : wc.cell? ⟨gb525, 1, none⟩ = some (.int .i64 ((rd_T63 l0 x35_3).f1)) := (blk_cell BK525.out 1).trans rfl
                    have hcz35_2 : wc.cell? ⟨gb525, 2, none⟩ = some (.int .i64 ((rd_T63 l0 x35_3).f2)) := (blk_cell BK525.out 2).trans rfl
                    have hcz35_3 : wc.cell? ⟨gb525, 3, none⟩ = some (.int .i64 ((rd_T63 l0 x35_3).f3)) := (blk_cell BK525.out 3).trans rfl
                    have hfz35_0 := blk_frozen BK525.out 0
                    have hfz35_1 := blk_frozen BK525.out 1
                    have hfz35_2 := blk_frozen BK525.out 2
                    have hfz35_3 := blk_frozen BK525.out 3
                    go_wp2_with (first | (go_at_call 46; (with_reducible refine (broke_signed.calls kj25 ((rd_T63 l0 x35_3).f0) ((rd_T63 l0 x35_3).f1) ((rd_T63 l0 x35_3).f2) ((rd_T63 l0 x35_3).f3) t527 _ A31.out).mono ?_); rintro e w36 ⟨rfl, hb⟩; have n0_ := Aside0.mk (blk_below (g := gb525) (o := .cells #[.int .i64 ((rd_T63 l0 x35_3).f0), .int .i64 ((rd_T63 l0 x35_3).f1), .int .i64 ((rd_T63 l0 x35_3).f2), .int .i64 ((rd_T63 l0 x35_3).f3)] 63 (0, 0)) (by (with_reducible repeat (first | refine blk_drewN ?_ _ | refine blk_drew ?_ | refine blk_alloc ?_ _)); exact BK525.out) hb); have n1_ := Aside0.mk (below_step (by repeat (first | (with_reducible first | exact HB.out | apply below_alloc | apply pw_below_drewN | apply below_drew1 | refine below_set ?_ GE525.out) | exact HB.out)) hb); clear BK525; clear HB; have BK525 := n0_; have HB := n1_; clear n0_ n1_))
                    go_roundg kj25
                    case measure => have := HJ2.out; have := HK2.out; have := HK3.out; have := HJ16.out; have := HJ25.out; omega
                    case rel => exact ⟨(wrap64 (x7_3 + t527)), (wrap64 (x35_3 + 1)), (by first | rfl | (simp; done) | (simp [*]; done)), (by first | rfl | (simp; done) | (simp [*]; done)), H', ⟨by have := HJ2.out; have := HK2.out; have := HK3.out; have := HJ16.out; have := HJ25.out; omega⟩, ⟨by repeat (first | (with_reducible first | exact HB.out | apply below_alloc | apply pw_below_drewN | apply below_drew1 | refine below_set ?_ GE525.out) | exact HB.out)⟩⟩
            ·rw [if_neg c16] at H
             exact absurd H (by simp)
           ·rw [if_neg c15] at H
            exact absurd H (by simp)
          ·rw [if_neg c14] at H
           have c14b0 : decide (x35_3 < (l0.length : Int)) = false := decide_eq_false c14
           clear c14
           obtain rfl := Option.some.inj H
           go_wp2
           go_ret
           exact ⟨by first | rfl | (simp [errW_none, errW_some] <;> rfl) | (simp [*, errW_none, errW_some] <;> rfl), by with_reducible repeat first | exact HB.out | apply below_alloc | apply pw_below_drewN | apply below_drew1⟩

end Go.Proofs.Ytnkmeocccbkdkaa.P

namespace Go.Proofs.Ytnkmeocccbkdkaa.P
open Go.RowKit Go.Proofs.YtnkmeocccbkdkaaW.PrintWords Go.Proofs.YtnkmeocccbkdkaaW.PrintLast Go.Proofs.YtnkmeocccbkdkaaW.PrintMore
attribute [local go_sem] max2_int min2_int max_two min_two max_three min_three max_four min_four   -- for this text's walks alone
set_option linter.unusedVariables false
set_option linter.unusedSimpArgs false

/-! ### papermillref22_Change: function 47 -/
def papermillref22_Change.f (a0_0 : Int) (a0_1 : Int) (a0_2 : Int) (a0_3 : Int) : Option (Int) := if a0_1 = 6 then (some (wrap64 (-a0_2))) else (some a0_2)
open List (setIfInBounds_toArray set_cons_zero set_cons_succ)
set_option maxHeartbeats 8000000 in
set_option maxRecDepth 100000 in
theorem papermillref22_Change.calls (a0_0 : Int) (a0_1 : Int) (a0_2 : Int) (a0_3 : Int) (r : Int) (w : World) (h : papermillref22_Change.f a0_0 a0_1 a0_2 a0_3 = some r) :
  Calls Try.prog 47 #[.agg #[.int .i64 a0_0, .int .i64 a0_1, .int .i64 a0_2, .int .i64 a0_3]] w fun e w' => e = .returned (.int .i64 r) ∧ Below w.heap.size w w' := by
 have hu63 := Try.underlying63
 have HB := Aside0.mk (Below.refl w.heap.size w)
 have H : (if a0_1 = 6 then (some (wrap64 (-a0_2))) else (some a0_2)) = some r := h
 clear h
 by_cases c2 : a0_1 = 6
 ·rw [if_pos c2] at H
  have c2b0 : (a0_1 == 6) = true := beq_iff_eq.mpr c2
  have c2b1 : (a0_1 != 6) = false := bne_eq_false_iff_eq.mpr c2
  clear c2
  obtain rfl := Option.some.inj H
  go_enter Try.func47, Try.ntmps47
  go_wp2_with (first | ((with_reducible refine gate_dst (N := 1) rfl ?_); refine box_event ?hg (N := 1) ?hd (cs := #[.int .i64 a0_0, .int .i64 a0_1, .int .i64 a0_2, .int .i64 a0_3]) (t := 63) ?hr ?_; (case hd => rfl); (case hg => rfl); (case hr => first | (go_simp; done) | (go_simp; rfl)); intro gb531 hg w3 hbox hb; have n0_ := Aside0.mk (below_step (by with_reducible repeat first | exact HB.out | apply below_alloc | apply pw_below_drewN | apply below_drew1) hb); have n1_ := Aside0.mk (hbox); have n2_ := Aside0.mk ((by rw [hg]; exact (below_size (by with_reducible repeat first | exact HB.out | apply below_alloc | apply pw_below_drewN | apply below_drew1)) : w.heap.size ≤ gb531)); have n3_ := Aside0.mk ((by rw [hg]; exact (below_size (by with_reducible repeat first | exact HB.out | apply below_alloc | apply pw_below_drewN | apply below_drew1)) : w.heap.size ≤ gb531)); clear HB; have HB := n0_; have BK531 := n1_; have GW531 := n2_; have GE531 := n3_; clear n0_ n1_ n2_ n3_; clear hb hbox hg; have hcz4_0 : w3.cell? ⟨gb531, 0, none⟩ = some (.int .i64 a0_0) := (blk_cell BK531.out 0).trans rfl; have hcz4_1 : w3.cell? ⟨gb531, 1, none⟩ = some (.int .i64 a0_1) := (blk_cell BK531.out 1).trans rfl; have hcz4_2 : w3.cell? ⟨gb531, 2, none⟩ = some (.int .i64 a0_2) := (blk_cell BK531.out 2).trans rfl; have hcz4_3 : w3.cell? ⟨gb531, 3, none⟩ = some (.int .i64 a0_3) := (blk_cell BK531.out 3).trans rfl; have hfz4_0 := blk_frozen BK531.out 0; have hfz4_1 := blk_frozen BK531.out 1; have hfz4_2 := blk_frozen BK531.out 2; have hfz4_3 := blk_frozen BK531.out 3))
  go_ret
  exact ⟨by first | rfl | (simp [errW_none, errW_some] <;> rfl) | (simp [*, errW_none, errW_some] <;> rfl), by repeat (first | (with_reducible first | exact HB.out | apply below_alloc | apply pw_below_drewN | apply below_drew1 | refine below_set ?_ GE531.out) | exact HB.out)⟩
 ·rw [if_neg c2] at H
  have c2b0 : (a0_1 == 6) = false := beq_eq_false_iff_ne.mpr c2
  have c2b1 : (a0_1 != 6) = true := bne_iff_ne.mpr c2
  obtain rfl := Option.some.inj H
  go_enter Try.func47, Try.ntmps47
  go_wp2_with (first | ((with_reducible refine gate_dst (N := 1) rfl ?_); refine box_event ?hg (N := 1) ?hd (cs := #[.int .i64 a0_0, .int .i64 a0_1, .int .i64 a0_2, .int .i64 a0_3]) (t := 63) ?hr ?_; (case hd => rfl); (case hg => rfl); (case hr => first | (go_simp; done) | (go_simp; rfl)); intro gb531 hg w5 hbox hb; have n0_ := Aside0.mk (below_step (by with_reducible repeat first | exact HB.out | apply below_alloc | apply pw_below_drewN | apply below_drew1) hb); have n1_ := Aside0.mk (hbox); have n2_ := Aside0.mk ((by rw [hg]; exact (below_size (by with_reducible repeat first | exact HB.out | apply below_alloc | apply pw_below_drewN | apply below_drew1)) : w.heap.size ≤ gb531)); have n3_ := Aside0.mk ((by rw [hg]; exact (below_size (by with_reducible repeat first | exact HB.out | apply below_alloc | apply pw_below_drewN | apply below_drew1)) : w.heap.size ≤ gb531)); clear HB; have HB := n0_; have BK531 := n1_; have GW531 := n2_; have GE531 := n3_; clear n0_ n1_ n2_ n3_; clear hb hbox hg; have hcz6_0 : w5.cell? ⟨gb531, 0, none⟩ = some (.int .i64 a0_0) := (blk_cell BK531.out 0).trans rfl; have hcz6_1 : w5.cell? ⟨gb531, 1, none⟩ = some (.int .i64 a0_1) := (blk_cell BK531.out 1).trans rfl; have hcz6_2 : w5.cell? ⟨gb531, 2, none⟩ = some (.int .i64 a0_2) := (blk_cell BK531.out 2).trans rfl; have hcz6_3 : w5.cell? ⟨gb531, 3, none⟩ = some (.int .i64 a0_3) := (blk_cell BK531.out 3).trans rfl; have hfz6_0 := blk_frozen BK531.out 0; have hfz6_1 := blk_frozen BK531.out 1; have hfz6_2 := blk_frozen BK531.out 2; have hfz6_3 := blk_frozen BK531.out 3))
  go_ret
  exact ⟨by first | rfl | (simp [errW_none, errW_some] <;> rfl) | (simp [*, errW_none, errW_some] <;> rfl), by repeat (first | (with_reducible first | exact HB.out | apply below_alloc | apply pw_below_drewN | apply below_drew1 | refine below_set ?_ GE531.out) | exact HB.out)⟩

end Go.Proofs.Ytnkmeocccbkdkaa.P

namespace Go.Proofs.Ytnkmeocccbkdkaa.P
open Go.RowKit Go.Proofs.YtnkmeocccbkdkaaW.PrintWords Go.Proofs.YtnkmeocccbkdkaaW.PrintLast Go.Proofs.YtnkmeocccbkdkaaW.PrintMore
attribute [local go_sem] max2_int min2_int max_two min_two max_three min_three max_four min_four   -- for this text's walks alone
set_option linter.unusedVariables false
set_option linter.unusedSimpArgs false

/-! ### papermilllaw22_ints: function 13 -/
def papermilllaw22_ints.l0 : Nat → List Int → List Int → Int → Int → Option (Bool)
  | 0, _, _, _, _ => none
  | k + 1, x0, x1, x12, x13 => if x13 < x12 then (if 0 ≤ x13 then (if x13 < (x0.length : Int) then (if x13 < (x1.length : Int) then (if (rd x0 x13) = (rd x1 x13) then (papermilllaw22_ints.l0 k x0 x1 x12 (wrap64 (x13 + 1))) else (some false)) else (none)) else (none)) else (none)) else (some true)
def papermilllaw22_ints.f (k : Nat) (l0 : List Int) (l1 : List Int) : Option (Bool) := if (l0.length : Int) = (l1.length : Int) then (papermilllaw22_ints.l0 k l0 l1 (l0.length : Int) 0) else (some false)
theorem papermilllaw22_ints.mono_l : ∀ k, (∀ y0 y1 y2 y3, LeO (papermilllaw22_ints.l0 k y0 y1 y2 y3) (papermilllaw22_ints.l0 (k + 1) y0 y1 y2 y3))
  | 0 => fun _ _ _ _ r h => by simp [papermilllaw22_ints.l0] at h
  | k + 1 => by
    have ih0 := papermilllaw22_ints.mono_l k
    · intro y0 y1 y2 y3
      unfold papermilllaw22_ints.l0
      repeat' first
      | (with_reducible exact ih0 _ _ _ _)
      | (with_reducible exact LeO.refl _)
      | (with_reducible exact LeO.none _)
      | (with_reducible refine LeO.ite ?_ ?_)
      | (with_reducible refine LeO.bind ?_ (fun _ => ?_))
      | exact ih0 _ _ _ _
      | exact LeO.none _
      | refine LeO.ite ?_ ?_
      | refine LeO.bind ?_ (fun _ => ?_)
theorem papermilllaw22_ints.mono : ∀ a0 a1 k, LeO (papermilllaw22_ints.f k a0 a1) (papermilllaw22_ints.f (k + 1) a0 a1) := by
  intro a0 a1 k
  have ih0 := papermilllaw22_ints.mono_l k
  unfold papermilllaw22_ints.f
  repeat' first
      | (with_reducible exact ih0 _ _ _ _)
      | (with_reducible exact LeO.refl _)
      | (with_reducible exact LeO.none _)
      | (with_reducible refine LeO.ite ?_ ?_)
      | (with_reducible refine LeO.bind ?_ (fun _ => ?_))
      | exact ih0 _ _ _ _
      | exact LeO.none _
      | refine LeO.ite ?_ ?_
      | refine LeO.bind ?_ (fun _ => ?_)
open List (setIfInBounds_toArray set_cons_zero set_cons_succ)
set_option maxHeartbeats 8000000 in
set_option maxRecDepth 100000 in
theorem papermilllaw22_ints.calls (k : Nat) (A0 : Option Addr) (c0 : Nat) (l0 : List Int) (A1 : Option Addr) (c1 : Nat) (l1 : List Int) (r : Bool) (w : World) (hr0 : Kd.C (Kd.int .i64) w A0 l0.length l0) (hc0 : l0.length ≤ c0) (hr1 : Kd.C (Kd.int .i64) w A1 l1.length l1) (hc1 : l1.length ≤ c1) (h : papermilllaw22_ints.f k l0 l1 = some r) :
  Calls Try.prog 13 #[.slice A0 l0.length c0, .slice A1 l1.length c1] w fun e w' => e = .returned (.bool r) ∧ Drawn0 w w' := by
 have HR0 := Aside0.mk hr0
 have HC0 := Aside0.mk hc0
 clear hr0 hc0
 have HR1 := Aside0.mk hr1
 have HC1 := Aside0.mk hc1
 clear hr1 hc1
 have H : (if (l0.length : Int) = (l1.length : Int) then (papermilllaw22_ints.l0 k l0 l1 (l0.length : Int) 0) else (some false)) = some r := h
 clear h
 by_cases c3 : (l0.length : Int) = (l1.length : Int)
 ·rw [if_pos c3] at H
  have c3b0 : ((l0.length : Int) == (l1.length : Int)) = true := beq_iff_eq.mpr c3
  have c3b1 : ((l0.length : Int) != (l1.length : Int)) = false := bne_eq_false_iff_eq.mpr c3
  have c3b2 : (l0.length == l1.length) = true := by first | simpa using c3 | (simp at c3 ⊢; omega)
  clear c3
  have H' := Aside0.mk H
  clear H
  go_enter Try.func13, Try.ntmps13
  go_wp2
  go_loopg [13] k (fun kq v13 w' => ∃ (x13_1 : Int), v13 = .int .i64 x13_1 ∧ Aside0 (papermilllaw22_ints.l0 kq l0 l1 (l0.length : Int) x13_1 = some r) ∧ Aside0 (kq ≤ k) ∧ Drawn0 w w')
  case atStart => exact ⟨(0), (by first | rfl | (simp; done) | (simp [*]; done)), H', ⟨Nat.le_refl _⟩, by repeat (first | exact Drawn0.refl _ | apply Drawn0.step)⟩
  case round =>
   clear H'
   obtain ⟨x13_1, rfl, HA, HK1, ⟨m1, rfl⟩⟩ := hrel
   cases gk with
   | zero => exact absurd HA.out (by simp [papermilllaw22_ints.l0])
   | succ k1 =>
    have H := HA.out
    clear HA
    simp only [papermilllaw22_ints.l0] at H
    by_cases c4 : x13_1 < (l0.length : Int)
    ·rw [if_pos c4] at H
     have c4b0 : decide (x13_1 < (l0.length : Int)) = true := decide_eq_true c4
     clear c4
     by_cases c5 : 0 ≤ x13_1
     ·rw [if_pos c5] at H
      have c5b0 : decide (0 ≤ x13_1) = true := decide_eq_true c5
      clear c5
      by_cases c6 : x13_1 < (l0.length : Int)
      ·rw [if_pos c6] at H
       have c6b0 : decide (x13_1 < (l0.length : Int)) = true := decide_eq_true c6
       clear c6
       by_cases c7 : x13_1 < (l1.length : Int)
       ·rw [if_pos c7] at H
        have c7b0 : decide (x13_1 < (l1.length : Int)) = true := decide_eq_true c7
        clear c7
        by_cases c8 : (rd l0 x13_1) = (rd l1 x13_1)
        ·rw [if_pos c8] at H
         have c8b0 : ((rd l0 x13_1) == (rd l1 x13_1)) = true := beq_iff_eq.mpr c8
         have c8b1 : ((rd l0 x13_1) != (rd l1 x13_1)) = false := bne_eq_false_iff_eq.mpr c8
         clear c8
         have H' := Aside0.mk H
         clear H
         have p562 : 0 ≤ (x13_1 : Int) := of_decide_eq_true (by assumption)
         have q562 : x13_1 < (l0.length : Int) := of_decide_eq_true (by assumption)
         obtain ⟨ad562, e562, hx562_0⟩ := Kd.at_int HR0.out x13_1 p562 q562
         cases e562
         replace p562 := eq_true p562
         replace q562 := eq_true q562
         have p563 : 0 ≤ (x13_1 : Int) := of_decide_eq_true (by assumption)
         have q563 : x13_1 < (l1.length : Int) := of_decide_eq_true (by assumption)
         obtain ⟨ad563, e563, hx563_0⟩ := Kd.at_int HR1.out x13_1 p563 q563
         cases e563
         replace p563 := eq_true p563
         replace q563 := eq_true q563
         go_wp2
         repeat (go_quiet (fail); try go_wp2)
         go_roundg k1
         case measure => have := HK1.out; omega
         case rel => exact ⟨(wrap64 (x13_1 + 1)), (by first | rfl | (simp; done) | (simp [*]; done)), H', ⟨by have := HK1.out; omega⟩, by repeat (first | exact Drawn0.refl _ | apply Drawn0.step)⟩
        ·rw [if_neg c8] at H
         have c8b0 : ((rd l0 x13_1) == (rd l1 x13_1)) = false := beq_eq_false_iff_ne.mpr c8
         have c8b1 : ((rd l0 x13_1) != (rd l1 x13_1)) = true := bne_iff_ne.mpr c8
         obtain rfl := Option.some.inj H
         have p562 : 0 ≤ (x13_1 : Int) := of_decide_eq_true (by assumption)
         have q562 : x13_1 < (l0.length : Int) := of_decide_eq_true (by assumption)
         obtain ⟨ad562, e562, hx562_0⟩ := Kd.at_int HR0.out x13_1 p562 q562
         cases e562
         replace p562 := eq_true p562
         replace q562 := eq_true q562
         have p563 : 0 ≤ (x13_1 : Int) := of_decide_eq_true (by assumption)
         have q563 : x13_1 < (l1.length : Int) := of_decide_eq_true (by assumption)
         obtain ⟨ad563, e563, hx563_0⟩ := Kd.at_int HR1.out x13_1 p563 q563
         cases e563
         replace p563 := eq_true p563
         replace q563 := eq_true q563
         go_wp2
         repeat (go_quiet (fail); try go_wp2)
         go_ret
         exact ⟨by first | rfl | (simp; done) | (simp [*]; done), by repeat (first | exact Drawn0.refl _ | apply Drawn0.step)⟩
       ·rw [if_neg c7] at H
        exact absurd H (by simp)
      ·rw [if_neg c6] at H
       exact absurd H (by simp)
     ·rw [if_neg c5] at H
      exact absurd H (by simp)
    ·rw [if_neg c4] at H
     have c4b0 : decide (x13_1 < (l0.length : Int)) = false := decide_eq_false c4
     clear c4
     obtain rfl := Option.some.inj H
     go_wp2
     go_ret
     exact ⟨by first | rfl | (simp; done) | (simp [*]; done), by repeat (first | exact Drawn0.refl _ | apply Drawn0.step)⟩
 ·rw [if_neg c3] at H
  have c3b0 : ((l0.length : Int) == (l1.length : Int)) = false := beq_eq_false_iff_ne.mpr c3
  have c3b1 : ((l0.length : Int) != (l1.length : Int)) = true := bne_iff_ne.mpr c3
  have c3b2 : (l0.length == l1.length) = false := by first | simpa using c3 | (simp at c3 ⊢; omega)
  obtain rfl := Option.some.inj H
  go_enter Try.func13, Try.ntmps13
  go_wp2
  go_ret
  exact ⟨by first | rfl | (simp; done) | (simp [*]; done), by repeat (first | exact Drawn0.refl _ | apply Drawn0.step)⟩

end Go.Proofs.Ytnkmeocccbkdkaa.P

namespace Go.Proofs.Ytnkmeocccbkdkaa.P
open Go.RowKit Go.Proofs.YtnkmeocccbkdkaaW.PrintWords Go.Proofs.YtnkmeocccbkdkaaW.PrintLast Go.Proofs.YtnkmeocccbkdkaaW.PrintMore
attribute [local go_sem] max2_int min2_int max_two min_two max_three min_three max_four min_four   -- for this text's walks alone
set_option linter.unusedVariables false
set_option linter.unusedSimpArgs false

/-! ### papermilllaw22_limbs: function 30 -/
def papermilllaw22_limbs.l0 : Nat → List Int → List Int → Int → Int → Option (Bool)
  | 0, _, _, _, _ => none
  | k + 1, x0, x1, x12, x13 => if x13 < x12 then (if 0 ≤ x13 then (if x13 < (x0.length : Int) then (if x13 < (x1.length : Int) then (if (rd x0 x13) = (rd x1 x13) then (papermilllaw22_limbs.l0 k x0 x1 x12 (wrap64 (x13 + 1))) else (some false)) else (none)) else (none)) else (none)) else (some true)
def papermilllaw22_limbs.f (k : Nat) (l0 : List Int) (l1 : List Int) : Option (Bool) := if (l0.length : Int) = (l1.length : Int) then (papermilllaw22_limbs.l0 k l0 l1 (l0.length : Int) 0) else (some false)
theorem papermilllaw22_limbs.mono_l : ∀ k, (∀ y0 y1 y2 y3, LeO (papermilllaw22_limbs.l0 k y0 y1 y2 y3) (papermilllaw22_limbs.l0 (k + 1) y0 y1 y2 y3))
  | 0 => fun _ _ _ _ r h => by simp [papermilllaw22_limbs.l0] at h
  | k + 1 => by
    have ih0 := papermilllaw22_limbs.mono_l k
    · intro y0 y1 y2 y3
      unfold papermilllaw22_limbs.l0
      repeat' first
      | (with_reducible exact ih0 _ _ _ _)
      | (with_reducible exact LeO.refl _)
      | (with_reducible exact LeO.none _)
      | (with_reducible refine LeO.ite ?_ ?_)
      | (with_reducible refine LeO.bind ?_ (fun _ => ?_))
      | exact ih0 _ _ _ _
      | exact LeO.none _
      | refine LeO.ite ?_ ?_
      | refine LeO.bind ?_ (fun _ => ?_)
theorem papermilllaw22_limbs.mono : ∀ a0 a1 k, LeO (papermilllaw22_limbs.f k a0 a1) (papermilllaw22_limbs.f (k + 1) a0 a1) := by
  intro a0 a1 k
  have ih0 := papermilllaw22_limbs.mono_l k
  unfold papermilllaw22_limbs.f
  repeat' first
      | (with_reducible exact ih0 _ _ _ _)
      | (with_reducible exact LeO.refl _)
      | (with_reducible exact LeO.none _)
      | (with_reducible refine LeO.ite ?_ ?_)
      | (with_reducible refine LeO.bind ?_ (fun _ => ?_))
      | exact ih0 _ _ _ _
      | exact LeO.none _
      | refine LeO.ite ?_ ?_
      | refine LeO.bind ?_ (fun _ => ?_)
open List (setIfInBounds_toArray set_cons_zero set_cons_succ)
set_option maxHeartbeats 8000000 in
set_option maxRecDepth 100000 in
theorem papermilllaw22_limbs.calls (k : Nat) (A0 : Option Addr) (c0 : Nat) (l0 : List Int) (A1 : Option Addr) (c1 : Nat) (l1 : List Int) (r : Bool) (w : World) (hr0 : Kd.C (Kd.int .i64) w A0 l0.length l0) (hc0 : l0.length ≤ c0) (hr1 : Kd.C (Kd.int .i64) w A1 l1.length l1) (hc1 : l1.length ≤ c1) (h : papermilllaw22_limbs.f k l0 l1 = some r) :
  Calls Try.prog 30 #[.slice A0 l0.length c0, .slice A1 l1.length c1] w fun e w' => e = .returned (.bool r) ∧ Drawn0 w w' := by
 have HR0 := Aside0.mk hr0
 have HC0 := Aside0.mk hc0
 clear hr0 hc0
 have HR1 := Aside0.mk hr1
 have HC1 := Aside0.mk hc1
 clear hr1 hc1
 have H : (if (l0.length : Int) = (l1.length : Int) then (papermilllaw22_limbs.l0 k l0 l1 (l0.length : Int) 0) else (some false)) = some r := h
 clear h
 by_cases c3 : (l0.length : Int) = (l1.length : Int)
 ·rw [if_pos c3] at H
  have c3b0 : ((l0.length : Int) == (l1.length : Int)) = true := beq_iff_eq.mpr c3
  have c3b1 : ((l0.length : Int) != (l1.length : Int)) = false := bne_eq_false_iff_eq.mpr c3
  have c3b2 : (l0.length == l1.length) = true := by first | simpa using c3 | (simp at c3 ⊢; omega)
  clear c3
  have H' := Aside0.mk H
  clear H
  go_enter Try.func30, Try.ntmps30
  go_wp2
  go_loopg [13] k (fun kq v13 w' => ∃ (x13_1 : Int), v13 = .int .i64 x13_1 ∧ Aside0 (papermilllaw22_limbs.l0 kq l0 l1 (l0.length : Int) x13_1 = some r) ∧ Aside0 (kq ≤ k) ∧ Drawn0 w w')
  case atStart => exact ⟨(0), (by first | rfl | (simp; done) | (simp [*]; done)), H', ⟨Nat.le_refl _⟩, by repeat (first | exact Drawn0.refl _ | apply Drawn0.step)⟩
  case round =>
   clear H'
   obtain ⟨x13_1, rfl, HA, HK1, ⟨m1, rfl⟩⟩ := hrel
   cases gk with
   | zero => exact absurd HA.out (by simp [papermilllaw22_limbs.l0])
   | succ k1 =>
    have H := HA.out
    clear HA
    simp only [papermilllaw22_limbs.l0] at H
    by_cases c4 : x13_1 < (l0.length : Int)
    ·rw [if_pos c4] at H
     have c4b0 : decide (x13_1 < (l0.length : Int)) = true := decide_eq_true c4
     clear c4
     by_cases c5 : 0 ≤ x13_1
     ·rw [if_pos c5] at H
      have c5b0 : decide (0 ≤ x13_1) = true := decide_eq_true c5
      clear c5
      by_cases c6 : x13_1 < (l0.length : Int)
      ·rw [if_pos c6] at H
       have c6b0 : decide (x13_1 < (l0.length : Int)) = true := decide_eq_true c6
       clear c6
       by_cases c7 : x13_1 < (l1.length : Int)
       ·rw [if_pos c7] at H
        have c7b0 : decide (x13_1 < (l1.length : Int)) = true := decide_eq_true c7
        clear c7
        by_cases c8 : (rd l0 x13_1) = (rd l1 x13_1)
        ·rw [if_pos c8] at H
         have c8b0 : ((rd l0 x13_1) == (rd l1 x13_1)) = true := beq_iff_eq.mpr c8
         have c8b1 : ((rd l0 x13_1) != (rd l1 x13_1)) = false := bne_eq_false_iff_eq.mpr c8
         clear c8
         have H' := Aside0.mk H
         clear H
         have p564 : 0 ≤ (x13_1 : Int) := of_decide_eq_true (by assumption)
         have q564 : x13_1 < (l0.length : Int) := of_decide_eq_true (by assumption)
         obtain ⟨ad564, e564, hx564_0⟩ := Kd.at_int HR0.out x13_1 p564 q564
         cases e564
         replace p564 := eq_true p564
         replace q564 := eq_true q564
         have p565 : 0 ≤ (x13_1 : Int) := of_decide_eq_true (by assumption)
         have q565 : x13_1 < (l1.length : Int) := of_decide_eq_true (by assumption)
         obtain ⟨ad565, e565, hx565_0⟩ := Kd.at_int HR1.out x13_1 p565 q565
         cases e565
         replace p565 := eq_true p565
         replace q565 := eq_true q565
         go_wp2
         repeat (go_quiet (fail); try go_wp2)
         go_roundg k1
         case measure => have := HK1.out; omega
         case rel => exact ⟨(wrap64 (x13_1 + 1)), (by first | rfl | (simp; done) | (simp [*]; done)), H', ⟨by have := HK1.out; omega⟩, by repeat (first | exact Drawn0.refl _ | apply Drawn0.step)⟩
        ·rw [if_neg c8] at H
         have c8b0 : ((rd l0 x13_1) == (rd l1 x13_1)) = false := beq_eq_false_iff_ne.mpr c8
         have c8b1 : ((rd l0 x13_1) != (rd l1 x13_1)) = true := bne_iff_ne.mpr c8
         obtain rfl := Option.some.inj H
         have p564 : 0 ≤ (x13_1 : Int) := of_decide_eq_true (by assumption)
         have q564 : x13_1 < (l0.length : Int) := of_decide_eq_true (by assumption)
         obtain ⟨ad564, e564, hx564_0⟩ := Kd.at_int HR0.out x13_1 p564 q564
         cases e564
         replace p564 := eq_true p564
         replace q564 := eq_true q564
         have p565 : 0 ≤ (x13_1 : Int) := of_decide_eq_true (by assumption)
         have q565 : x13_1 < (l1.length : Int) := of_decide_eq_true (by assumption)
         obtain ⟨ad565, e565, hx565_0⟩ := Kd.at_int HR1.out x13_1 p565 q565
         cases e565
         replace p565 := eq_true p565
         replace q565 := eq_true q565
         go_wp2
         repeat (go_quiet (fail); try go_wp2)
         go_ret
         exact ⟨by first | rfl | (simp; done) | (simp [*]; done), by repeat (first | exact Drawn0.refl _ | apply Drawn0.step)⟩
       ·rw [if_neg c7] at H
        exact absurd H (by simp)
      ·rw [if_neg c6] at H
       exact absurd H (by simp)
     ·rw [if_neg c5] at H
      exact absurd H (by simp)
    ·rw [if_neg c4] at H
     have c4b0 : decide (x13_1 < (l0.length : Int)) = false := decide_eq_false c4
     clear c4
     obtain rfl := Option.some.inj H
     go_wp2
     go_ret
     exact ⟨by first | rfl | (simp; done) | (simp [*]; done), by repeat (first | exact Drawn0.refl _ | apply Drawn0.step)⟩
 ·rw [if_neg c3] at H
  have c3b0 : ((l0.length : Int) == (l1.length : Int)) = false := beq_eq_false_iff_ne.mpr c3
  have c3b1 : ((l0.length : Int) != (l1.length : Int)) = true := bne_iff_ne.mpr c3
  have c3b2 : (l0.length == l1.length) = false := by first | simpa using c3 | (simp at c3 ⊢; omega)
  obtain rfl := Option.some.inj H
  go_enter Try.func30, Try.ntmps30
  go_wp2
  go_ret
  exact ⟨by first | rfl | (simp; done) | (simp [*]; done), by repeat (first | exact Drawn0.refl _ | apply Drawn0.step)⟩

/-! ### papermilllaw22_same: function 14 -/
def papermilllaw22_same.f (k : Nat) (a0_0 : Bool) (l0_1 : List Int) (l0_2 : List Int) (a1_0 : Bool) (l1_1 : List Int) (l1_2 : List Int) : Option (Bool) := if (a0_0 == a1_0) = true then ((papermilllaw22_limbs.f k l0_1 l1_1).bind fun t568 => (if t568 = true then ((papermilllaw22_limbs.f k l0_2 l1_2).bind fun t569 => (some t569)) else (some false))) else (some false)
theorem papermilllaw22_same.mono : ∀ a0 a1 a2 a3 a4 a5 k, LeO (papermilllaw22_same.f k a0 a1 a2 a3 a4 a5) (papermilllaw22_same.f (k + 1) a0 a1 a2 a3 a4 a5) := by
 intro a0 a1 a2 a3 a4 a5 k
 unfold papermilllaw22_same.f
 repeat' first
   | (with_reducible exact papermilllaw22_limbs.mono _ _ _)
   | (with_reducible exact LeO.refl _)
   | (with_reducible exact LeO.none _)
   | (with_reducible refine LeO.ite ?_ ?_)
   | (with_reducible refine LeO.bind ?_ (fun _ => ?_))
   | exact papermilllaw22_limbs.mono _ _ _
   | exact LeO.none _
   | refine LeO.ite ?_ ?_
   | refine LeO.bind ?_ (fun _ => ?_)
set_option maxHeartbeats 8000000 in
set_option maxRecDepth 100000 in
theorem papermilllaw22_same.calls (k : Nat) (a0_0 : Bool) (A0_1 : Option Addr) (c0_1 : Nat) (l0_1 : List Int) (A0_2 : Option Addr) (c0_2 : Nat) (l0_2 : List Int) (a1_0 : Bool) (A1_1 : Option Addr) (c1_1 : Nat) (l1_1 : List Int) (A1_2 : Option Addr) (c1_2 : Nat) (l1_2 : List Int) (r : Bool) (w : World) (hr0_1 : Kd.C (Kd.int .i64) w A0_1 l0_1.length l0_1) (hc0_1 : l0_1.length ≤ c0_1) (hr0_2 : Kd.C (Kd.int .i64) w A0_2 l0_2.length l0_2) (hc0_2 : l0_2.length ≤ c0_2) (hr1_1 : Kd.C (Kd.int .i64) w A1_1 l1_1.length l1_1) (hc1_1 : l1_1.length ≤ c1_1) (hr1_2 : Kd.C (Kd.int .i64) w A1_2 l1_2.length l1_2) (hc1_2 : l1_2.length ≤ c1_2) (h : papermilllaw22_same.f k a0_0 l0_1 l0_2 a1_0 l1_1 l1_2 = some r) :
  Calls Try.prog 14 #[.agg #[.bool a0_0, .slice A0_1 l0_1.length c0_1, .slice A0_2 l0_2.length c0_2], .agg #[.bool a1_0, .slice A1_1 l1_1.length c1_1, .slice A1_2 l1_2.length c1_2]] w fun e w' => e = .returned (.bool r) ∧ Below w.heap.size w w' := by
 have hu27 := Try.underlying27
 have HR0_1 := Aside0.mk hr0_1
 have HC0_1 := Aside0.mk hc0_1
 clear hr0_1 hc0_1
 have HR0_2 := Aside0.mk hr0_2
 have HC0_2 := Aside0.mk hc0_2
 clear hr0_2 hc0_2
 have HR1_1 := Aside0.mk hr1_1
 have HC1_1 := Aside0.mk hc1_1
 clear hr1_1 hc1_1
 have HR1_2 := Aside0.mk hr1_2
 have HC1_2 := Aside0.mk hc1_2
 clear hr1_2 hc1_2
 have HB := Aside0.mk (Below.refl w.heap.size w)
 have H : (if (a0_0 == a1_0) = true then ((papermilllaw22_limbs.f k l0_1 l1_1).bind fun t568 => (if t568 = true then ((papermilllaw22_limbs.f k l0_2 l1_2).bind fun t569 => (some t569)) else (some false))) else (some false)) = some r := h
 clear h
 by_cases c3 : (a0_0 == a1_0) = true
 ·rw [if_pos c3] at H
  have c3b0 : (a0_0 == a1_0) = true := c3
  (try (have c3b1 : decide (a0_0 = a1_0) = true := by simpa using c3))
  (try (have c3b2 : (a0_0 == a1_0) = true := by simpa using c3))
  clear c3
  replace H := Option.bind_eq_some_iff.mp H
  obtain ⟨t568, A40, H⟩ := H
  replace H : (if t568 = true then ((papermilllaw22_limbs.f k l0_2 l1_2).bind fun t569 => (some t569)) else (some false)) = some r := H
  have A4 := Aside0.mk A40
  clear A40
  by_cases c5 : t568 = true
  ·subst c5
   have H1 : ((papermilllaw22_limbs.f k l0_2 l1_2).bind fun t569 => (some t569)) = some r := by rw [if_pos rfl] at H; exact H
   clear H
   have H := H1
   clear H1
   replace H := Option.bind_eq_some_iff.mp H
   obtain ⟨t569, A60, H⟩ := H
   replace H : (some t569) = some r := H
   have A6 := Aside0.mk A60
   clear A60
   obtain rfl := Option.some.inj H
   go_enter Try.func14, Try.ntmps14
   go_wp2_with (first | ((with_reducible refine gate_dst (N := 2) rfl ?_); refine box_event ?hg (N := 2) ?hd (cs := #[.bool a0_0, .slice A0_1 l0_1.length c0_1, .slice A0_2 l0_2.length c0_2]) (t := 27) ?hr ?_; (case hd => rfl); (case hg => rfl); (case hr => first | (go_simp; done) | (go_simp; rfl)); intro gb566 hg w7 hbox hb; have n0_ := Aside0.mk (below_step (by with_reducible repeat first | exact HB.out | apply below_alloc | apply pw_below_drewN | apply below_drew1) hb); have n1_ := Aside0.mk (hbox); have n2_ := Aside0.mk ((by rw [hg]; exact (below_size (by with_reducible repeat first | exact HB.out | apply below_alloc | apply pw_below_drewN | apply below_drew1)) : w.heap.size ≤ gb566)); have n3_ := Aside0.mk ((by rw [hg]; exact (below_size (by with_reducible repeat first | exact HB.out | apply below_alloc | apply pw_below_drewN | apply below_drew1)) : w.heap.size ≤ gb566)); clear HB; have HB := n0_; have BK566 := n1_; have GW566 := n2_; have GE566 := n3_; clear n0_ n1_ n2_ n3_; clear hb hbox hg) | ((with_reducible refine gate_dst (N := 3) rfl ?_); refine box_event ?hg (N := 3) ?hd (cs := #[.bool a1_0, .slice A1_1 l1_1.length c1_1, .slice A1_2 l1_2.length c1_2]) (t := 27) ?hr ?_; (case hd => rfl); (case hg => rfl); (case hr => first | (go_simp; done) | (go_simp; rfl)); intro gb567 hg w8 hbox hb; have n0_ := Aside0.mk (blk_below (g := gb566) (o := .cells #[.bool a0_0, .slice A0_1 l0_1.length c0_1, .slice A0_2 l0_2.length c0_2] 27 (0, 0)) (by (with_reducible repeat (first | refine blk_drewN ?_ _ | refine blk_drew ?_ | refine blk_alloc ?_ _)); exact BK566.out) hb); have n1_ := Aside0.mk (below_step (by repeat (first | (with_reducible first | exact HB.out | apply below_alloc | apply pw_below_drewN | apply below_drew1 | refine below_set ?_ GE566.out) | exact HB.out)) hb); have n2_ := Aside0.mk (hbox); have n3_ := Aside0.mk ((by rw [hg]; exact (below_size (by repeat (first | (with_reducible first | exact HB.out | apply below_alloc | apply pw_below_drewN | apply below_drew1 | refine below_set ?_ GE566.out) | exact HB.out))) : w.heap.size ≤ gb567)); have n4_ := Aside0.mk ((by rw [hg]; exact (below_size (by repeat (first | (with_reducible first | exact HB.out | apply below_alloc | apply pw_below_drewN | apply below_drew1 | refine below_set ?_ GE566.out) | exact HB.out))) : w.heap.size ≤ gb567)); have n5_ := Aside0.mk ((by rw [hg]; exact Nat.ne_of_lt (blk_lt (g := gb566) (o := .cells #[.bool a0_0, .slice A0_1 l0_1.length c0_1, .slice A0_2 l0_2.length c0_2] 27 (0, 0)) (by (with_reducible repeat (first | refine blk_drewN ?_ _ | refine blk_drew ?_ | refine blk_alloc ?_ _)); exact BK566.out)) : gb566 ≠ gb567)); have n6_ := Aside0.mk ((by rw [hg]; exact Nat.ne_of_gt (blk_lt (g := gb566) (o := .cells #[.bool a0_0, .slice A0_1 l0_1.length c0_1, .slice A0_2 l0_2.length c0_2] 27 (0, 0)) (by (with_reducible repeat (first | refine blk_drewN ?_ _ | refine blk_drew ?_ | refine blk_alloc ?_ _)); exact BK566.out)) : gb567 ≠ gb566)); clear BK566; clear HB; have BK566 := n0_; have HB := n1_; have BK567 := n2_; have GW567 := n3_; have GE567 := n4_; have NB566_567 := n5_; have NB567_566 := n6_; clear n0_ n1_ n2_ n3_ n4_ n5_ n6_; clear hb hbox hg; have hnb9 := NB566_567.out; have hnc9 := NB567_566.out; have hcz10_0 : w8.cell? ⟨gb566, 0, none⟩ = some (.bool a0_0) := (blk_cell BK566.out 0).trans rfl; have hcz10_1 : w8.cell? ⟨gb566, 1, none⟩ = some (.slice A0_1 l0_1.length c0_1) := (blk_cell BK566.out 1).trans rfl; have hcz10_2 : w8.cell? ⟨gb566, 2, none⟩ = some (.slice A0_2 l0_2.length c0_2) := (blk_cell BK566.out 2).trans rfl; have hfz10_0 := blk_frozen BK566.out 0; have hfz10_1 := blk_frozen BK566.out 1; have hfz10_2 := blk_frozen BK566.out 2; have hcz11_0 : w8.cell? ⟨gb567, 0, none⟩ = some (.bool a1_0) := (blk_cell BK567.out 0).trans rfl; have hcz11_1 : w8.cell? ⟨gb567, 1, none⟩ = some (.slice A1_1 l1_1.length c1_1) := (blk_cell BK567.out 1).trans rfl; have hcz11_2 : w8.cell? ⟨gb567, 2, none⟩ = some (.slice A1_2 l1_2.length c1_2) := (blk_cell BK567.out 2).trans rfl; have hfz11_0 := blk_frozen BK567.out 0; have hfz11_1 := blk_frozen BK567.out 1; have hfz11_2 := blk_frozen BK567.out 2) | (go_at_call 30; (with_reducible refine (papermilllaw22_limbs.calls k _ _ l0_1 _ _ l1_1 true _ ?side1 ?side2 ?side3 ?side4 A4.out).mono ?_); (case side1 => with_reducible repeat first | exact (Kd.C_below HR0_1.out HB.out) | apply Kd.C_alloc | apply Kd.C_drewN | apply Kd.C_drew); (case side2 => exact HC0_1.out); (case side3 => with_reducible repeat first | exact (Kd.C_below HR1_1.out HB.out) | apply Kd.C_alloc | apply Kd.C_drewN | apply Kd.C_drew); (case side4 => exact HC1_1.out); rintro e w' ⟨rfl, ⟨nd, rfl⟩⟩) | (go_at_call 30; (with_reducible refine (papermilllaw22_limbs.calls k _ _ l0_2 _ _ l1_2 t569 _ ?side1 ?side2 ?side3 ?side4 A6.out).mono ?_); (case side1 => repeat (first | exact (Kd.C_below HR0_2.out (by repeat (first | (with_reducible first | exact HB.out | apply below_alloc | apply pw_below_drewN | apply below_drew1 | refine below_set ?_ GE566.out | refine below_set ?_ GE567.out) | exact HB.out))) | (with_reducible refine Kd.C_alloc ?_ _) | (with_reducible refine Kd.C_drewN ?_ _) | (with_reducible refine Kd.C_drew ?_))); (case side2 => exact HC0_2.out); (case side3 => repeat (first | exact (Kd.C_below HR1_2.out (by repeat (first | (with_reducible first | exact HB.out | apply below_alloc | apply pw_below_drewN | apply below_drew1 | refine below_set ?_ GE566.out | refine below_set ?_ GE567.out) | exact HB.out))) | (with_reducible refine Kd.C_alloc ?_ _) | (with_reducible refine Kd.C_drewN ?_ _) | (with_reducible refine Kd.C_drew ?_))); (case side4 => exact HC1_2.out); rintro e w' ⟨rfl, ⟨nd, rfl⟩⟩))
   go_ret
   exact ⟨by first | rfl | (simp [errW_none, errW_some] <;> rfl) | (simp [*, errW_none, errW_some] <;> rfl), by repeat (first | (with_reducible first | exact HB.out | apply below_alloc | apply pw_below_drewN | apply below_drew1 | refine below_set ?_ GE566.out | refine below_set ?_ GE567.out) | exact HB.out)⟩
  ·replace c5 := Bool.eq_false_iff.mpr c5
   subst c5
   have H1 : (some false) = some r := by rw [if_neg (show ¬ (false = true) by decide)] at H; exact H
   clear H
   have H := H1
   clear H1
   obtain rfl := Option.some.inj H
   go_enter Try.func14, Try.ntmps14
   go_wp2_with (first | ((with_reducible refine gate_dst (N := 2) rfl ?_); refine box_event ?hg (N := 2) ?hd (cs := #[.bool a0_0, .slice A0_1 l0_1.length c0_1, .slice A0_2 l0_2.length c0_2]) (t := 27) ?hr ?_; (case hd => rfl); (case hg => rfl); (case hr => first | (go_simp; done) | (go_simp; rfl)); intro gb566 hg w12 hbox hb; have n0_ := Aside0.mk (below_step (by with_reducible repeat first | exact HB.out | apply below_alloc | apply pw_below_drewN | apply below_drew1) hb); have n1_ := Aside0.mk (hbox); have n2_ := Aside0.mk ((by rw [hg]; exact (below_size (by with_reducible repeat first | exact HB.out | apply below_alloc | apply pw_below_drewN | apply below_drew1)) : w.heap.size ≤ gb566)); have n3_ := Aside0.mk ((by rw [hg]; exact (below_size (by with_reducible repeat first | exact HB.out | apply below_alloc | apply pw_below_drewN | apply below_drew1)) : w.heap.size ≤ gb566)); clear HB; have HB := n0_; have BK566 := n1_; have GW566 := n2_; have GE566 := n3_; clear n0_ n1_ n2_ n3_; clear hb hbox hg) | ((with_reducible refine gate_dst (N := 3) rfl ?_); refine box_event ?hg (N := 3) ?hd (cs := #[.bool a1_0, .slice A1_1 l1_1.length c1_1, .slice A1_2 l1_2.length c1_2]) (t := 27) ?hr ?_; (case hd => rfl); (case hg => rfl); (case hr => first | (go_simp; done) | (go_simp; rfl)); intro gb567 hg w13 hbox hb; have n0_ := Aside0.mk (blk_below (g := gb566) (o := .cells #[.bool a0_0, .slice A0_1 l0_1.length c0_1, .slice A0_2 l0_2.length c0_2] 27 (0, 0)) (by (with_reducible repeat (first | refine blk_drewN ?_ _ | refine blk_drew ?_ | refine blk_alloc ?_ _)); exact BK566.out) hb); have n1_ := Aside0.mk (below_step (by repeat (first | (with_reducible first | exact HB.out | apply below_alloc | apply pw_below_drewN | apply below_drew1 | refine below_set ?_ GE566.out) | exact HB.out)) hb); have n2_ := Aside0.mk (hbox); have n3_ := Aside0.mk ((by rw [hg]; exact (below_size (by repeat (first | (with_reducible first | exact HB.out | apply below_alloc | apply pw_below_drewN | apply below_drew1 | refine below_set ?_ GE566.out) | exact HB.out))) : w.heap.size ≤ gb567)); have n4_ := Aside0.mk ((by rw [hg]; exact (below_size (by repeat (first | (with_reducible first | exact HB.out | apply below_alloc | apply pw_below_drewN | apply below_drew1 | refine below_set ?_ GE566.out) | exact HB.out))) : w.heap.size ≤ gb567)); have n5_ := Aside0.mk ((by rw [hg]; exact Nat.ne_of_lt (blk_lt (g := gb566) (o := .cells #[.bool a0_0, .slice A0_1 l0_1.length c0_1, .slice A0_2 l0_2.length c0_2] 27 (0, 0)) (by (with_reducible repeat (first | refine blk_drewN ?_ _ | refine blk_drew ?_ | refine blk_alloc ?_ _)); exact BK566.out)) : gb566 ≠ gb567)); have n6_ := Aside0.mk ((by rw [hg]; exact Nat.ne_of_gt (blk_lt (g := gb566) (o := .cells #[.bool a0_0, .slice A0_1 l0_1.length c0_1, .slice A0_2 l0_2.length c0_2] 27 (0, 0)) (by (with_reducible repeat (first | refine blk_drewN ?_ _ | refine blk_drew ?_ | refine blk_alloc ?_ _)); exact BK566.out)) : gb567 ≠ gb566)); clear BK566; clear HB; have BK566 := n0_; have HB := n1_; have BK567 := n2_; have GW567 := n3_; have GE567 := n4_; have NB566_567 := n5_; have NB567_566 := n6_; clear n0_ n1_ n2_ n3_ n4_ n5_ n6_; clear hb hbox hg; have hnb14 := NB566_567.out; have hnc14 := NB567_566.out; have hcz15_0 : w13.cell? ⟨gb566, 0, none⟩ = some (.bool a0_0) := (blk_cell BK566.out 0).trans rfl; have hcz15_1 : w13.cell? ⟨gb566, 1, none⟩ = some (.slice A0_1 l0_1.length c0_1) := (blk_cell BK566.out 1).trans rfl; have hcz15_2 : w13.cell? ⟨gb566, 2, none⟩ = some (.slice A0_2 l0_2.length c0_2) := (blk_cell BK566.out 2).trans rfl; have hfz15_0 := blk_frozen BK566.out 0; have hfz15_1 := blk_frozen BK566.out 1; have hfz15_2 := blk_frozen BK566.out 2; have hcz16_0 : w13.cell? ⟨gb567, 0, none⟩ = some (.bool a1_0) := (blk_cell BK567.out 0).trans rfl; have hcz16_1 : w13.cell? ⟨gb567, 1, none⟩ = some (.slice A1_1 l1_1.length c1_1) := (blk_cell BK567.out 1).trans rfl; have hcz16_2 : w13.cell? ⟨gb567, 2, none⟩ = some (.slice A1_2 l1_2.length c1_2) := (blk_cell BK567.out 2).trans rfl; have hfz16_0 := blk_frozen BK567.out 0; have hfz16_1 := blk_frozen BK567.out 1; have hfz16_2 := blk_frozen BK567.out 2) | (go_at_call 30; (with_reducible refine (papermilllaw22_limbs.calls k _ _ l0_1 _ _ l1_1 false _ ?side1 ?side2 ?side3 ?side4 A4.out).mono ?_); (case side1 => with_reducible repeat first | exact (Kd.C_below HR0_1.out HB.out) | apply Kd.C_alloc | apply Kd.C_drewN | apply Kd.C_drew); (case side2 => exact HC0_1.out); (case side3 => with_reducible repeat first | exact (Kd.C_below HR1_1.out HB.out) | apply Kd.C_alloc | apply Kd.C_drewN | apply Kd.C_drew); (case side4 => exact HC1_1.out); rintro e w' ⟨rfl, ⟨nd, rfl⟩⟩))
   go_ret
   exact ⟨by first | rfl | (simp [errW_none, errW_some] <;> rfl) | (simp [*, errW_none, errW_some] <;> rfl), by repeat (first | (with_reducible first | exact HB.out | apply below_alloc | apply pw_below_drewN | apply below_drew1 | refine below_set ?_ GE566.out | refine below_set ?_ GE567.out) | exact HB.out)⟩
 ·rw [if_neg c3] at H
  have c3b0 : (a0_0 == a1_0) = false := by simpa using c3
  (try (have c3b1 : decide (a0_0 = a1_0) = false := by simpa using c3))
  (try (have c3b2 : (a0_0 == a1_0) = false := by simpa using c3))
  (try (have c3b3 : ¬ (a0_0 = a1_0) := by simpa using c3))
  clear c3
  obtain rfl := Option.some.inj H
  go_enter Try.func14, Try.ntmps14
  go_wp2_with (first | ((with_reducible refine gate_dst (N := 2) rfl ?_); refine box_event ?hg (N := 2) ?hd (cs := #[.bool a0_0, .slice A0_1 l0_1.length c0_1, .slice A0_2 l0_2.length c0_2]) (t := 27) ?hr ?_; (case hd => rfl); (case hg => rfl); (case hr => first | (go_simp; done) | (go_simp; rfl)); intro gb566 hg w17 hbox hb; have n0_ := Aside0.mk (below_step (by with_reducible repeat first | exact HB.out | apply below_alloc | apply pw_below_drewN | apply below_drew1) hb); have n1_ := Aside0.mk (hbox); have n2_ := Aside0.mk ((by rw [hg]; exact (below_size (by with_reducible repeat first | exact HB.out | apply below_alloc | apply pw_below_drewN | apply below_drew1)) : w.heap.size ≤ gb566)); have n3_ := Aside0.mk ((by rw [hg]; exact (below_size (by with_reducible repeat first | exact HB.out | apply below_alloc | apply pw_below_drewN | apply below_drew1)) : w.heap.size ≤ gb566)); clear HB; have HB := n0_; have BK566 := n1_; have GW566 := n2_; have GE566 := n3_; clear n0_ n1_ n2_ n3_; clear hb hbox hg) | ((with_reducible refine gate_dst (N := 3) rfl ?_); refine box_event ?hg (N := 3) ?hd (cs := #[.bool a1_0, .slice A1_1 l1_1.length c1_1, .slice A1_2 l1_2.length c1_2]) (t := 27) ?hr ?_; (case hd => rfl); (case hg => rfl); (case hr => first | (go_simp; done) | (go_simp; rfl)); intro gb567 hg w18 hbox hb; have n0_ := Aside0.mk (blk_below (g := gb566) (o := .cells #[.bool a0_0, .slice A0_1 l0_1.length c0_1, .slice A0_2 l0_2.length c0_2] 27 (0, 0)) (by (with_reducible repeat (first | refine blk_drewN ?_ _ | refine blk_drew ?_ | refine blk_alloc ?_ _)); exact BK566.out) hb); have n1_ := Aside0.mk (below_step (by repeat (first | (with_reducible first | exact HB.out | apply below_alloc | apply pw_below_drewN | apply below_drew1 | refine below_set ?_ GE566.out) | exact HB.out)) hb); have n2_ := Aside0.mk (hbox); have n3_ := Aside0.mk ((by rw [hg]; exact (below_size (by repeat (first | (with_reducible first | exact HB.out | apply below_alloc | apply pw_below_drewN | apply below_drew1 | refine below_set ?_ GE566.out) | exact HB.out))) : w.heap.size ≤ gb567)); have n4_ := Aside0.mk ((by rw [hg]; exact (below_size (by repeat (first | (with_reducible first | exact HB.out | apply below_alloc | apply pw_below_drewN | apply below_drew1 | refine below_set ?_ GE566.out) | exact HB.out))) : w.heap.size ≤ gb567)); have n5_ := Aside0.mk ((by rw [hg]; exact Nat.ne_of_lt (blk_lt (g := gb566) (o := .cells #[.bool a0_0, .slice A0_1 l0_1.length c0_1, .slice A0_2 l0_2.length c0_2] 27 (0, 0)) (by (with_reducible repeat (first | refine blk_drewN ?_ _ | refine blk_drew ?_ | refine blk_alloc ?_ _)); exact BK566.out)) : gb566 ≠ gb567)); have n6_ := Aside0.mk ((by rw [hg]; exact Nat.ne_of_gt (blk_lt (g := gb566) (o := .cells #[.bool a0_0, .slice A0_1 l0_1.length c0_1, .slice A0_2 l0_2.length c0_2] 27 (0, 0)) (by (with_reducible repeat (first | refine blk_drewN ?_ _ | refine blk_drew ?_ | refine blk_alloc ?_ _)); exact BK566.out)) : gb567 ≠ gb566)); clear BK566; clear HB; have BK566 := n0_; have HB := n1_; have BK567 := n2_; have GW567 := n3_; have GE567 := n4_; have NB566_567 := n5_; have NB567_566 := n6_; clear n0_ n1_ n2_ n3_ n4_ n5_ n6_; clear hb hbox hg; have hnb19 := NB566_567.out; have hnc19 := NB567_566.out; have hcz20_0 : w18.cell? ⟨gb566, 0, none⟩ = some (.bool a0_0) := (blk_cell BK566.out 0).trans rfl; have hcz20_1 : w18.cell? ⟨gb566, 1, none⟩ = some (.slice A0_1 l0_1.length c0_1) := (blk_cell BK566.out 1).trans rfl; have hcz20_2 : w18.cell? ⟨gb566, 2, none⟩ = some (.slice A0_2 l0_2.length c0_2) := (blk_cell BK566.out 2).trans rfl; have hfz20_0 := blk_frozen BK566.out 0; have hfz20_1 := blk_frozen BK566.out 1; have hfz20_2 := blk_frozen BK566.out 2; have hcz21_0 : w18.cell? ⟨gb567, 0, none⟩ = some (.bool a1_0) := (blk_cell BK567.out 0).trans rfl; have hcz21_1 : w18.cell? ⟨gb567, 1, none⟩ = some (.slice A1_1 l1_1.length c1_1) := (blk_cell BK567.out 1).trans rfl; have hcz21_2 : w18.cell? ⟨gb567, 2, none⟩ = some (.slice A1_2 l1_2.length c1_2) := (blk_cell BK567.out 2).trans rfl; have hfz21_0 := blk_frozen BK567.out 0; have hfz21_1 := blk_frozen BK567.out 1; have hfz21_2 := blk_frozen BK567.out 2))
  go_ret
  exact ⟨by first | rfl | (simp [errW_none, errW_some] <;> rfl) | (simp [*, errW_none, errW_some] <;> rfl), by repeat (first | (with_reducible first | exact HB.out | apply below_alloc | apply pw_below_drewN | apply below_drew1 | refine below_set ?_ GE566.out | refine below_set ?_ GE567.out) | exact HB.out)⟩

end Go.Proofs.Ytnkmeocccbkdkaa.P

namespace Go.Proofs.Ytnkmeocccbkdkaa.P
open Go.RowKit Go.Proofs.YtnkmeocccbkdkaaW.PrintWords Go.Proofs.YtnkmeocccbkdkaaW.PrintLast Go.Proofs.YtnkmeocccbkdkaaW.PrintMore
attribute [local go_sem] max2_int min2_int max_two min_two max_three min_three max_four min_four   -- for this text's walks alone
set_option linter.unusedVariables false
set_option linter.unusedSimpArgs false

/-! ### broke_Level: function 31 -/
def broke_Level.l0 : Nat → List (S63) → Int → Int → Int → Int → Option (Int × Int)
  | 0, _, _, _, _, _ => none
  | k + 1, x0, x2, x9, x18, x19 => if x19 < x18 then (if 0 ≤ x19 then (if x19 < (x0.length : Int) then (if ((rd_T63 x0 x19).f0) ≤ x2 then ((broke_signed.f k ((rd_T63 x0 x19).f0) ((rd_T63 x0 x19).f1) ((rd_T63 x0 x19).f2) ((rd_T63 x0 x19).f3)).bind fun t573 => (broke_Level.l0 k x0 x2 (wrap64 (x9 + t573)) x18 (wrap64 (x19 + 1)))) else (broke_Level.l0 k x0 x2 x9 x18 (wrap64 (x19 + 1)))) else (none)) else (none)) else (some (x9, 0))
def broke_Level.f (k : Nat) (l0 : List (S63)) (a1 : Int) (a2 : Int) : Option (Int × Int) := (broke_Check.f k l0 a1).bind fun t570 => (if t570 = 0 then (broke_Level.l0 k l0 a2 0 (l0.length : Int) 0) else (some (0, t570)))
theorem broke_Level.mono_l : ∀ k, (∀ y0 y1 y2 y3 y4, LeO (broke_Level.l0 k y0 y1 y2 y3 y4) (broke_Level.l0 (k + 1) y0 y1 y2 y3 y4))
  | 0 => fun _ _ _ _ _ r h => by simp [broke_Level.l0] at h
  | k + 1 => by
    have ih0 := broke_Level.mono_l k
    · intro y0 y1 y2 y3 y4
      unfold broke_Level.l0
      repeat' first
      | (with_reducible exact ih0 _ _ _ _ _)
      | (with_reducible exact broke_Check.mono _ _ _)
      | (with_reducible exact broke_signed.mono _ _ _ _ _)
      | (with_reducible exact LeO.refl _)
      | (with_reducible exact LeO.none _)
      | (with_reducible refine LeO.ite ?_ ?_)
      | (with_reducible refine LeO.bind ?_ (fun _ => ?_))
      | exact ih0 _ _ _ _ _
      | exact broke_Check.mono _ _ _
      | exact broke_signed.mono _ _ _ _ _
      | exact LeO.none _
      | refine LeO.ite ?_ ?_
      | refine LeO.bind ?_ (fun _ => ?_)
theorem broke_Level.mono : ∀ a0 a1 a2 k, LeO (broke_Level.f k a0 a1 a2) (broke_Level.f (k + 1) a0 a1 a2) := by
  intro a0 a1 a2 k
  have ih0 := broke_Level.mono_l k
  unfold broke_Level.f
  repeat' first
      | (with_reducible exact ih0 _ _ _ _ _)
      | (with_reducible exact broke_Check.mono _ _ _)
      | (with_reducible exact broke_signed.mono _ _ _ _ _)
      | (with_reducible exact LeO.refl _)
      | (with_reducible exact LeO.none _)
      | (with_reducible refine LeO.ite ?_ ?_)
      | (with_reducible refine LeO.bind ?_ (fun _ => ?_))
      | exact ih0 _ _ _ _ _
      | exact broke_Check.mono _ _ _
      | exact broke_signed.mono _ _ _ _ _
      | exact LeO.none _
      | refine LeO.ite ?_ ?_
      | refine LeO.bind ?_ (fun _ => ?_)
open List (setIfInBounds_toArray set_cons_zero set_cons_succ)
set_option maxHeartbeats 8000000 in
set_option maxRecDepth 100000 in
theorem broke_Level.calls (k : Nat) (A0 : Option Addr) (c0 : Nat) (l0 : List (S63)) (a1 : Int) (a2 : Int) (r1 : Int) (r2 : Int) (w : World) (hr0 : Kd.C k63 w A0 l0.length l0) (hc0 : l0.length ≤ c0) (h : broke_Level.f k l0 a1 a2 = some (r1, r2)) :
  Calls Try.prog 31 #[.slice A0 l0.length c0, .int .i64 a1, .int .i64 a2] w fun e w' => e = .returned (.tuple #[.int .i64 r1, .int .i64 r2]) ∧ Below w.heap.size w w' := by
 have hu63 := Try.underlying63
 have HR0 := Aside0.mk hr0
 have HC0 := Aside0.mk hc0
 clear hr0 hc0
 have HB := Aside0.mk (Below.refl w.heap.size w)
 have H : ((broke_Check.f k l0 a1).bind fun t570 => (if t570 = 0 then (broke_Level.l0 k l0 a2 0 (l0.length : Int) 0) else (some (0, t570)))) = some (r1, r2) := h
 clear h
 replace H := Option.bind_eq_some_iff.mp H
 obtain ⟨t570, A40, H⟩ := H
 replace H : (if t570 = 0 then (broke_Level.l0 k l0 a2 0 (l0.length : Int) 0) else (some (0, t570))) = some (r1, r2) := H
 have A4 := Aside0.mk A40
 clear A40
 by_cases c5 : t570 = 0
 ·rw [if_pos c5] at H
  have c5b0 : (t570 == 0) = true := beq_iff_eq.mpr c5
  have c5b1 : (t570 != 0) = false := bne_eq_false_iff_eq.mpr c5
  clear c5
  have H' := Aside0.mk H
  clear H
  go_enter Try.func31, Try.ntmps31
  go_wp2_with (first | ((with_reducible refine gate_callee (f := 27) rfl ?_); refine goesL_ (some 13) rfl rfl Try.func27 (by kernel_rfl) rfl #[.slice A0 l0.length c0, .int .i64 a1] rfl (by (try simp only [List.map_toArray, List.map_cons, List.map_nil]); first | done | rfl | (simp only [List.length_drop, List.length_take]; rfl)) ?_; (with_reducible refine (broke_Check.calls k _ _ l0 a1 t570 _ ?side1 ?side2 A4.out).mono ?_); (case side1 => with_reducible repeat first | exact HR0.out | apply Kd.C_alloc | apply Kd.C_drewN | apply Kd.C_drew); (case side2 => exact HC0.out); rintro e w6 ⟨rfl, hb⟩; refine ⟨_, rfl, ?_⟩; have n0_ := Aside0.mk (below_step (by with_reducible repeat first | exact HB.out | apply below_alloc | apply pw_below_drewN | apply below_drew1) hb); clear HB; have HB := n0_; clear n0_))
  go_loopg [9, 19] k (fun kq v9 v19 w' => ∃ (x9_1 : Int) (x19_1 : Int), v9 = .int .i64 x9_1 ∧ v19 = .int .i64 x19_1 ∧ Aside0 (broke_Level.l0 kq l0 a2 x9_1 (l0.length : Int) x19_1 = some (r1, r2)) ∧ Aside0 (kq ≤ k) ∧ Aside0 (Below w.heap.size w w'))
  case atStart => exact ⟨(0), (0), (by first | rfl | (simp; done) | (simp [*]; done)), (by first | rfl | (simp; done) | (simp [*]; done)), H', ⟨Nat.le_refl _⟩, ⟨by with_reducible repeat first | exact HB.out | apply below_alloc | apply pw_below_drewN | apply below_drew1⟩⟩
  case round =>
   clear H'
   obtain ⟨x9_1, x19_1, rfl, rfl, HA, HK1, HB⟩ := hrel
   cases gk with
   | zero => exact absurd HA.out (by simp [broke_Level.l0])
   | succ k1 =>
    have H := HA.out
    clear HA
    simp only [broke_Level.l0] at H
    by_cases c7 : x19_1 < (l0.length : Int)
    ·rw [if_pos c7] at H
     have c7b0 : decide (x19_1 < (l0.length : Int)) = true := decide_eq_true c7
     clear c7
     by_cases c8 : 0 ≤ x19_1
     ·rw [if_pos c8] at H
      have c8b0 : decide (0 ≤ x19_1) = true := decide_eq_true c8
      clear c8
      by_cases c9 : x19_1 < (l0.length : Int)
      ·rw [if_pos c9] at H
       have c9b0 : decide (x19_1 < (l0.length : Int)) = true := decide_eq_true c9
       clear c9
       by_cases c10 : ((rd_T63 l0 x19_1).f0) ≤ a2
       ·rw [if_pos c10] at H
        have c10b0 : decide (((rd_T63 l0 x19_1).f0) ≤ a2) = true := decide_eq_true c10
        clear c10
        replace H := Option.bind_eq_some_iff.mp H
        obtain ⟨t573, A110, H⟩ := H
        replace H : (broke_Level.l0 k1 l0 a2 (wrap64 (x9_1 + t573)) (l0.length : Int) (wrap64 (x19_1 + 1))) = some (r1, r2) := H
        have A11 := Aside0.mk A110
        clear A110
        have H' := Aside0.mk H
        clear H
        have p571 : 0 ≤ (x19_1 : Int) := of_decide_eq_true (by assumption)
        have q571 : x19_1 < (l0.length : Int) := of_decide_eq_true (by assumption)
        obtain ⟨ad571, e571, hx571_0, hx571_1, hx571_2, hx571_3⟩ := at_T63 HR0.out x19_1 p571 q571
        cases e571
        replace hx571_0 := (HB.out.cell (World.block_lt_of_cell? w _ hx571_0)).trans hx571_0
        replace hx571_1 := (HB.out.cell (World.block_lt_of_cell? w _ hx571_1)).trans hx571_1
        replace hx571_2 := (HB.out.cell (World.block_lt_of_cell? w _ hx571_2)).trans hx571_2
        replace hx571_3 := (HB.out.cell (World.block_lt_of_cell? w _ hx571_3)).trans hx571_3
        replace p571 := eq_true p571
        replace q571 := eq_true q571
        have p572 : 0 ≤ (x19_1 : Int) := of_decide_eq_true (by assumption)
        have q572 : x19_1 < (l0.length : Int) := of_decide_eq_true (by assumption)
        obtain ⟨ad572, e572, hx572_0, hx572_1, hx572_2, hx572_3⟩ := at_T63 HR0.out x19_1 p572 q572
        obtain rfl : ad571 = ad572 := (by injection e572)
        replace hx572_0 := (HB.out.cell (World.block_lt_of_cell? w _ hx572_0)).trans hx572_0
        replace hx572_1 := (HB.out.cell (World.block_lt_of_cell? w _ hx572_1)).trans hx572_1
        replace hx572_2 := (HB.out.cell (World.block_lt_of_cell? w _ hx572_2)).trans hx572_2
        replace hx572_3 := (HB.out.cell (World.block_lt_of_cell? w _ hx572_3)).trans hx572_3
        replace p572 := eq_true p572
        replace q572 := eq_true q572
        go_wp2_with (first | ((with_reducible refine gate_callee (f := 46) rfl ?_); refine goesL_ (some 34) rfl rfl Try.func46 (by kernel_rfl) rfl #[.agg #[.int .i64 ((rd_T63 l0 x19_1).f0), .int .i64 ((rd_T63 l0 x19_1).f1), .int .i64 ((rd_T63 l0 x19_1).f2), .int .i64 ((rd_T63 l0 x19_1).f3)]] rfl (by (try simp only [List.map_toArray, List.map_cons, List.map_nil]); first | done | rfl | (simp only [List.length_drop, List.length_take]; rfl)) ?_; (with_reducible refine (broke_signed.calls k1 ((rd_T63 l0 x19_1).f0) ((rd_T63 l0 x19_1).f1) ((rd_T63 l0 x19_1).f2) ((rd_T63 l0 x19_1).f3) t573 _ A11.out).mono ?_); rintro e w12 ⟨rfl, hb⟩; refine ⟨_, rfl, ?_⟩; have n0_ := Aside0.mk (below_step (by with_reducible repeat first | exact HB.out | apply below_alloc | apply pw_below_drewN | apply below_drew1) hb); clear HB; have HB := n0_; clear n0_))
        go_roundg k1
        case measure => have := HK1.out; omega
        case rel => exact ⟨(wrap64 (x9_1 + t573)), (wrap64 (x19_1 + 1)), (by first | rfl | (simp; done) | (simp [*]; done)), (by first | rfl | (simp; done) | (simp [*]; done)), H', ⟨by have := HK1.out; omega⟩, ⟨by with_reducible repeat first | exact HB.out | apply below_alloc | apply pw_below_drewN | apply below_drew1⟩⟩
       ·rw [if_neg c10] at H
        have c10b0 : decide (((rd_T63 l0 x19_1).f0) ≤ a2) = false := decide_eq_false c10
        clear c10
        have H' := Aside0.mk H
        clear H
        have p571 : 0 ≤ (x19_1 : Int) := of_decide_eq_true (by assumption)
        have q571 : x19_1 < (l0.length : Int) := of_decide_eq_true (by assumption)
        obtain ⟨ad571, e571, hx571_0, hx571_1, hx571_2, hx571_3⟩ := at_T63 HR0.out x19_1 p571 q571
        cases e571
        replace hx571_0 := (HB.out.cell (World.block_lt_of_cell? w _ hx571_0)).trans hx571_0
        replace hx571_1 := (HB.out.cell (World.block_lt_of_cell? w _ hx571_1)).trans hx571_1
        replace hx571_2 := (HB.out.cell (World.block_lt_of_cell? w _ hx571_2)).trans hx571_2
        replace hx571_3 := (HB.out.cell (World.block_lt_of_cell? w _ hx571_3)).trans hx571_3
        replace p571 := eq_true p571
        replace q571 := eq_true q571
        go_wp2
        go_roundg k1
        case measure => have := HK1.out; omega
        case rel => exact ⟨(x9_1), (wrap64 (x19_1 + 1)), (by first | rfl | (simp; done) | (simp [*]; done)), (by first | rfl | (simp; done) | (simp [*]; done)), H', ⟨by have := HK1.out; omega⟩, ⟨by with_reducible repeat first | exact HB.out | apply below_alloc | apply pw_below_drewN | apply below_drew1⟩⟩
      ·rw [if_neg c9] at H
       exact absurd H (by simp)
     ·rw [if_neg c8] at H
      exact absurd H (by simp)
    ·rw [if_neg c7] at H
     have c7b0 : decide (x19_1 < (l0.length : Int)) = false := decide_eq_false c7
     clear c7
     simp only [Option.some.injEq, Prod.mk.injEq] at H
     obtain ⟨rfl, rfl⟩ := H
     go_wp2
     go_ret2
     exact ⟨by first | rfl | (simp [errW_none, errW_some] <;> rfl) | (simp [*, errW_none, errW_some] <;> rfl), by with_reducible repeat first | exact HB.out | apply below_alloc | apply pw_below_drewN | apply below_drew1⟩
 ·rw [if_neg c5] at H
  have c5b0 : (t570 == 0) = false := beq_eq_false_iff_ne.mpr c5
  have c5b1 : (t570 != 0) = true := bne_iff_ne.mpr c5
  simp only [Option.some.injEq, Prod.mk.injEq] at H
  obtain ⟨rfl, rfl⟩ := H
  go_enter Try.func31, Try.ntmps31
  go_wp2_with (first | ((with_reducible refine gate_callee (f := 27) rfl ?_); refine goesL_ (some 13) rfl rfl Try.func27 (by kernel_rfl) rfl #[.slice A0 l0.length c0, .int .i64 a1] rfl (by (try simp only [List.map_toArray, List.map_cons, List.map_nil]); first | done | rfl | (simp only [List.length_drop, List.length_take]; rfl)) ?_; (with_reducible refine (broke_Check.calls k _ _ l0 a1 t570 _ ?side1 ?side2 A4.out).mono ?_); (case side1 => with_reducible repeat first | exact HR0.out | apply Kd.C_alloc | apply Kd.C_drewN | apply Kd.C_drew); (case side2 => exact HC0.out); rintro e w13 ⟨rfl, hb⟩; refine ⟨_, rfl, ?_⟩; have n0_ := Aside0.mk (below_step (by with_reducible repeat first | exact HB.out | apply below_alloc | apply pw_below_drewN | apply below_drew1) hb); clear HB; have HB := n0_; clear n0_))
  go_ret2
  exact ⟨by first | rfl | (simp [errW_none, errW_some] <;> rfl) | (simp [*, errW_none, errW_some] <;> rfl), by with_reducible repeat first | exact HB.out | apply below_alloc | apply pw_below_drewN | apply below_drew1⟩

/-! ### num_in: function 54 -/
def num_in.l0 : Nat → List Int → Int → Int → Option (Bool)
 | 0, _, _, _ => none
 | k + 1, x5, x6, x7 => if x7 < x6 then (if 0 ≤ x7 then (if x7 < (x5.length : Int) then (if (rd x5 x7) < (-1125899906842624) then (some false) else (if (rd x5 x7) > 1125899906842624 then (some false) else (num_in.l0 k x5 x6 (wrap64 (x7 + 1))))) else (none)) else (none)) else (some true)
def num_in.f (k : Nat) (l0 : List Int) : Option (Bool) := num_in.l0 k l0 (l0.length : Int) 0
theorem num_in.mono_l : ∀ k, (∀ y0 y1 y2, LeO (num_in.l0 k y0 y1 y2) (num_in.l0 (k + 1) y0 y1 y2))
 | 0 => fun _ _ _ r h => by simp [num_in.l0] at h
 | k + 1 => by
  have ih0 := num_in.mono_l k
  ·intro y0 y1 y2
   unfold num_in.l0
   repeat' first
   | (with_reducible exact ih0 _ _ _)
   | (with_reducible exact LeO.refl _)
   | (with_reducible exact LeO.none _)
   | (with_reducible refine LeO.ite ?_ ?_)
   | (with_reducible refine LeO.bind ?_ (fun _ => ?_))
   | exact ih0 _ _ _
   | exact LeO.none _
   | refine LeO.ite ?_ ?_
   | refine LeO.bind ?_ (fun _ => ?_)
theorem num_in.mono : ∀ a0 k, LeO (num_in.f k a0) (num_in.f (k + 1) a0) := by
 intro a0 k
 have ih0 := num_in.mono_l k
 unfold num_in.f
 repeat' first
   | (with_reducible exact ih0 _ _ _)
   | (with_reducible exact LeO.refl _)
   | (with_reducible exact LeO.none _)
   | (with_reducible refine LeO.ite ?_ ?_)
   | (with_reducible refine LeO.bind ?_ (fun _ => ?_))
   | exact ih0 _ _ _
   | exact LeO.none _
   | refine LeO.ite ?_ ?_
   | refine LeO.bind ?_ (fun _ => ?_)
set_option maxHeartbeats 8000000 in
set_option maxRecDepth 100000 in
theorem num_in.calls (k : Nat) (A0 : Option Addr) (c0 : Nat) (l0 : List Int) (r : Bool) (w : World) (hr0 : Kd.C (Kd.int .i64) w A0 l0.length l0) (hc0 : l0.length ≤ c0) (h : num_in.f k l0 = some r) :
  Calls Try.prog 54 #[.slice A0 l0.length c0] w fun e w' => e = .returned (.bool r) ∧ Drawn0 w w' := by
 have HR0 := Aside0.mk hr0
 have HC0 := Aside0.mk hc0
 clear hr0 hc0
 have H : (num_in.l0 k l0 (l0.length : Int) 0) = some r := h
 clear h
 have H' := Aside0.mk H
 clear H
 go_enter Try.func54, Try.ntmps54
 go_wp2
 go_loopg [7] k (fun kq v7 w' => ∃ (x7_1 : Int), v7 = .int .i64 x7_1 ∧ Aside0 (num_in.l0 kq l0 (l0.length : Int) x7_1 = some r) ∧ Aside0 (kq ≤ k) ∧ Drawn0 w w')
 case atStart => exact ⟨(0), (by first | rfl | (simp; done) | (simp [*]; done)), H', ⟨Nat.le_refl _⟩, by repeat (first | exact Drawn0.refl _ | apply Drawn0.step)⟩
 case round =>
  clear H'
  obtain ⟨x7_1, rfl, HA, HK1, ⟨m1, rfl⟩⟩ := hrel
  cases gk with
  | zero => exact absurd HA.out (by simp [num_in.l0])
  | succ k1 =>
   have H := HA.out
   clear HA
   simp only [num_in.l0] at H
   by_cases c2 : x7_1 < (l0.length : Int)
   ·rw [if_pos c2] at H
    have c2b0 : decide (x7_1 < (l0.length : Int)) = true := decide_eq_true c2
    clear c2
    by_cases c3 : 0 ≤ x7_1
    ·rw [if_pos c3] at H
     have c3b0 : decide (0 ≤ x7_1) = true := decide_eq_true c3
     clear c3
     by_cases c4 : x7_1 < (l0.length : Int)
     ·rw [if_pos c4] at H
      have c4b0 : decide (x7_1 < (l0.length : Int)) = true := decide_eq_true c4
      clear c4
      by_cases c5 : (rd l0 x7_1) < (-1125899906842624)
      ·rw [if_pos c5] at H
       have c5b0 : decide ((rd l0 x7_1) < (-1125899906842624)) = true := decide_eq_true c5
       clear c5
       obtain rfl := Option.some.inj H
       have p574 : 0 ≤ (x7_1 : Int) := of_decide_eq_true (by assumption)
       have q574 : x7_1 < (l0.length : Int) := of_decide_eq_true (by assumption)
       obtain ⟨ad574, e574, hx574_0⟩ := Kd.at_int HR0.out x7_1 p574 q574
       cases e574
       replace p574 := eq_true p574
       replace q574 := eq_true q574
       go_wp2
       go_ret
       exact ⟨by first | rfl | (simp; done) | (simp [*]; done), by repeat (first | exact Drawn0.refl _ | apply Drawn0.step)⟩
      ·rw [if_neg c5] at H
       have c5b0 : decide ((rd l0 x7_1) < (-1125899906842624)) = false := decide_eq_false c5
       clear c5
       by_cases c6 : (rd l0 x7_1) > 1125899906842624
       ·rw [if_pos c6] at H
        have c6b0 : decide (1125899906842624 < (rd l0 x7_1)) = true := decide_eq_true c6
        clear c6
        obtain rfl := Option.some.inj H
        have p574 : 0 ≤ (x7_1 : Int) := of_decide_eq_true (by assumption)
        have q574 : x7_1 < (l0.length : Int) := of_decide_eq_true (by assumption)
        obtain ⟨ad574, e574, hx574_0⟩ := Kd.at_int HR0.out x7_1 p574 q574
        cases e574
        replace p574 := eq_true p574
        replace q574 := eq_true q574
        go_wp2
        go_ret
        exact ⟨by first | rfl | (simp; done) | (simp [*]; done), by repeat (first | exact Drawn0.refl _ | apply Drawn0.step)⟩
       ·rw [if_neg c6] at H
        have c6b0 : decide (1125899906842624 < (rd l0 x7_1)) = false := decide_eq_false c6
        clear c6
        have H' := Aside0.mk H
        clear H
        have p574 : 0 ≤ (x7_1 : Int) := of_decide_eq_true (by assumption)
        have q574 : x7_1 < (l0.length : Int) := of_decide_eq_true (by assumption)
        obtain ⟨ad574, e574, hx574_0⟩ := Kd.at_int HR0.out x7_1 p574 q574
        cases e574
        replace p574 := eq_true p574
        replace q574 := eq_true q574
        go_wp2
        go_roundg k1
        case measure => have := HK1.out; omega
        case rel => exact ⟨(wrap64 (x7_1 + 1)), (by first | rfl | (simp; done) | (simp [*]; done)), H', ⟨by have := HK1.out; omega⟩, by repeat (first | exact Drawn0.refl _ | apply Drawn0.step)⟩
     ·rw [if_neg c4] at H
      exact absurd H (by simp)
    ·rw [if_neg c3] at H
     exact absurd H (by simp)
   ·rw [if_neg c2] at H
    have c2b0 : decide (x7_1 < (l0.length : Int)) = false := decide_eq_false c2
    clear c2
    obtain rfl := Option.some.inj H
    go_wp2
    go_ret
    exact ⟨by first | rfl | (simp; done) | (simp [*]; done), by repeat (first | exact Drawn0.refl _ | apply Drawn0.step)⟩

end Go.Proofs.Ytnkmeocccbkdkaa.P

namespace Go.Proofs.Ytnkmeocccbkdkaa.P
open Go.RowKit Go.Proofs.YtnkmeocccbkdkaaW.PrintWords Go.Proofs.YtnkmeocccbkdkaaW.PrintLast Go.Proofs.YtnkmeocccbkdkaaW.PrintMore
attribute [local go_sem] max2_int min2_int max_two min_two max_three min_three max_four min_four   -- for this text's walks alone
set_option linter.unusedVariables false
set_option linter.unusedSimpArgs false

/-! ### num_size: function 56 -/
def num_size.f (a0 : Int) : Option (Int) := if a0 < 0 then (some (IntKind.u64.wrap (wrap64 (-a0)))) else (some (IntKind.u64.wrap (a0)))
set_option maxHeartbeats 8000000 in
set_option maxRecDepth 100000 in
theorem num_size.calls (a0 : Int) (r : Int) (w : World) (h : num_size.f a0 = some r) :
    Calls Try.prog 56 #[.int .i64 a0] w fun e w' => e = .returned (.int .u64 r) ∧ Drawn0 w w' := by
  have H : (if a0 < 0 then (some (IntKind.u64.wrap (wrap64 (-a0)))) else (some (IntKind.u64.wrap (a0)))) = some r := h
  clear h
  by_cases c2 : a0 < 0
  · rw [if_pos c2] at H
    have c2b0 : decide (a0 < 0) = true := decide_eq_true c2
    clear c2
    obtain rfl := Option.some.inj H
    go_enter Try.func56, Try.ntmps56
    go_wp2
    go_ret
    exact ⟨by first | rfl | (simp; done) | (simp [*]; done), by repeat (first | exact Drawn0.refl _ | apply Drawn0.step)⟩
  · rw [if_neg c2] at H
    have c2b0 : decide (a0 < 0) = false := decide_eq_false c2
    clear c2
    obtain rfl := Option.some.inj H
    go_enter Try.func56, Try.ntmps56
    go_wp2
    go_ret
    exact ⟨by first | rfl | (simp; done) | (simp [*]; done), by repeat (first | exact Drawn0.refl _ | apply Drawn0.step)⟩

end Go.Proofs.Ytnkmeocccbkdkaa.P
