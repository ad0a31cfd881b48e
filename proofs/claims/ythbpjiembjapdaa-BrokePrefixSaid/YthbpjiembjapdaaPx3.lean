-- Written by a program (wip/prog/pp.py) over the kit's print; some of its functions are proved by hand. Not trusted: Lean checks it.
import Derived.Test.YthbpjiembjapdaaPx0
import Derived.Test.YthbpjiembjapdaaPx1
import Derived.Test.YthbpjiembjapdaaPx2
namespace Go.Proofs.Ythbpjiembjapdaa.P
open Go.RowKit Go.Proofs.YthbpjiembjapdaaW.PrintWords Go.Proofs.YthbpjiembjapdaaW.PrintLast Go.Proofs.YthbpjiembjapdaaW.PrintMore
attribute [local go_sem] max2_int min2_int max_two min_two max_three min_three max_four min_four   -- for this text's walks alone
set_option linter.unusedVariables false
set_option linter.unusedSimpArgs false

/-! ### broke_Check: function 9 -/
mutual
def broke_Check.j0 : Nat → List (S32) → Int → Bool → Option (Int)
  | 0, _, _, _ => none
  | k + 1, x0, x1, x15 => if x15 = true then (some 1) else (if (x0.length : Int) > 512 then (some 8) else (broke_Check.l0 k x0 x1 (x0.length : Int) 0))
def broke_Check.l0 : Nat → List (S32) → Int → Int → Int → Option (Int)
  | 0, _, _, _, _ => none
  | k + 1, x0, x1, x20, x21 => if x21 < x20 then (if 0 ≤ x21 then (if x21 < (x0.length : Int) then ((broke_checkOne.f k ((rd_T32 x0 x21).f0) ((rd_T32 x0 x21).f1) ((rd_T32 x0 x21).f2) ((rd_T32 x0 x21).f3)).bind fun t104 => (if t104 = 0 then (broke_Check.l0 k x0 x1 x20 (wrap64 (x21 + 1))) else (some t104))) else (none)) else (none)) else (broke_Check.l1 k x0 x1 0 (x0.length : Int) 0)
def broke_Check.l1 : Nat → List (S32) → Int → Int → Int → Int → Option (Int)
  | 0, _, _, _, _, _ => none
  | k + 1, x0, x1, x7, x34, x35 => if x35 < x34 then (if 0 ≤ x35 then (if x35 < (x0.length : Int) then (if x35 > 0 then (if 0 ≤ (wrap64 (x35 - 1)) then (if (wrap64 (x35 - 1)) < (x0.length : Int) then (broke_Check.j3 k x0 x1 x7 x34 x35 (decide (((rd_T32 x0 x35).f0) < ((rd_T32 x0 (wrap64 (x35 - 1))).f0))) ((rd_T32 x0 x35).f0) ((rd_T32 x0 x35).f1) ((rd_T32 x0 x35).f2) ((rd_T32 x0 x35).f3)) else (none)) else (none)) else (broke_Check.j3 k x0 x1 x7 x34 x35 false ((rd_T32 x0 x35).f0) ((rd_T32 x0 x35).f1) ((rd_T32 x0 x35).f2) ((rd_T32 x0 x35).f3))) else (none)) else (none)) else (some 0)
def broke_Check.j3 : Nat → List (S32) → Int → Int → Int → Int → Bool → Int → Int → Int → Int → Option (Int)
  | 0, _, _, _, _, _, _, _, _, _, _ => none
  | k + 1, x0, x1, x7, x34, x35, x54, x107000, x107001, x107002, x107003 => if x54 = true then (some 9) else (if x107001 = 6 then (broke_Check.j4 k x0 x1 x7 x34 x35 (decide (x107002 > x7)) x107000 x107001 x107002 x107003) else (broke_Check.j4 k x0 x1 x7 x34 x35 false x107000 x107001 x107002 x107003))
def broke_Check.j4 : Nat → List (S32) → Int → Int → Int → Int → Bool → Int → Int → Int → Int → Option (Int)
  | 0, _, _, _, _, _, _, _, _, _, _ => none
  | k + 1, x0, x1, x7, x34, x35, x63, x107000, x107001, x107002, x107003 => if x63 = true then (some 19) else ((broke_signed.f k x107000 x107001 x107002 x107003).bind fun t108 => (if (wrap64 (x7 + t108)) > x1 then (some 8) else (broke_Check.l1 k x0 x1 (wrap64 (x7 + t108)) x34 (wrap64 (x35 + 1)))))
end
def broke_Check.f (k : Nat) (l0 : List (S32)) (a1 : Int) : Option (Int) := if a1 < 0 then (broke_Check.j0 k l0 a1 true) else (broke_Check.j0 k l0 a1 (decide (a1 > 1099511627776)))
theorem broke_Check.mono_l : ∀ k, (∀ y0 y1 y2, LeO (broke_Check.j0 k y0 y1 y2) (broke_Check.j0 (k + 1) y0 y1 y2)) ∧ (∀ y0 y1 y2 y3, LeO (broke_Check.l0 k y0 y1 y2 y3) (broke_Check.l0 (k + 1) y0 y1 y2 y3)) ∧ (∀ y0 y1 y2 y3 y4, LeO (broke_Check.l1 k y0 y1 y2 y3 y4) (broke_Check.l1 (k + 1) y0 y1 y2 y3 y4)) ∧ (∀ y0 y1 y2 y3 y4 y5 y6 y7 y8 y9, LeO (broke_Check.j3 k y0 y1 y2 y3 y4 y5 y6 y7 y8 y9) (broke_Check.j3 (k + 1) y0 y1 y2 y3 y4 y5 y6 y7 y8 y9)) ∧ (∀ y0 y1 y2 y3 y4 y5 y6 y7 y8 y9, LeO (broke_Check.j4 k y0 y1 y2 y3 y4 y5 y6 y7 y8 y9) (broke_Check.j4 (k + 1) y0 y1 y2 y3 y4 y5 y6 y7 y8 y9))
  | 0 => ⟨fun _ _ _ r h => by simp [broke_Check.j0] at h, fun _ _ _ _ r h => by simp [broke_Check.l0] at h, fun _ _ _ _ _ r h => by simp [broke_Check.l1] at h, fun _ _ _ _ _ _ _ _ _ _ r h => by simp [broke_Check.j3] at h, fun _ _ _ _ _ _ _ _ _ _ r h => by simp [broke_Check.j4] at h⟩
  | k + 1 => by
    obtain ⟨ih0, ih1, ih2, ih3, ih4⟩ := broke_Check.mono_l k
    refine ⟨?_, ?_, ?_, ?_, ?_⟩
    · intro y0 y1 y2
      unfold broke_Check.j0
      repeat' first
      | (with_reducible exact ih0 _ _ _)
      | (with_reducible exact ih1 _ _ _ _)
      | (with_reducible exact ih2 _ _ _ _ _)
      | (with_reducible exact ih3 _ _ _ _ _ _ _ _ _ _)
      | (with_reducible exact ih4 _ _ _ _ _ _ _ _ _ _)
      | (with_reducible exact broke_checkOne.mono _ _ _ _ _)
      | (with_reducible exact broke_signed.mono _ _ _ _ _)
      | (with_reducible exact LeO.refl _)
      | (with_reducible exact LeO.none _)
      | (with_reducible refine LeO.ite ?_ ?_)
      | (with_reducible refine LeO.bind ?_ (fun _ => ?_))
      | exact ih0 _ _ _
      | exact ih1 _ _ _ _
      | exact ih2 _ _ _ _ _
      | exact ih3 _ _ _ _ _ _ _ _ _ _
      | exact ih4 _ _ _ _ _ _ _ _ _ _
      | exact broke_checkOne.mono _ _ _ _ _
      | exact broke_signed.mono _ _ _ _ _
      | exact LeO.none _
      | refine LeO.ite ?_ ?_
      | refine LeO.bind ?_ (fun _ => ?_)
    · intro y0 y1 y2 y3
      unfold broke_Check.l0
      repeat' first
      | (with_reducible exact ih0 _ _ _)
      | (with_reducible exact ih1 _ _ _ _)
      | (with_reducible exact ih2 _ _ _ _ _)
      | (with_reducible exact ih3 _ _ _ _ _ _ _ _ _ _)
      | (with_reducible exact ih4 _ _ _ _ _ _ _ _ _ _)
      | (with_reducible exact broke_checkOne.mono _ _ _ _ _)
      | (with_reducible exact broke_signed.mono _ _ _ _ _)
      | (with_reducible exact LeO.refl _)
      | (with_reducible exact LeO.none _)
      | (with_reducible refine LeO.ite ?_ ?_)
      | (with_reducible refine LeO.bind ?_ (fun _ => ?_))
      | exact ih0 _ _ _
      | exact ih1 _ _ _ _
      | exact ih2 _ _ _ _ _
      | exact ih3 _ _ _ _ _ _ _ _ _ _
      | exact ih4 _ _ _ _ _ _ _ _ _ _
      | exact broke_checkOne.mono _ _ _ _ _
      | exact broke_signed.mono _ _ _ _ _
      | exact LeO.none _
      | refine LeO.ite ?_ ?_
      | refine LeO.bind ?_ (fun _ => ?_)
    · intro y0 y1 y2 y3 y4
      unfold broke_Check.l1
      repeat' first
      | (with_reducible exact ih0 _ _ _)
      | (with_reducible exact ih1 _ _ _ _)
      | (with_reducible exact ih2 _ _ _ _ _)
      | (with_reducible exact ih3 _ _ _ _ _ _ _ _ _ _)
      | (with_reducible exact ih4 _ _ _ _ _ _ _ _ _ _)
      | (with_reducible exact broke_checkOne.mono _ _ _ _ _)
      | (with_reducible exact broke_signed.mono _ _ _ _ _)
      | (with_reducible exact LeO.refl _)
      | (with_reducible exact LeO.none _)
      | (with_reducible refine LeO.ite ?_ ?_)
      | (with_reducible refine LeO.bind ?_ (fun _ => ?_))
      | exact ih0 _ _ _
      | exact ih1 _ _ _ _
      | exact ih2 _ _ _ _ _
      | exact ih3 _ _ _ _ _ _ _ _ _ _
      | exact ih4 _ _ _ _ _ _ _ _ _ _
      | exact broke_checkOne.mono _ _ _ _ _
      | exact broke_signed.mono _ _ _ _ _
      | exact LeO.none _
      | refine LeO.ite ?_ ?_
      | refine LeO.bind ?_ (fun _ => ?_)
    · intro y0 y1 y2 y3 y4 y5 y6 y7 y8 y9
      unfold broke_Check.j3
      repeat' first
      | (with_reducible exact ih0 _ _ _)
      | (with_reducible exact ih1 _ _ _ _)
      | (with_reducible exact ih2 _ _ _ _ _)
      | (with_reducible exact ih3 _ _ _ _ _ _ _ _ _ _)
      | (with_reducible exact ih4 _ _ _ _ _ _ _ _ _ _)
      | (with_reducible exact broke_checkOne.mono _ _ _ _ _)
      | (with_reducible exact broke_signed.mono _ _ _ _ _)
      | (with_reducible exact LeO.refl _)
      | (with_reducible exact LeO.none _)
      | (with_reducible refine LeO.ite ?_ ?_)
      | (with_reducible refine LeO.bind ?_ (fun _ => ?_))
      | exact ih0 _ _ _
      | exact ih1 _ _ _ _
      | exact ih2 _ _ _ _ _
      | exact ih3 _ _ _ _ _ _ _ _ _ _
      | exact ih4 _ _ _ _ _ _ _ _ _ _
      | exact broke_checkOne.mono _ _ _ _ _
      | exact broke_signed.mono _ _ _ _ _
      | exact LeO.none _
      | refine LeO.ite ?_ ?_
      | refine LeO.bind ?_ (fun _ => ?_)
    · intro y0 y1 y2 y3 y4 y5 y6 y7 y8 y9
      unfold broke_Check.j4
      repeat' first
      | (with_reducible exact ih0 _ _ _)
      | (with_reducible exact ih1 _ _ _ _)
      | (with_reducible exact ih2 _ _ _ _ _)
      | (with_reducible exact ih3 _ _ _ _ _ _ _ _ _ _)
      | (with_reducible exact ih4 _ _ _ _ _ _ _ _ _ _)
      | (with_reducible exact broke_checkOne.mono _ _ _ _ _)
      | (with_reducible exact broke_signed.mono _ _ _ _ _)
      | (with_reducible exact LeO.refl _)
      | (with_reducible exact LeO.none _)
      | (with_reducible refine LeO.ite ?_ ?_)
      | (with_reducible refine LeO.bind ?_ (fun _ => ?_))
      | exact ih0 _ _ _
      | exact ih1 _ _ _ _
      | exact ih2 _ _ _ _ _
      | exact ih3 _ _ _ _ _ _ _ _ _ _
      | exact ih4 _ _ _ _ _ _ _ _ _ _
      | exact broke_checkOne.mono _ _ _ _ _
      | exact broke_signed.mono _ _ _ _ _
      | exact LeO.none _
      | refine LeO.ite ?_ ?_
      | refine LeO.bind ?_ (fun _ => ?_)
theorem broke_Check.mono : ∀ a0 a1 k, LeO (broke_Check.f k a0 a1) (broke_Check.f (k + 1) a0 a1) := by
  intro a0 a1 k
  obtain ⟨ih0, ih1, ih2, ih3, ih4⟩ := broke_Check.mono_l k
  unfold broke_Check.f
  repeat' first
      | (with_reducible exact ih0 _ _ _)
      | (with_reducible exact ih1 _ _ _ _)
      | (with_reducible exact ih2 _ _ _ _ _)
      | (with_reducible exact ih3 _ _ _ _ _ _ _ _ _ _)
      | (with_reducible exact ih4 _ _ _ _ _ _ _ _ _ _)
      | (with_reducible exact broke_checkOne.mono _ _ _ _ _)
      | (with_reducible exact broke_signed.mono _ _ _ _ _)
      | (with_reducible exact LeO.refl _)
      | (with_reducible exact LeO.none _)
      | (with_reducible refine LeO.ite ?_ ?_)
      | (with_reducible refine LeO.bind ?_ (fun _ => ?_))
      | exact ih0 _ _ _
      | exact ih1 _ _ _ _
      | exact ih2 _ _ _ _ _
      | exact ih3 _ _ _ _ _ _ _ _ _ _
      | exact ih4 _ _ _ _ _ _ _ _ _ _
      | exact broke_checkOne.mono _ _ _ _ _
      | exact broke_signed.mono _ _ _ _ _
      | exact LeO.none _
      | refine LeO.ite ?_ ?_
      | refine LeO.bind ?_ (fun _ => ?_)
set_option maxHeartbeats 8000000 in
set_option maxRecDepth 100000 in
theorem broke_Check.calls (k : Nat) (A0 : Option Addr) (c0 : Nat) (l0 : List (S32)) (a1 : Int) (r : Int) (w : World) (hr0 : Kd.C k32 w A0 l0.length l0) (hc0 : l0.length ≤ c0) (h : broke_Check.f k l0 a1 = some r) :
    Calls Try.prog 9 #[.slice A0 l0.length c0, .int .i64 a1] w fun e w' => e = .returned (.int .i64 r) ∧ Below w.heap.size w w' := by
  have hu32 := Try.underlying32
  have HR0 := Aside0.mk hr0
  have HC0 := Aside0.mk hc0
  clear hr0 hc0
  have HB := Aside0.mk (Below.refl w.heap.size w)
  have H : (if a1 < 0 then (broke_Check.j0 k l0 a1 true) else (broke_Check.j0 k l0 a1 (decide (a1 > 1099511627776)))) = some r := h
  clear h
  have HC3 := Aside0.mk H
  clear H
  go_enter Try.func9, Try.ntmps9
  go_upto_region 1 with (fail)
  repeat (go_quiet (fail); go_upto_region 1 with (fail))
  go_cut [15] (fun v15 wc => ∃ (kq : Nat) (x15_2 : Bool), v15 = .bool x15_2 ∧ Aside0 (broke_Check.j0 kq l0 a1 x15_2 = some r) ∧ Aside0 (kq ≤ k) ∧ Aside0 (Below w.heap.size w wc))
  case first =>
    have H := HC3.out
    clear HC3
    by_cases c4 : a1 < 0
    · rw [if_pos c4] at H
      have c4b0 : decide (a1 < 0) = true := decide_eq_true c4
      clear c4
      (first | rw [c4b0] | (simp only [i64_w, i32_w]; rw [c4b0]) | skip)
      have H' := Aside0.mk H
      clear H
      go_wp2
      repeat (go_quiet (fail); try go_wp2)
      go_meet
      case rel => exact ⟨_, (true), (by first | rfl | (simp; done) | (simp [*]; done)), H', ⟨by first | omega | exact Nat.le_refl _⟩, ⟨by repeat (first | (with_reducible first | exact HB.out | apply below_alloc | apply pw_below_drewN | apply below_drew1) | exact HB.out)⟩⟩
    · rw [if_neg c4] at H
      have c4b0 : decide (a1 < 0) = false := decide_eq_false c4
      clear c4
      (first | rw [c4b0] | (simp only [i64_w, i32_w]; rw [c4b0]) | skip)
      have H' := Aside0.mk H
      clear H
      go_wp2
      repeat (go_quiet (fail); try go_wp2)
      go_meet
      case rel => exact ⟨_, (decide (a1 > 1099511627776)), (by first | rfl | (simp; done) | (simp [*]; done)), H', ⟨by first | omega | exact Nat.le_refl _⟩, ⟨by repeat (first | (with_reducible first | exact HB.out | apply below_alloc | apply pw_below_drewN | apply below_drew1) | exact HB.out)⟩⟩
  case rest =>
    clear HC3
    try clear p2
    try clear c4
    try clear c4b0
    obtain ⟨kq, x15_2, rfl, HA, HJ2, HB⟩ := hcut
    cases kq with
    | zero => exact absurd HA.out (by simp [broke_Check.j0])
    | succ kj2 =>
      have H := HA.out
      clear HA
      simp only [broke_Check.j0] at H
      by_cases c5 : x15_2 = true
      · subst c5
        have H1 : (some 1) = some r := by rw [if_pos rfl] at H; exact H
        clear H
        have H := H1
        clear H1
        obtain rfl := Option.some.inj H
        go_wp2
        repeat (go_quiet (fail); try go_wp2)
        go_ret
        exact ⟨by first | rfl | (simp [errW_none, errW_some] <;> rfl) | (simp [*, errW_none, errW_some] <;> rfl), by repeat (first | (with_reducible first | exact HB.out | apply below_alloc | apply pw_below_drewN | apply below_drew1) | exact HB.out)⟩
      · replace c5 := Bool.eq_false_iff.mpr c5
        subst c5
        have H1 : (if (l0.length : Int) > 512 then (some 8) else (broke_Check.l0 kj2 l0 a1 (l0.length : Int) 0)) = some r := by rw [if_neg (show ¬ (false = true) by decide)] at H; exact H
        clear H
        have H := H1
        clear H1
        by_cases c6 : (l0.length : Int) > 512
        · rw [if_pos c6] at H
          have c6b0 : decide (512 < (l0.length : Int)) = true := decide_eq_true c6
          have c6b1 : decide (512 < l0.length) = true := decide_eq_true (by omega)
          clear c6
          obtain rfl := Option.some.inj H
          go_wp2
          repeat (go_quiet (fail); try go_wp2)
          go_ret
          exact ⟨by first | rfl | (simp [errW_none, errW_some] <;> rfl) | (simp [*, errW_none, errW_some] <;> rfl), by repeat (first | (with_reducible first | exact HB.out | apply below_alloc | apply pw_below_drewN | apply below_drew1) | exact HB.out)⟩
        · rw [if_neg c6] at H
          have c6b0 : decide (512 < (l0.length : Int)) = false := decide_eq_false c6
          have c6b1 : decide (512 < l0.length) = false := decide_eq_false (by omega)
          clear c6
          have H' := Aside0.mk H
          clear H
          go_wp2
          repeat (go_quiet (fail); try go_wp2)
          go_loopg [21] kj2 (fun kq v21 w' => ∃ (x21_2 : Int), v21 = .int .i64 x21_2 ∧ Aside0 (broke_Check.l0 kq l0 a1 (l0.length : Int) x21_2 = some r) ∧ Aside0 (kq ≤ kj2) ∧ Aside0 (Below w.heap.size w w'))
          case atStart => exact ⟨(0), (by first | rfl | (simp; done) | (simp [*]; done)), H', ⟨Nat.le_refl _⟩, ⟨by repeat (first | (with_reducible first | exact HB.out | apply below_alloc | apply pw_below_drewN | apply below_drew1) | exact HB.out)⟩⟩
          case round =>
            clear H'
            try clear p2
            try clear c4
            try clear c4b0
            try clear c5
            try clear c6
            try clear c6b0
            try clear c6b1
            try clear p2
            obtain ⟨x21_2, rfl, HA, HK2, HB⟩ := hrel
            cases gk with
            | zero => exact absurd HA.out (by simp [broke_Check.l0])
            | succ k2 =>
              have H := HA.out
              clear HA
              simp only [broke_Check.l0] at H
              by_cases c7 : x21_2 < (l0.length : Int)
              · rw [if_pos c7] at H
                have c7b0 : decide (x21_2 < (l0.length : Int)) = true := decide_eq_true c7
                clear c7
                by_cases c8 : 0 ≤ x21_2
                · rw [if_pos c8] at H
                  have c8b0 : decide (0 ≤ x21_2) = true := decide_eq_true c8
                  clear c8
                  by_cases c9 : x21_2 < (l0.length : Int)
                  · rw [if_pos c9] at H
                    have c9b0 : decide (x21_2 < (l0.length : Int)) = true := decide_eq_true c9
                    clear c9
                    replace H := Option.bind_eq_some_iff.mp H
                    obtain ⟨t104, A100, H⟩ := H
                    replace H : (if t104 = 0 then (broke_Check.l0 k2 l0 a1 (l0.length : Int) (wrap64 (x21_2 + 1))) else (some t104)) = some r := H
                    have A10 := Aside0.mk A100
                    clear A100
                    by_cases c11 : t104 = 0
                    · rw [if_pos c11] at H
                      have c11b0 : (t104 == 0) = true := beq_iff_eq.mpr c11
                      have c11b1 : (t104 != 0) = false := bne_eq_false_iff_eq.mpr c11
                      clear c11
                      have H' := Aside0.mk H
                      clear H
                      have p103 : 0 ≤ (x21_2 : Int) := of_decide_eq_true (by first | (with_reducible assumption) | assumption)
                      have q103 : x21_2 < (l0.length : Int) := of_decide_eq_true (by first | (with_reducible assumption) | assumption)
                      obtain ⟨ad103, e103, hx103_0, hx103_1, hx103_2, hx103_3⟩ := at_T32 HR0.out x21_2 p103 q103
                      cases e103
                      replace hx103_0 := (HB.out.cell (World.block_lt_of_cell? w _ hx103_0)).trans hx103_0
                      replace hx103_1 := (HB.out.cell (World.block_lt_of_cell? w _ hx103_1)).trans hx103_1
                      replace hx103_2 := (HB.out.cell (World.block_lt_of_cell? w _ hx103_2)).trans hx103_2
                      replace hx103_3 := (HB.out.cell (World.block_lt_of_cell? w _ hx103_3)).trans hx103_3
                      replace p103 := eq_true p103
                      replace q103 := eq_true q103
                      go_wp2_with (first | (go_at_call 18; (with_reducible refine (broke_checkOne.calls k2 ((rd_T32 l0 x21_2).f0) ((rd_T32 l0 x21_2).f1) ((rd_T32 l0 x21_2).f2) ((rd_T32 l0 x21_2).f3) t104 _ A10.out).mono ?_); rintro e w12 ⟨rfl, hb⟩; have n0_ := Aside0.mk (below_step (by repeat (first | (with_reducible first | exact HB.out | apply below_alloc | apply pw_below_drewN | apply below_drew1) | exact HB.out)) hb); clear HB; have HB := n0_; clear n0_; (try clear hb); (try clear hb2); (try clear hk); (try clear hi)))
                      repeat (go_quiet (first | (go_at_call 18; (with_reducible refine (broke_checkOne.calls k2 ((rd_T32 l0 x21_2).f0) ((rd_T32 l0 x21_2).f1) ((rd_T32 l0 x21_2).f2) ((rd_T32 l0 x21_2).f3) t104 _ A10.out).mono ?_); rintro e w12 ⟨rfl, hb⟩; have n0_ := Aside0.mk (below_step (by repeat (first | (with_reducible first | exact HB.out | apply below_alloc | apply pw_below_drewN | apply below_drew1) | exact HB.out)) hb); clear HB; have HB := n0_; clear n0_; (try clear hb); (try clear hb2); (try clear hk); (try clear hi))); try go_wp2_with (first | (go_at_call 18; (with_reducible refine (broke_checkOne.calls k2 ((rd_T32 l0 x21_2).f0) ((rd_T32 l0 x21_2).f1) ((rd_T32 l0 x21_2).f2) ((rd_T32 l0 x21_2).f3) t104 _ A10.out).mono ?_); rintro e w12 ⟨rfl, hb⟩; have n0_ := Aside0.mk (below_step (by repeat (first | (with_reducible first | exact HB.out | apply below_alloc | apply pw_below_drewN | apply below_drew1) | exact HB.out)) hb); clear HB; have HB := n0_; clear n0_; (try clear hb); (try clear hb2); (try clear hk); (try clear hi))))
                      go_roundg k2
                      case measure => have := HJ2.out; have := HK2.out; omega
                      case rel => exact ⟨(wrap64 (x21_2 + 1)), (by first | rfl | (simp; done) | (simp [*]; done)), H', ⟨by have := HJ2.out; have := HK2.out; omega⟩, ⟨by repeat (first | (with_reducible first | exact HB.out | apply below_alloc | apply pw_below_drewN | apply below_drew1) | exact HB.out)⟩⟩
                    · rw [if_neg c11] at H
                      have c11b0 : (t104 == 0) = false := beq_eq_false_iff_ne.mpr c11
                      have c11b1 : (t104 != 0) = true := bne_iff_ne.mpr c11
                      obtain rfl := Option.some.inj H
                      have p103 : 0 ≤ (x21_2 : Int) := of_decide_eq_true (by first | (with_reducible assumption) | assumption)
                      have q103 : x21_2 < (l0.length : Int) := of_decide_eq_true (by first | (with_reducible assumption) | assumption)
                      obtain ⟨ad103, e103, hx103_0, hx103_1, hx103_2, hx103_3⟩ := at_T32 HR0.out x21_2 p103 q103
                      cases e103
                      replace hx103_0 := (HB.out.cell (World.block_lt_of_cell? w _ hx103_0)).trans hx103_0
                      replace hx103_1 := (HB.out.cell (World.block_lt_of_cell? w _ hx103_1)).trans hx103_1
                      replace hx103_2 := (HB.out.cell (World.block_lt_of_cell? w _ hx103_2)).trans hx103_2
                      replace hx103_3 := (HB.out.cell (World.block_lt_of_cell? w _ hx103_3)).trans hx103_3
                      replace p103 := eq_true p103
                      replace q103 := eq_true q103
                      go_wp2_with (first | (go_at_call 18; (with_reducible refine (broke_checkOne.calls k2 ((rd_T32 l0 x21_2).f0) ((rd_T32 l0 x21_2).f1) ((rd_T32 l0 x21_2).f2) ((rd_T32 l0 x21_2).f3) t104 _ A10.out).mono ?_); rintro e w13 ⟨rfl, hb⟩; have n0_ := Aside0.mk (below_step (by repeat (first | (with_reducible first | exact HB.out | apply below_alloc | apply pw_below_drewN | apply below_drew1) | exact HB.out)) hb); clear HB; have HB := n0_; clear n0_; (try clear hb); (try clear hb2); (try clear hk); (try clear hi)))
                      repeat (go_quiet (first | (go_at_call 18; (with_reducible refine (broke_checkOne.calls k2 ((rd_T32 l0 x21_2).f0) ((rd_T32 l0 x21_2).f1) ((rd_T32 l0 x21_2).f2) ((rd_T32 l0 x21_2).f3) t104 _ A10.out).mono ?_); rintro e w13 ⟨rfl, hb⟩; have n0_ := Aside0.mk (below_step (by repeat (first | (with_reducible first | exact HB.out | apply below_alloc | apply pw_below_drewN | apply below_drew1) | exact HB.out)) hb); clear HB; have HB := n0_; clear n0_; (try clear hb); (try clear hb2); (try clear hk); (try clear hi))); try go_wp2_with (first | (go_at_call 18; (with_reducible refine (broke_checkOne.calls k2 ((rd_T32 l0 x21_2).f0) ((rd_T32 l0 x21_2).f1) ((rd_T32 l0 x21_2).f2) ((rd_T32 l0 x21_2).f3) t104 _ A10.out).mono ?_); rintro e w13 ⟨rfl, hb⟩; have n0_ := Aside0.mk (below_step (by repeat (first | (with_reducible first | exact HB.out | apply below_alloc | apply pw_below_drewN | apply below_drew1) | exact HB.out)) hb); clear HB; have HB := n0_; clear n0_; (try clear hb); (try clear hb2); (try clear hk); (try clear hi))))
                      go_ret
                      exact ⟨by first | rfl | (simp [errW_none, errW_some] <;> rfl) | (simp [*, errW_none, errW_some] <;> rfl), by repeat (first | (with_reducible first | exact HB.out | apply below_alloc | apply pw_below_drewN | apply below_drew1) | exact HB.out)⟩
                  · rw [if_neg c9] at H
                    exact absurd H (by simp)
                · rw [if_neg c8] at H
                  exact absurd H (by simp)
              · rw [if_neg c7] at H
                have c7b0 : decide (x21_2 < (l0.length : Int)) = false := decide_eq_false c7
                clear c7
                have H' := Aside0.mk H
                clear H
                go_wp2
                repeat (go_quiet (fail); try go_wp2)
                go_loopg [7, 35] k2 (fun kq v7 v35 w' => ∃ (x7_3 : Int) (x35_3 : Int), v7 = .int .i64 x7_3 ∧ v35 = .int .i64 x35_3 ∧ Aside0 (broke_Check.l1 kq l0 a1 x7_3 (l0.length : Int) x35_3 = some r) ∧ Aside0 (kq ≤ k2) ∧ Aside0 (Below w.heap.size w w'))
                case atStart => exact ⟨(0), (0), (by first | rfl | (simp; done) | (simp [*]; done)), (by first | rfl | (simp; done) | (simp [*]; done)), H', ⟨Nat.le_refl _⟩, ⟨by repeat (first | (with_reducible first | exact HB.out | apply below_alloc | apply pw_below_drewN | apply below_drew1) | exact HB.out)⟩⟩
                case round =>
                  clear H'
                  try clear c1
                  try clear p1
                  try clear q1
                  try clear hx1
                  try clear p2
                  try clear c4
                  try clear c4b0
                  try clear c5
                  try clear c6
                  try clear c6b0
                  try clear c6b1
                  try clear p6
                  try clear c7
                  try clear c7b0
                  try clear c8
                  try clear c8b0
                  try clear c9
                  try clear c9b0
                  try clear p10
                  try clear q10
                  try clear hx10
                  try clear c11
                  try clear c11b0
                  try clear c11b1
                  try clear hx103_0
                  try clear hx103_1
                  try clear hx103_2
                  try clear hx103_3
                  try clear p103
                  try clear p2
                  try clear q103
                  obtain ⟨x7_3, x35_3, rfl, rfl, HA, HK3, HB⟩ := hrel
                  cases gk with
                  | zero => exact absurd HA.out (by simp [broke_Check.l1])
                  | succ k3 =>
                    have H := HA.out
                    clear HA
                    simp only [broke_Check.l1] at H
                    by_cases c14 : x35_3 < (l0.length : Int)
                    · rw [if_pos c14] at H
                      have c14b0 : decide (x35_3 < (l0.length : Int)) = true := decide_eq_true c14
                      clear c14
                      by_cases c15 : 0 ≤ x35_3
                      · rw [if_pos c15] at H
                        have c15b0 : decide (0 ≤ x35_3) = true := decide_eq_true c15
                        clear c15
                        by_cases c16 : x35_3 < (l0.length : Int)
                        · rw [if_pos c16] at H
                          have c16b0 : decide (x35_3 < (l0.length : Int)) = true := decide_eq_true c16
                          clear c16
                          have HC17 := Aside0.mk H
                          clear H
                          have p105 : 0 ≤ (x35_3 : Int) := of_decide_eq_true (by first | (with_reducible assumption) | assumption)
                          have q105 : x35_3 < (l0.length : Int) := of_decide_eq_true (by first | (with_reducible assumption) | assumption)
                          obtain ⟨ad105, e105, hx105_0, hx105_1, hx105_2, hx105_3⟩ := at_T32 HR0.out x35_3 p105 q105
                          cases e105
                          replace hx105_0 := (HB.out.cell (World.block_lt_of_cell? w _ hx105_0)).trans hx105_0
                          replace hx105_1 := (HB.out.cell (World.block_lt_of_cell? w _ hx105_1)).trans hx105_1
                          replace hx105_2 := (HB.out.cell (World.block_lt_of_cell? w _ hx105_2)).trans hx105_2
                          replace hx105_3 := (HB.out.cell (World.block_lt_of_cell? w _ hx105_3)).trans hx105_3
                          replace p105 := eq_true p105
                          replace q105 := eq_true q105
                          go_upto_region 17 with (first | ((with_reducible refine gate_dst (N := 9) rfl ?_); refine box_event ?hg (N := 9) ?hd (cs := #[.int .i64 0, .int .i64 0, .int .i64 0, .int .i64 0]) (t := 32) ?hr ?_; (case hd => rfl); (case hg => rfl); (case hr => first | (go_simp; done) | (go_simp; rfl)); intro gb106 hg w18 hbox hb; have n0_ := Aside0.mk (below_step (by repeat (first | (with_reducible first | exact HB.out | apply below_alloc | apply pw_below_drewN | apply below_drew1) | exact HB.out)) hb); have n1_ := Aside0.mk (hbox); have n2_ := Aside0.mk ((by rw [hg]; exact (below_size (by repeat (first | (with_reducible first | exact HB.out | apply below_alloc | apply pw_below_drewN | apply below_drew1) | exact HB.out))) : w.heap.size ≤ gb106)); have n3_ := Aside0.mk ((by rw [hg]; exact (below_size (by repeat (first | (with_reducible first | exact HB.out | apply below_alloc | apply pw_below_drewN | apply below_drew1) | exact HB.out))) : w.heap.size ≤ gb106)); clear HB; have HB := n0_; have BK106 := n1_; have GW106 := n2_; have GE106 := n3_; clear n0_ n1_ n2_ n3_; clear hb hbox hg; have hcz19_0 : w18.cell? ⟨gb106, 0, none⟩ = some (.int .i64 0) := (blk_cell BK106.out 0).trans rfl; have hcz19_1 : w18.cell? ⟨gb106, 1, none⟩ = some (.int .i64 0) := (blk_cell BK106.out 1).trans rfl; have hcz19_2 : w18.cell? ⟨gb106, 2, none⟩ = some (.int .i64 0) := (blk_cell BK106.out 2).trans rfl; have hcz19_3 : w18.cell? ⟨gb106, 3, none⟩ = some (.int .i64 0) := (blk_cell BK106.out 3).trans rfl; have hfz19_0 := blk_frozen BK106.out 0; have hfz19_1 := blk_frozen BK106.out 1; have hfz19_2 := blk_frozen BK106.out 2; have hfz19_3 := blk_frozen BK106.out 3))
                          repeat (go_quiet (first | ((with_reducible refine gate_dst (N := 9) rfl ?_); refine box_event ?hg (N := 9) ?hd (cs := #[.int .i64 0, .int .i64 0, .int .i64 0, .int .i64 0]) (t := 32) ?hr ?_; (case hd => rfl); (case hg => rfl); (case hr => first | (go_simp; done) | (go_simp; rfl)); intro gb106 hg w18 hbox hb; have n0_ := Aside0.mk (below_step (by repeat (first | (with_reducible first | exact HB.out | apply below_alloc | apply pw_below_drewN | apply below_drew1) | exact HB.out)) hb); have n1_ := Aside0.mk (hbox); have n2_ := Aside0.mk ((by rw [hg]; exact (below_size (by repeat (first | (with_reducible first | exact HB.out | apply below_alloc | apply pw_below_drewN | apply below_drew1) | exact HB.out))) : w.heap.size ≤ gb106)); have n3_ := Aside0.mk ((by rw [hg]; exact (below_size (by repeat (first | (with_reducible first | exact HB.out | apply below_alloc | apply pw_below_drewN | apply below_drew1) | exact HB.out))) : w.heap.size ≤ gb106)); clear HB; have HB := n0_; have BK106 := n1_; have GW106 := n2_; have GE106 := n3_; clear n0_ n1_ n2_ n3_; clear hb hbox hg; have hcz19_0 : w18.cell? ⟨gb106, 0, none⟩ = some (.int .i64 0) := (blk_cell BK106.out 0).trans rfl; have hcz19_1 : w18.cell? ⟨gb106, 1, none⟩ = some (.int .i64 0) := (blk_cell BK106.out 1).trans rfl; have hcz19_2 : w18.cell? ⟨gb106, 2, none⟩ = some (.int .i64 0) := (blk_cell BK106.out 2).trans rfl; have hcz19_3 : w18.cell? ⟨gb106, 3, none⟩ = some (.int .i64 0) := (blk_cell BK106.out 3).trans rfl; have hfz19_0 := blk_frozen BK106.out 0; have hfz19_1 := blk_frozen BK106.out 1; have hfz19_2 := blk_frozen BK106.out 2; have hfz19_3 := blk_frozen BK106.out 3)); go_upto_region 17 with (first | ((with_reducible refine gate_dst (N := 9) rfl ?_); refine box_event ?hg (N := 9) ?hd (cs := #[.int .i64 0, .int .i64 0, .int .i64 0, .int .i64 0]) (t := 32) ?hr ?_; (case hd => rfl); (case hg => rfl); (case hr => first | (go_simp; done) | (go_simp; rfl)); intro gb106 hg w18 hbox hb; have n0_ := Aside0.mk (below_step (by repeat (first | (with_reducible first | exact HB.out | apply below_alloc | apply pw_below_drewN | apply below_drew1) | exact HB.out)) hb); have n1_ := Aside0.mk (hbox); have n2_ := Aside0.mk ((by rw [hg]; exact (below_size (by repeat (first | (with_reducible first | exact HB.out | apply below_alloc | apply pw_below_drewN | apply below_drew1) | exact HB.out))) : w.heap.size ≤ gb106)); have n3_ := Aside0.mk ((by rw [hg]; exact (below_size (by repeat (first | (with_reducible first | exact HB.out | apply below_alloc | apply pw_below_drewN | apply below_drew1) | exact HB.out))) : w.heap.size ≤ gb106)); clear HB; have HB := n0_; have BK106 := n1_; have GW106 := n2_; have GE106 := n3_; clear n0_ n1_ n2_ n3_; clear hb hbox hg; have hcz19_0 : w18.cell? ⟨gb106, 0, none⟩ = some (.int .i64 0) := (blk_cell BK106.out 0).trans rfl; have hcz19_1 : w18.cell? ⟨gb106, 1, none⟩ = some (.int .i64 0) := (blk_cell BK106.out 1).trans rfl; have hcz19_2 : w18.cell? ⟨gb106, 2, none⟩ = some (.int .i64 0) := (blk_cell BK106.out 2).trans rfl; have hcz19_3 : w18.cell? ⟨gb106, 3, none⟩ = some (.int .i64 0) := (blk_cell BK106.out 3).trans rfl; have hfz19_0 := blk_frozen BK106.out 0; have hfz19_1 := blk_frozen BK106.out 1; have hfz19_2 := blk_frozen BK106.out 2; have hfz19_3 := blk_frozen BK106.out 3)))
                          (try simp only [Act.put, List.setIfInBounds_toArray, List.set_cons_zero, List.set_cons_succ])
                          go_cut [54] (fun v54 wc => ∃ (kq : Nat) (x54_16 : Bool), v54 = .bool x54_16 ∧ Aside0 (broke_Check.j3 kq l0 a1 x7_3 (l0.length : Int) x35_3 x54_16 ((rd_T32 l0 x35_3).f0) ((rd_T32 l0 x35_3).f1) ((rd_T32 l0 x35_3).f2) ((rd_T32 l0 x35_3).f3) = some r) ∧ Aside0 (kq ≤ k3) ∧ Aside0 (wc.heap[gb106]? = some (.cells #[.int .i64 ((rd_T32 l0 x35_3).f0), .int .i64 ((rd_T32 l0 x35_3).f1), .int .i64 ((rd_T32 l0 x35_3).f2), .int .i64 ((rd_T32 l0 x35_3).f3)] 32 (0, 0))) ∧ Aside0 (Below w.heap.size w wc))
                          case first =>
                            have H := HC17.out
                            clear HC17
                            by_cases c20 : x35_3 > 0
                            · rw [if_pos c20] at H
                              have c20b0 : decide (0 < x35_3) = true := decide_eq_true c20
                              clear c20
                              (first | rw [c20b0] | (simp only [i64_w, i32_w]; rw [c20b0]) | skip)
                              obtain ⟨ji21, hji21⟩ : ∃ j_ : Int, (wrap64 (x35_3 - 1)) = j_ := ⟨_, rfl⟩
                              replace H : (if 0 ≤ (ji21) then (if (ji21) < (l0.length : Int) then (broke_Check.j3 k3 l0 a1 x7_3 (l0.length : Int) x35_3 (decide (((rd_T32 l0 x35_3).f0) < ((rd_T32 l0 (ji21)).f0))) ((rd_T32 l0 x35_3).f0) ((rd_T32 l0 x35_3).f1) ((rd_T32 l0 x35_3).f2) ((rd_T32 l0 x35_3).f3)) else (none)) else (none)) = some r := by first | (rw [hji21] at H; exact H) | (simp only [hji21] at H ⊢; exact H)
                              have hji21w : (IntKind.i64.wrap (x35_3 - 1)) = ji21 := (i64_w _).trans hji21
                              by_cases c22 : 0 ≤ (ji21)
                              · rw [if_pos c22] at H
                                have c22b0 : decide (0 ≤ (ji21)) = true := decide_eq_true c22
                                clear c22
                                by_cases c23 : (ji21) < (l0.length : Int)
                                · rw [if_pos c23] at H
                                  have c23b0 : decide ((ji21) < (l0.length : Int)) = true := decide_eq_true c23
                                  clear c23
                                  have H' := Aside0.mk H
                                  clear H
                                  have hcz24_0 : w18.cell? ⟨gb106, 0, none⟩ = some (.int .i64 0) := (blk_cell BK106.out 0).trans rfl
                                  have hcz24_1 : w18.cell? ⟨gb106, 1, none⟩ = some (.int .i64 0) := (blk_cell BK106.out 1).trans rfl
                                  have hcz24_2 : w18.cell? ⟨gb106, 2, none⟩ = some (.int .i64 0) := (blk_cell BK106.out 2).trans rfl
                                  have hcz24_3 : w18.cell? ⟨gb106, 3, none⟩ = some (.int .i64 0) := (blk_cell BK106.out 3).trans rfl
                                  have hfz24_0 := blk_frozen BK106.out 0
                                  have hfz24_1 := blk_frozen BK106.out 1
                                  have hfz24_2 := blk_frozen BK106.out 2
                                  have hfz24_3 := blk_frozen BK106.out 3
                                  have p107 : 0 ≤ ((ji21) : Int) := of_decide_eq_true (by first | (with_reducible assumption) | assumption)
                                  have q107 : (ji21) < (l0.length : Int) := of_decide_eq_true (by first | (with_reducible assumption) | assumption)
                                  obtain ⟨ad107, e107, hx107_0, hx107_1, hx107_2, hx107_3⟩ := at_T32 HR0.out (ji21) p107 q107
                                  obtain rfl : ad105 = ad107 := (by injection e107)
                                  have hn107_0 : ad105.block ≠ gb106 := Nat.ne_of_lt (Nat.lt_of_lt_of_le (by have := World.block_lt_of_cell? _ _ hx107_0; first | rwa [add_block] at this | exact this) GW106.out)
                                  have hn107_1 : ad105.block ≠ gb106 := Nat.ne_of_lt (Nat.lt_of_lt_of_le (by have := World.block_lt_of_cell? _ _ hx107_0; first | rwa [add_block] at this | exact this) GW106.out)
                                  have hn107_2 : ad105.block ≠ gb106 := Nat.ne_of_lt (Nat.lt_of_lt_of_le (by have := World.block_lt_of_cell? _ _ hx107_0; first | rwa [add_block] at this | exact this) GW106.out)
                                  have hn107_3 : ad105.block ≠ gb106 := Nat.ne_of_lt (Nat.lt_of_lt_of_le (by have := World.block_lt_of_cell? _ _ hx107_0; first | rwa [add_block] at this | exact this) GW106.out)
                                  replace hx107_0 := (HB.out.cell (World.block_lt_of_cell? w _ hx107_0)).trans hx107_0
                                  replace hx107_1 := (HB.out.cell (World.block_lt_of_cell? w _ hx107_1)).trans hx107_1
                                  replace hx107_2 := (HB.out.cell (World.block_lt_of_cell? w _ hx107_2)).trans hx107_2
                                  replace hx107_3 := (HB.out.cell (World.block_lt_of_cell? w _ hx107_3)).trans hx107_3
                                  replace hx107_0 := (cell_far (p := ⟨gb106, 0, none⟩) (by first | (rw [add_block]; exact hn107_0) | (show (Addr.add _ _).block ≠ _; rw [add_block]; exact hn107_0) | exact hn107_0) (.int .i64 ((rd_T32 l0 x35_3).f0))).trans hx107_0
                                  replace hx107_1 := (cell_far (p := ⟨gb106, 0, none⟩) (by first | (rw [add_block]; exact hn107_0) | (show (Addr.add _ _).block ≠ _; rw [add_block]; exact hn107_0) | exact hn107_0) (.int .i64 ((rd_T32 l0 x35_3).f0))).trans hx107_1
                                  replace hx107_2 := (cell_far (p := ⟨gb106, 0, none⟩) (by first | (rw [add_block]; exact hn107_0) | (show (Addr.add _ _).block ≠ _; rw [add_block]; exact hn107_0) | exact hn107_0) (.int .i64 ((rd_T32 l0 x35_3).f0))).trans hx107_2
                                  replace hx107_3 := (cell_far (p := ⟨gb106, 0, none⟩) (by first | (rw [add_block]; exact hn107_0) | (show (Addr.add _ _).block ≠ _; rw [add_block]; exact hn107_0) | exact hn107_0) (.int .i64 ((rd_T32 l0 x35_3).f0))).trans hx107_3
                                  replace hx107_0 := (cell_far (p := ⟨gb106, 1, none⟩) (by first | (rw [add_block]; exact hn107_1) | (show (Addr.add _ _).block ≠ _; rw [add_block]; exact hn107_1) | exact hn107_1) (.int .i64 ((rd_T32 l0 x35_3).f1))).trans hx107_0
                                  replace hx107_1 := (cell_far (p := ⟨gb106, 1, none⟩) (by first | (rw [add_block]; exact hn107_1) | (show (Addr.add _ _).block ≠ _; rw [add_block]; exact hn107_1) | exact hn107_1) (.int .i64 ((rd_T32 l0 x35_3).f1))).trans hx107_1
                                  replace hx107_2 := (cell_far (p := ⟨gb106, 1, none⟩) (by first | (rw [add_block]; exact hn107_1) | (show (Addr.add _ _).block ≠ _; rw [add_block]; exact hn107_1) | exact hn107_1) (.int .i64 ((rd_T32 l0 x35_3).f1))).trans hx107_2
                                  replace hx107_3 := (cell_far (p := ⟨gb106, 1, none⟩) (by first | (rw [add_block]; exact hn107_1) | (show (Addr.add _ _).block ≠ _; rw [add_block]; exact hn107_1) | exact hn107_1) (.int .i64 ((rd_T32 l0 x35_3).f1))).trans hx107_3
                                  replace hx107_0 := (cell_far (p := ⟨gb106, 2, none⟩) (by first | (rw [add_block]; exact hn107_2) | (show (Addr.add _ _).block ≠ _; rw [add_block]; exact hn107_2) | exact hn107_2) (.int .i64 ((rd_T32 l0 x35_3).f2))).trans hx107_0
                                  replace hx107_1 := (cell_far (p := ⟨gb106, 2, none⟩) (by first | (rw [add_block]; exact hn107_2) | (show (Addr.add _ _).block ≠ _; rw [add_block]; exact hn107_2) | exact hn107_2) (.int .i64 ((rd_T32 l0 x35_3).f2))).trans hx107_1
                                  replace hx107_2 := (cell_far (p := ⟨gb106, 2, none⟩) (by first | (rw [add_block]; exact hn107_2) | (show (Addr.add _ _).block ≠ _; rw [add_block]; exact hn107_2) | exact hn107_2) (.int .i64 ((rd_T32 l0 x35_3).f2))).trans hx107_2
                                  replace hx107_3 := (cell_far (p := ⟨gb106, 2, none⟩) (by first | (rw [add_block]; exact hn107_2) | (show (Addr.add _ _).block ≠ _; rw [add_block]; exact hn107_2) | exact hn107_2) (.int .i64 ((rd_T32 l0 x35_3).f2))).trans hx107_3
                                  replace hx107_0 := (cell_far (p := ⟨gb106, 3, none⟩) (by first | (rw [add_block]; exact hn107_3) | (show (Addr.add _ _).block ≠ _; rw [add_block]; exact hn107_3) | exact hn107_3) (.int .i64 ((rd_T32 l0 x35_3).f3))).trans hx107_0
                                  replace hx107_1 := (cell_far (p := ⟨gb106, 3, none⟩) (by first | (rw [add_block]; exact hn107_3) | (show (Addr.add _ _).block ≠ _; rw [add_block]; exact hn107_3) | exact hn107_3) (.int .i64 ((rd_T32 l0 x35_3).f3))).trans hx107_1
                                  replace hx107_2 := (cell_far (p := ⟨gb106, 3, none⟩) (by first | (rw [add_block]; exact hn107_3) | (show (Addr.add _ _).block ≠ _; rw [add_block]; exact hn107_3) | exact hn107_3) (.int .i64 ((rd_T32 l0 x35_3).f3))).trans hx107_2
                                  replace hx107_3 := (cell_far (p := ⟨gb106, 3, none⟩) (by first | (rw [add_block]; exact hn107_3) | (show (Addr.add _ _).block ≠ _; rw [add_block]; exact hn107_3) | exact hn107_3) (.int .i64 ((rd_T32 l0 x35_3).f3))).trans hx107_3
                                  (try have hy107_0 := fun (n_ : Nat) => (show ((((((w18.drewN n_).setCell ⟨gb106, 0, none⟩ (.int .i64 ((rd_T32 l0 x35_3).f0))).setCell ⟨gb106, 1, none⟩ (.int .i64 ((rd_T32 l0 x35_3).f1))).setCell ⟨gb106, 2, none⟩ (.int .i64 ((rd_T32 l0 x35_3).f2))).setCell ⟨gb106, 3, none⟩ (.int .i64 ((rd_T32 l0 x35_3).f3)))).cell? _ = some _ from hx107_0))
                                  (try have hy107_1 := fun (n_ : Nat) => (show ((((((w18.drewN n_).setCell ⟨gb106, 0, none⟩ (.int .i64 ((rd_T32 l0 x35_3).f0))).setCell ⟨gb106, 1, none⟩ (.int .i64 ((rd_T32 l0 x35_3).f1))).setCell ⟨gb106, 2, none⟩ (.int .i64 ((rd_T32 l0 x35_3).f2))).setCell ⟨gb106, 3, none⟩ (.int .i64 ((rd_T32 l0 x35_3).f3)))).cell? _ = some _ from hx107_1))
                                  (try have hy107_2 := fun (n_ : Nat) => (show ((((((w18.drewN n_).setCell ⟨gb106, 0, none⟩ (.int .i64 ((rd_T32 l0 x35_3).f0))).setCell ⟨gb106, 1, none⟩ (.int .i64 ((rd_T32 l0 x35_3).f1))).setCell ⟨gb106, 2, none⟩ (.int .i64 ((rd_T32 l0 x35_3).f2))).setCell ⟨gb106, 3, none⟩ (.int .i64 ((rd_T32 l0 x35_3).f3)))).cell? _ = some _ from hx107_2))
                                  (try have hy107_3 := fun (n_ : Nat) => (show ((((((w18.drewN n_).setCell ⟨gb106, 0, none⟩ (.int .i64 ((rd_T32 l0 x35_3).f0))).setCell ⟨gb106, 1, none⟩ (.int .i64 ((rd_T32 l0 x35_3).f1))).setCell ⟨gb106, 2, none⟩ (.int .i64 ((rd_T32 l0 x35_3).f2))).setCell ⟨gb106, 3, none⟩ (.int .i64 ((rd_T32 l0 x35_3).f3)))).cell? _ = some _ from hx107_3))
                                  clear hn107_0
                                  clear hn107_1
                                  clear hn107_2
                                  clear hn107_3
                                  replace p107 := eq_true p107
                                  replace q107 := eq_true q107
                                  go_wp2
                                  repeat (go_quiet (fail); try go_wp2)
                                  go_meet
                                  case rel => exact ⟨_, (decide (((rd_T32 l0 x35_3).f0) < ((rd_T32 l0 (ji21)).f0))), (by first | rfl | (simp; done) | (simp only [← hji21] <;> (first | rfl | simp)) | (simp [*]; done)), H', ⟨by have := HJ2.out; have := HK2.out; have := HK3.out; first | omega | exact Nat.le_refl _⟩, ⟨by (with_reducible repeat (first | refine blk_drewN ?_ _ | refine blk_drew ?_ | refine blk_alloc ?_ _)); refine blk_put (cs := #[.int .i64 ((rd_T32 l0 x35_3).f0), .int .i64 ((rd_T32 l0 x35_3).f1), .int .i64 ((rd_T32 l0 x35_3).f2), .int .i64 0]) ?_ 3 _ rfl; (with_reducible repeat (first | refine blk_drewN ?_ _ | refine blk_drew ?_ | refine blk_alloc ?_ _)); refine blk_put (cs := #[.int .i64 ((rd_T32 l0 x35_3).f0), .int .i64 ((rd_T32 l0 x35_3).f1), .int .i64 0, .int .i64 0]) ?_ 2 _ rfl; (with_reducible repeat (first | refine blk_drewN ?_ _ | refine blk_drew ?_ | refine blk_alloc ?_ _)); refine blk_put (cs := #[.int .i64 ((rd_T32 l0 x35_3).f0), .int .i64 0, .int .i64 0, .int .i64 0]) ?_ 1 _ rfl; (with_reducible repeat (first | refine blk_drewN ?_ _ | refine blk_drew ?_ | refine blk_alloc ?_ _)); refine blk_put (cs := #[.int .i64 0, .int .i64 0, .int .i64 0, .int .i64 0]) ?_ 0 _ rfl; (with_reducible repeat (first | refine blk_drewN ?_ _ | refine blk_drew ?_ | refine blk_alloc ?_ _)); exact BK106.out⟩, ⟨by repeat (first | (with_reducible first | exact HB.out | apply below_alloc | apply pw_below_drewN | apply below_drew1 | refine below_set ?_ GE106.out) | exact HB.out)⟩⟩
                                · rw [if_neg c23] at H
                                  exact absurd H (by simp)
                              · rw [if_neg c22] at H
                                exact absurd H (by simp)
                            · rw [if_neg c20] at H
                              have c20b0 : decide (0 < x35_3) = false := decide_eq_false c20
                              clear c20
                              (first | rw [c20b0] | (simp only [i64_w, i32_w]; rw [c20b0]) | skip)
                              have H' := Aside0.mk H
                              clear H
                              go_wp2
                              repeat (go_quiet (fail); try go_wp2)
                              go_meet
                              case rel => exact ⟨_, (false), (by first | rfl | (simp; done) | (simp [*]; done)), H', ⟨by have := HJ2.out; have := HK2.out; have := HK3.out; first | omega | exact Nat.le_refl _⟩, ⟨by (with_reducible repeat (first | refine blk_drewN ?_ _ | refine blk_drew ?_ | refine blk_alloc ?_ _)); refine blk_put (cs := #[.int .i64 ((rd_T32 l0 x35_3).f0), .int .i64 ((rd_T32 l0 x35_3).f1), .int .i64 ((rd_T32 l0 x35_3).f2), .int .i64 0]) ?_ 3 _ rfl; (with_reducible repeat (first | refine blk_drewN ?_ _ | refine blk_drew ?_ | refine blk_alloc ?_ _)); refine blk_put (cs := #[.int .i64 ((rd_T32 l0 x35_3).f0), .int .i64 ((rd_T32 l0 x35_3).f1), .int .i64 0, .int .i64 0]) ?_ 2 _ rfl; (with_reducible repeat (first | refine blk_drewN ?_ _ | refine blk_drew ?_ | refine blk_alloc ?_ _)); refine blk_put (cs := #[.int .i64 ((rd_T32 l0 x35_3).f0), .int .i64 0, .int .i64 0, .int .i64 0]) ?_ 1 _ rfl; (with_reducible repeat (first | refine blk_drewN ?_ _ | refine blk_drew ?_ | refine blk_alloc ?_ _)); refine blk_put (cs := #[.int .i64 0, .int .i64 0, .int .i64 0, .int .i64 0]) ?_ 0 _ rfl; (with_reducible repeat (first | refine blk_drewN ?_ _ | refine blk_drew ?_ | refine blk_alloc ?_ _)); exact BK106.out⟩, ⟨by repeat (first | (with_reducible first | exact HB.out | apply below_alloc | apply pw_below_drewN | apply below_drew1 | refine below_set ?_ GE106.out) | exact HB.out)⟩⟩
                          case rest =>
                            clear HC17
                            try clear c1
                            try clear p1
                            try clear q1
                            try clear hx1
                            try clear c2
                            try clear p2
                            try clear c4
                            try clear c4b0
                            try clear c5
                            try clear c6
                            try clear c6b0
                            try clear c6b1
                            try clear p6
                            try clear c7
                            try clear c7b0
                            try clear c8
                            try clear c8b0
                            try clear c9
                            try clear c9b0
                            try clear p10
                            try clear q10
                            try clear hx10
                            try clear c11
                            try clear c11b0
                            try clear c11b1
                            try clear c14
                            try clear c14b0
                            try clear c15
                            try clear c15b0
                            try clear c16
                            try clear c16b0
                            try clear c20
                            try clear c20b0
                            try clear c22
                            try clear c22b0
                            try clear c23
                            try clear c23b0
                            try clear hcz19_0
                            try clear hcz19_1
                            try clear hcz19_2
                            try clear hcz19_3
                            try clear hcz24_0
                            try clear hcz24_1
                            try clear hcz24_2
                            try clear hcz24_3
                            try clear hfz19_0
                            try clear hfz19_1
                            try clear hfz19_2
                            try clear hfz19_3
                            try clear hfz24_0
                            try clear hfz24_1
                            try clear hfz24_2
                            try clear hfz24_3
                            try clear hx103_0
                            try clear hx103_1
                            try clear hx103_2
                            try clear hx103_3
                            try clear hx105_0
                            try clear hx105_1
                            try clear hx105_2
                            try clear hx105_3
                            try clear hx107_0
                            try clear hx107_1
                            try clear hx107_2
                            try clear hx107_3
                            try clear p1
                            try clear p10
                            try clear p103
                            try clear p105
                            try clear p107
                            try clear p2
                            try clear p6
                            try clear q1
                            try clear q10
                            try clear q103
                            try clear q105
                            try clear q107
                            obtain ⟨kq, x54_16, rfl, HA, HJ16, BK106, HB⟩ := hcut
                            cases kq with
                            | zero => exact absurd HA.out (by simp [broke_Check.j3])
                            | succ kj16 =>
                              have H := HA.out
                              clear HA
                              simp only [broke_Check.j3] at H
                              by_cases c25 : x54_16 = true
                              · subst c25
                                have H1 : (some 9) = some r := by rw [if_pos rfl] at H; exact H
                                clear H
                                have H := H1
                                clear H1
                                obtain rfl := Option.some.inj H
                                go_wp2
                                repeat (go_quiet (fail); try go_wp2)
                                go_ret
                                exact ⟨by first | rfl | (simp [errW_none, errW_some] <;> rfl) | (simp [*, errW_none, errW_some] <;> rfl), by repeat (first | (with_reducible first | exact HB.out | apply below_alloc | apply pw_below_drewN | apply below_drew1 | refine below_set ?_ GE106.out) | exact HB.out)⟩
                              · replace c25 := Bool.eq_false_iff.mpr c25
                                subst c25
                                have H1 : (if ((rd_T32 l0 x35_3).f1) = 6 then (broke_Check.j4 kj16 l0 a1 x7_3 (l0.length : Int) x35_3 (decide (((rd_T32 l0 x35_3).f2) > x7_3)) ((rd_T32 l0 x35_3).f0) ((rd_T32 l0 x35_3).f1) ((rd_T32 l0 x35_3).f2) ((rd_T32 l0 x35_3).f3)) else (broke_Check.j4 kj16 l0 a1 x7_3 (l0.length : Int) x35_3 false ((rd_T32 l0 x35_3).f0) ((rd_T32 l0 x35_3).f1) ((rd_T32 l0 x35_3).f2) ((rd_T32 l0 x35_3).f3))) = some r := by rw [if_neg (show ¬ (false = true) by decide)] at H; exact H
                                clear H
                                have H := H1
                                clear H1
                                have HC26 := Aside0.mk H
                                clear H
                                go_upto_region 19 with (fail)
                                repeat (go_quiet (fail); go_upto_region 19 with (fail))
                                go_cut [63] (fun v63 wc => ∃ (kq : Nat) (x63_25 : Bool), v63 = .bool x63_25 ∧ Aside0 (broke_Check.j4 kq l0 a1 x7_3 (l0.length : Int) x35_3 x63_25 ((rd_T32 l0 x35_3).f0) ((rd_T32 l0 x35_3).f1) ((rd_T32 l0 x35_3).f2) ((rd_T32 l0 x35_3).f3) = some r) ∧ Aside0 (kq ≤ kj16) ∧ Aside0 (wc.heap[gb106]? = some (.cells #[.int .i64 ((rd_T32 l0 x35_3).f0), .int .i64 ((rd_T32 l0 x35_3).f1), .int .i64 ((rd_T32 l0 x35_3).f2), .int .i64 ((rd_T32 l0 x35_3).f3)] 32 (0, 0))) ∧ Aside0 (Below w.heap.size w wc))
                                case first =>
                                  have H := HC26.out
                                  clear HC26
                                  by_cases c27 : ((rd_T32 l0 x35_3).f1) = 6
                                  · rw [if_pos c27] at H
                                    have c27b0 : (((rd_T32 l0 x35_3).f1) == 6) = true := beq_iff_eq.mpr c27
                                    have c27b1 : (((rd_T32 l0 x35_3).f1) != 6) = false := bne_eq_false_iff_eq.mpr c27
                                    clear c27
                                    (first | rw [c27b0] | (simp only [i64_w, i32_w]; rw [c27b0]) | skip)
                                    have H' := Aside0.mk H
                                    clear H
                                    have hcz28_0 : wc.cell? ⟨gb106, 0, none⟩ = some (.int .i64 ((rd_T32 l0 x35_3).f0)) := (blk_cell BK106.out 0).trans rfl
                                    have hcz28_1 : wc.cell? ⟨gb106, 1, none⟩ = some (.int .i64 ((rd_T32 l0 x35_3).f1)) := (blk_cell BK106.out 1).trans rfl
                                    have hcz28_2 : wc.cell? ⟨gb106, 2, none⟩ = some (.int .i64 ((rd_T32 l0 x35_3).f2)) := (blk_cell BK106.out 2).trans rfl
                                    have hcz28_3 : wc.cell? ⟨gb106, 3, none⟩ = some (.int .i64 ((rd_T32 l0 x35_3).f3)) := (blk_cell BK106.out 3).trans rfl
                                    have hfz28_0 := blk_frozen BK106.out 0
                                    have hfz28_1 := blk_frozen BK106.out 1
                                    have hfz28_2 := blk_frozen BK106.out 2
                                    have hfz28_3 := blk_frozen BK106.out 3
                                    go_wp2
                                    repeat (go_quiet (fail); try go_wp2)
                                    go_meet
                                    case rel => exact ⟨_, (decide (((rd_T32 l0 x35_3).f2) > x7_3)), (by first | rfl | (simp; done) | (simp [*]; done)), H', ⟨by have := HJ2.out; have := HK2.out; have := HK3.out; have := HJ16.out; first | omega | exact Nat.le_refl _⟩, ⟨by (with_reducible repeat (first | refine blk_drewN ?_ _ | refine blk_drew ?_ | refine blk_alloc ?_ _)); exact BK106.out⟩, ⟨by repeat (first | (with_reducible first | exact HB.out | apply below_alloc | apply pw_below_drewN | apply below_drew1 | refine below_set ?_ GE106.out) | exact HB.out)⟩⟩
                                  · rw [if_neg c27] at H
                                    have c27b0 : (((rd_T32 l0 x35_3).f1) == 6) = false := beq_eq_false_iff_ne.mpr c27
                                    have c27b1 : (((rd_T32 l0 x35_3).f1) != 6) = true := bne_iff_ne.mpr c27
                                    (first | rw [c27b0] | (simp only [i64_w, i32_w]; rw [c27b0]) | skip)
                                    have H' := Aside0.mk H
                                    clear H
                                    have hcz29_0 : wc.cell? ⟨gb106, 0, none⟩ = some (.int .i64 ((rd_T32 l0 x35_3).f0)) := (blk_cell BK106.out 0).trans rfl
                                    have hcz29_1 : wc.cell? ⟨gb106, 1, none⟩ = some (.int .i64 ((rd_T32 l0 x35_3).f1)) := (blk_cell BK106.out 1).trans rfl
                                    have hcz29_2 : wc.cell? ⟨gb106, 2, none⟩ = some (.int .i64 ((rd_T32 l0 x35_3).f2)) := (blk_cell BK106.out 2).trans rfl
                                    have hcz29_3 : wc.cell? ⟨gb106, 3, none⟩ = some (.int .i64 ((rd_T32 l0 x35_3).f3)) := (blk_cell BK106.out 3).trans rfl
                                    have hfz29_0 := blk_frozen BK106.out 0
                                    have hfz29_1 := blk_frozen BK106.out 1
                                    have hfz29_2 := blk_frozen BK106.out 2
                                    have hfz29_3 := blk_frozen BK106.out 3
                                    go_wp2
                                    repeat (go_quiet (fail); try go_wp2)
                                    go_meet
                                    case rel => exact ⟨_, (false), (by first | rfl | (simp; done) | (simp [*]; done)), H', ⟨by have := HJ2.out; have := HK2.out; have := HK3.out; have := HJ16.out; first | omega | exact Nat.le_refl _⟩, ⟨by (with_reducible repeat (first | refine blk_drewN ?_ _ | refine blk_drew ?_ | refine blk_alloc ?_ _)); exact BK106.out⟩, ⟨by repeat (first | (with_reducible first | exact HB.out | apply below_alloc | apply pw_below_drewN | apply below_drew1 | refine below_set ?_ GE106.out) | exact HB.out)⟩⟩
                                case rest =>
                                  clear HC26
                                  try clear c1
                                  try clear p1
                                  try clear q1
                                  try clear hx1
                                  try clear c2
                                  try clear p2
                                  try clear c4
                                  try clear c4b0
                                  try clear c5
                                  try clear c6
                                  try clear c6b0
                                  try clear c6b1
                                  try clear p6
                                  try clear c7
                                  try clear c7b0
                                  try clear c8
                                  try clear c8b0
                                  try clear c9
                                  try clear c9b0
                                  try clear p10
                                  try clear q10
                                  try clear hx10
                                  try clear c11
                                  try clear c11b0
                                  try clear c11b1
                                  try clear c14
                                  try clear c14b0
                                  try clear c15
                                  try clear c15b0
                                  try clear c16
                                  try clear c16b0
                                  try clear c20
                                  try clear c20b0
                                  try clear c22
                                  try clear c22b0
                                  try clear c23
                                  try clear c23b0
                                  try clear c25
                                  try clear c27
                                  try clear c27b0
                                  try clear c27b1
                                  try clear hcz19_0
                                  try clear hcz19_1
                                  try clear hcz19_2
                                  try clear hcz19_3
                                  try clear hcz24_0
                                  try clear hcz24_1
                                  try clear hcz24_2
                                  try clear hcz24_3
                                  try clear hcz28_0
                                  try clear hcz28_1
                                  try clear hcz28_2
                                  try clear hcz28_3
                                  try clear hcz29_0
                                  try clear hcz29_1
                                  try clear hcz29_2
                                  try clear hcz29_3
                                  try clear hfz19_0
                                  try clear hfz19_1
                                  try clear hfz19_2
                                  try clear hfz19_3
                                  try clear hfz24_0
                                  try clear hfz24_1
                                  try clear hfz24_2
                                  try clear hfz24_3
                                  try clear hfz28_0
                                  try clear hfz28_1
                                  try clear hfz28_2
                                  try clear hfz28_3
                                  try clear hfz29_0
                                  try clear hfz29_1
                                  try clear hfz29_2
                                  try clear hfz29_3
                                  try clear hx103_0
                                  try clear hx103_1
                                  try clear hx103_2
                                  try clear hx103_3
                                  try clear hx105_0
                                  try clear hx105_1
                                  try clear hx105_2
                                  try clear hx105_3
                                  try clear hx107_0
                                  try clear hx107_1
                                  try clear hx107_2
                                  try clear hx107_3
                                  try clear p1
                                  try clear p10
                                  try clear p103
                                  try clear p105
                                  try clear p107
                                  try clear p2
                                  try clear p6
                                  try clear q1
                                  try clear q10
                                  try clear q103
                                  try clear q105
                                  try clear q107
                                  obtain ⟨kq, x63_25, rfl, HA, HJ25, BK106, HB⟩ := hcut
                                  cases kq with
                                  | zero => exact absurd HA.out (by simp [broke_Check.j4])
                                  | succ kj25 =>
                                    have H := HA.out
                                    clear HA
                                    simp only [broke_Check.j4] at H
                                    by_cases c30 : x63_25 = true
                                    · subst c30
                                      have H1 : (some 19) = some r := by rw [if_pos rfl] at H; exact H
                                      clear H
                                      have H := H1
                                      clear H1
                                      obtain rfl := Option.some.inj H
                                      go_wp2
                                      repeat (go_quiet (fail); try go_wp2)
                                      go_ret
                                      exact ⟨by first | rfl | (simp [errW_none, errW_some] <;> rfl) | (simp [*, errW_none, errW_some] <;> rfl), by repeat (first | (with_reducible first | exact HB.out | apply below_alloc | apply pw_below_drewN | apply below_drew1 | refine below_set ?_ GE106.out) | exact HB.out)⟩
                                    · replace c30 := Bool.eq_false_iff.mpr c30
                                      subst c30
                                      have H1 : ((broke_signed.f kj25 ((rd_T32 l0 x35_3).f0) ((rd_T32 l0 x35_3).f1) ((rd_T32 l0 x35_3).f2) ((rd_T32 l0 x35_3).f3)).bind fun t108 => (if (wrap64 (x7_3 + t108)) > a1 then (some 8) else (broke_Check.l1 kj25 l0 a1 (wrap64 (x7_3 + t108)) (l0.length : Int) (wrap64 (x35_3 + 1))))) = some r := by rw [if_neg (show ¬ (false = true) by decide)] at H; exact H
                                      clear H
                                      have H := H1
                                      clear H1
                                      replace H := Option.bind_eq_some_iff.mp H
                                      obtain ⟨t108, A310, H⟩ := H
                                      replace H : (if (wrap64 (x7_3 + t108)) > a1 then (some 8) else (broke_Check.l1 kj25 l0 a1 (wrap64 (x7_3 + t108)) (l0.length : Int) (wrap64 (x35_3 + 1)))) = some r := H
                                      have A31 := Aside0.mk A310
                                      clear A310
                                      by_cases c32 : (wrap64 (x7_3 + t108)) > a1
                                      · rw [if_pos c32] at H
                                        have c32b0 : decide (a1 < (wrap64 (x7_3 + t108))) = true := decide_eq_true c32
                                        clear c32
                                        obtain rfl := Option.some.inj H
                                        have hcz33_0 : wc.cell? ⟨gb106, 0, none⟩ = some (.int .i64 ((rd_T32 l0 x35_3).f0)) := (blk_cell BK106.out 0).trans rfl
                                        have hcz33_1 : wc.cell? ⟨gb106, 1, none⟩ = some (.int .i64 ((rd_T32 l0 x35_3).f1)) := (blk_cell BK106.out 1).trans rfl
                                        have hcz33_2 : wc.cell? ⟨gb106, 2, none⟩ = some (.int .i64 ((rd_T32 l0 x35_3).f2)) := (blk_cell BK106.out 2).trans rfl
                                        have hcz33_3 : wc.cell? ⟨gb106, 3, none⟩ = some (.int .i64 ((rd_T32 l0 x35_3).f3)) := (blk_cell BK106.out 3).trans rfl
                                        have hfz33_0 := blk_frozen BK106.out 0
                                        have hfz33_1 := blk_frozen BK106.out 1
                                        have hfz33_2 := blk_frozen BK106.out 2
                                        have hfz33_3 := blk_frozen BK106.out 3
                                        go_wp2_with (first | (go_at_call 19; (with_reducible refine (broke_signed.calls kj25 ((rd_T32 l0 x35_3).f0) ((rd_T32 l0 x35_3).f1) ((rd_T32 l0 x35_3).f2) ((rd_T32 l0 x35_3).f3) t108 _ A31.out).mono ?_); rintro e w34 ⟨rfl, hb⟩; have n0_ := Aside0.mk (blk_below (g := gb106) (o := .cells #[.int .i64 ((rd_T32 l0 x35_3).f0), .int .i64 ((rd_T32 l0 x35_3).f1), .int .i64 ((rd_T32 l0 x35_3).f2), .int .i64 ((rd_T32 l0 x35_3).f3)] 32 (0, 0)) (by (with_reducible repeat (first | refine blk_drewN ?_ _ | refine blk_drew ?_ | refine blk_alloc ?_ _)); exact BK106.out) hb); have n1_ := Aside0.mk (below_step (by repeat (first | (with_reducible first | exact HB.out | apply below_alloc | apply pw_below_drewN | apply below_drew1 | refine below_set ?_ GE106.out) | exact HB.out)) hb); clear BK106; clear HB; have BK106 := n0_; have HB := n1_; clear n0_ n1_; (try clear hb); (try clear hb2); (try clear hk); (try clear hi)))
                                        repeat (go_quiet (first | (go_at_call 19; (with_reducible refine (broke_signed.calls kj25 ((rd_T32 l0 x35_3).f0) ((rd_T32 l0 x35_3).f1) ((rd_T32 l0 x35_3).f2) ((rd_T32 l0 x35_3).f3) t108 _ A31.out).mono ?_); rintro e w34 ⟨rfl, hb⟩; have n0_ := Aside0.mk (blk_below (g := gb106) (o := .cells #[.int .i64 ((rd_T32 l0 x35_3).f0), .int .i64 ((rd_T32 l0 x35_3).f1), .int .i64 ((rd_T32 l0 x35_3).f2), .int .i64 ((rd_T32 l0 x35_3).f3)] 32 (0, 0)) (by (with_reducible repeat (first | refine blk_drewN ?_ _ | refine blk_drew ?_ | refine blk_alloc ?_ _)); exact BK106.out) hb); have n1_ := Aside0.mk (below_step (by repeat (first | (with_reducible first | exact HB.out | apply below_alloc | apply pw_below_drewN | apply below_drew1 | refine below_set ?_ GE106.out) | exact HB.out)) hb); clear BK106; clear HB; have BK106 := n0_; have HB := n1_; clear n0_ n1_; (try clear hb); (try clear hb2); (try clear hk); (try clear hi))); try go_wp2_with (first | (go_at_call 19; (with_reducible refine (broke_signed.calls kj25 ((rd_T32 l0 x35_3).f0) ((rd_T32 l0 x35_3).f1) ((rd_T32 l0 x35_3).f2) ((rd_T32 l0 x35_3).f3) t108 _ A31.out).mono ?_); rintro e w34 ⟨rfl, hb⟩; have n0_ := Aside0.mk (blk_below (g := gb106) (o := .cells #[.int .i64 ((rd_T32 l0 x35_3).f0), .int .i64 ((rd_T32 l0 x35_3).f1), .int .i64 ((rd_T32 l0 x35_3).f2), .int .i64 ((rd_T32 l0 x35_3).f3)] 32 (0, 0)) (by (with_reducible repeat (first | refine blk_drewN ?_ _ | refine blk_drew ?_ | refine blk_alloc ?_ _)); exact BK106.out) hb); have n1_ := Aside0.mk (below_step (by repeat (first | (with_reducible first | exact HB.out | apply below_alloc | apply pw_below_drewN | apply below_drew1 | refine below_set ?_ GE106.out) | exact HB.out)) hb); clear BK106; clear HB; have BK106 := n0_; have HB := n1_; clear n0_ n1_; (try clear hb); (try clear hb2); (try clear hk); (try clear hi))))
                                        go_ret
                                        exact ⟨by first | rfl | (simp [errW_none, errW_some] <;> rfl) | (simp [*, errW_none, errW_some] <;> rfl), by repeat (first | (with_reducible first | exact HB.out | apply below_alloc | apply pw_below_drewN | apply below_drew1 | refine below_set ?_ GE106.out) | exact HB.out)⟩
                                      · rw [if_neg c32] at H
                                        have c32b0 : decide (a1 < (wrap64 (x7_3 + t108))) = false := decide_eq_false c32
                                        clear c32
                                        have H' := Aside0.mk H
                                        clear H
                                        have hcz35_0 : wc.cell? ⟨gb106, 0, none⟩ = some (.int .i64 ((rd_T32 l0 x35_3).f0)) := (blk_cell BK106.out 0).trans rfl
                                        have hcz35_1 : wc.cell? ⟨gb106, 1, none⟩ = some (.int .i64 ((rd_T32 l0 x35_3).f1)) := (blk_cell BK106.out 1).trans rfl
                                        have hcz35_2 : wc.cell? ⟨gb106, 2, none⟩ = some (.int .i64 ((rd_T32 l0 x35_3).f2)) := (blk_cell BK106.out 2).trans rfl
                                        have hcz35_3 : wc.cell? ⟨gb106, 3, none⟩ = some (.int .i64 ((rd_T32 l0 x35_3).f3)) := (blk_cell BK106.out 3).trans rfl
                                        have hfz35_0 := blk_frozen BK106.out 0
                                        have hfz35_1 := blk_frozen BK106.out 1
                                        have hfz35_2 := blk_frozen BK106.out 2
                                        have hfz35_3 := blk_frozen BK106.out 3
                                        go_wp2_with (first | (go_at_call 19; (with_reducible refine (broke_signed.calls kj25 ((rd_T32 l0 x35_3).f0) ((rd_T32 l0 x35_3).f1) ((rd_T32 l0 x35_3).f2) ((rd_T32 l0 x35_3).f3) t108 _ A31.out).mono ?_); rintro e w36 ⟨rfl, hb⟩; have n0_ := Aside0.mk (blk_below (g := gb106) (o := .cells #[.int .i64 ((rd_T32 l0 x35_3).f0), .int .i64 ((rd_T32 l0 x35_3).f1), .int .i64 ((rd_T32 l0 x35_3).f2), .int .i64 ((rd_T32 l0 x35_3).f3)] 32 (0, 0)) (by (with_reducible repeat (first | refine blk_drewN ?_ _ | refine blk_drew ?_ | refine blk_alloc ?_ _)); exact BK106.out) hb); have n1_ := Aside0.mk (below_step (by repeat (first | (with_reducible first | exact HB.out | apply below_alloc | apply pw_below_drewN | apply below_drew1 | refine below_set ?_ GE106.out) | exact HB.out)) hb); clear BK106; clear HB; have BK106 := n0_; have HB := n1_; clear n0_ n1_; (try clear hb); (try clear hb2); (try clear hk); (try clear hi)))
                                        repeat (go_quiet (first | (go_at_call 19; (with_reducible refine (broke_signed.calls kj25 ((rd_T32 l0 x35_3).f0) ((rd_T32 l0 x35_3).f1) ((rd_T32 l0 x35_3).f2) ((rd_T32 l0 x35_3).f3) t108 _ A31.out).mono ?_); rintro e w36 ⟨rfl, hb⟩; have n0_ := Aside0.mk (blk_below (g := gb106) (o := .cells #[.int .i64 ((rd_T32 l0 x35_3).f0), .int .i64 ((rd_T32 l0 x35_3).f1), .int .i64 ((rd_T32 l0 x35_3).f2), .int .i64 ((rd_T32 l0 x35_3).f3)] 32 (0, 0)) (by (with_reducible repeat (first | refine blk_drewN ?_ _ | refine blk_drew ?_ | refine blk_alloc ?_ _)); exact BK106.out) hb); have n1_ := Aside0.mk (below_step (by repeat (first | (with_reducible first | exact HB.out | apply below_alloc | apply pw_below_drewN | apply below_drew1 | refine below_set ?_ GE106.out) | exact HB.out)) hb); clear BK106; clear HB; have BK106 := n0_; have HB := n1_; clear n0_ n1_; (try clear hb); (try clear hb2); (try clear hk); (try clear hi))); try go_wp2_with (first | (go_at_call 19; (with_reducible refine (broke_signed.calls kj25 ((rd_T32 l0 x35_3).f0) ((rd_T32 l0 x35_3).f1) ((rd_T32 l0 x35_3).f2) ((rd_T32 l0 x35_3).f3) t108 _ A31.out).mono ?_); rintro e w36 ⟨rfl, hb⟩; have n0_ := Aside0.mk (blk_below (g := gb106) (o := .cells #[.int .i64 ((rd_T32 l0 x35_3).f0), .int .i64 ((rd_T32 l0 x35_3).f1), .int .i64 ((rd_T32 l0 x35_3).f2), .int .i64 ((rd_T32 l0 x35_3).f3)] 32 (0, 0)) (by (with_reducible repeat (first | refine blk_drewN ?_ _ | refine blk_drew ?_ | refine blk_alloc ?_ _)); exact BK106.out) hb); have n1_ := Aside0.mk (below_step (by repeat (first | (with_reducible first | exact HB.out | apply below_alloc | apply pw_below_drewN | apply below_drew1 | refine below_set ?_ GE106.out) | exact HB.out)) hb); clear BK106; clear HB; have BK106 := n0_; have HB := n1_; clear n0_ n1_; (try clear hb); (try clear hb2); (try clear hk); (try clear hi))))
                                        go_roundg kj25
                                        case measure => have := HJ2.out; have := HK2.out; have := HK3.out; have := HJ16.out; have := HJ25.out; omega
                                        case rel => exact ⟨(wrap64 (x7_3 + t108)), (wrap64 (x35_3 + 1)), (by first | rfl | (simp; done) | (simp [*]; done)), (by first | rfl | (simp; done) | (simp [*]; done)), H', ⟨by have := HJ2.out; have := HK2.out; have := HK3.out; have := HJ16.out; have := HJ25.out; omega⟩, ⟨by repeat (first | (with_reducible first | exact HB.out | apply below_alloc | apply pw_below_drewN | apply below_drew1 | refine below_set ?_ GE106.out) | exact HB.out)⟩⟩
                        · rw [if_neg c16] at H
                          exact absurd H (by simp)
                      · rw [if_neg c15] at H
                        exact absurd H (by simp)
                    · rw [if_neg c14] at H
                      have c14b0 : decide (x35_3 < (l0.length : Int)) = false := decide_eq_false c14
                      clear c14
                      obtain rfl := Option.some.inj H
                      go_wp2
                      repeat (go_quiet (fail); try go_wp2)
                      go_ret
                      exact ⟨by first | rfl | (simp [errW_none, errW_some] <;> rfl) | (simp [*, errW_none, errW_some] <;> rfl), by repeat (first | (with_reducible first | exact HB.out | apply below_alloc | apply pw_below_drewN | apply below_drew1) | exact HB.out)⟩

end Go.Proofs.Ythbpjiembjapdaa.P
