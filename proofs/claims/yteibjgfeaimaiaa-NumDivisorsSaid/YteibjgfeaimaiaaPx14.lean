-- Written by a program (wip/prog/pp.py) over the kit's print; some of its functions are proved by hand. Not trusted: Lean checks it.
import Derived.Test.YteibjgfeaimaiaaPx0
import Derived.Test.YteibjgfeaimaiaaPx4
import Derived.Test.YteibjgfeaimaiaaPx5
import Derived.Test.YteibjgfeaimaiaaPx6
namespace Go.Proofs.Yteibjgfeaimaiaa.P
open Go.RowKit Go.Proofs.YteibjgfeaimaiaaW.PrintWords Go.Proofs.YteibjgfeaimaiaaW.PrintLast Go.Proofs.YteibjgfeaimaiaaW.PrintMore
attribute [local go_sem] max2_int min2_int max_two min_two max_three min_three max_four min_four   -- for this text's walks alone
set_option linter.unusedVariables false
set_option linter.unusedSimpArgs false

/-! ### papermilllaw01_NumDivisors: function 8 -/
mutual
def papermilllaw01_NumDivisors.j1 : Nat → Int → Option (Bool)
  | 0, _ => none
  | k + 1, x0 => (num_Sqrt.f k x0).bind fun bt225 => (if bt225.2 = 0 then (if bt225.1 ≥ 0 then (if bt225.1 ≤ 33554432 then (if (wrap64 (bt225.1 * bt225.1)) ≤ x0 then (if (wrap64 ((wrap64 (bt225.1 + 1)) * (wrap64 (bt225.1 + 1)))) > x0 then ((papermilllaw01_awake.f k).bind fun t227 => (some t227)) else (some false)) else (some false)) else (some false)) else (some false)) else (if bt225.1 = 0 then (if x0 < 0 then ((papermilllaw01_awake.f k).bind fun t228 => (some t228)) else (if x0 > 1125899906842624 then ((papermilllaw01_awake.f k).bind fun t229 => (some t229)) else (some false))) else (some false)))
def papermilllaw01_NumDivisors.j0 : Nat → Int → Int → Int → Int → Bool → Option (Bool)
  | 0, _, _, _, _, _ => none
  | k + 1, x0, x1, x2, x7, x48 => if x48 = true then (some false) else (if x2 = 0 then (papermilllaw01_NumDivisors.j1 k x0) else (if (Int.tmod x0 x2) = 0 then (if (Int.tmod x1 x2) = 0 then (if (Int.tmod x7 x2) = 0 then (papermilllaw01_NumDivisors.j1 k x0) else (some false)) else (papermilllaw01_NumDivisors.j1 k x0)) else (papermilllaw01_NumDivisors.j1 k x0)))
end
def papermilllaw01_NumDivisors.f (k : Nat) (a0 : Int) (a1 : Int) (a2 : Int) : Option (Bool) := (num_Gcd.f k a0 a1).bind fun bt223 => (if bt223.2 = 0 then (if bt223.1 < 0 then (papermilllaw01_NumDivisors.j0 k a0 a1 a2 bt223.1 true) else (if bt223.1 = 0 then (if a0 = 0 then (if a1 = 0 then (if bt223.1 > 0 then (none) else (papermilllaw01_NumDivisors.j0 k a0 a1 a2 bt223.1 false)) else (papermilllaw01_NumDivisors.j0 k a0 a1 a2 bt223.1 true)) else (papermilllaw01_NumDivisors.j0 k a0 a1 a2 bt223.1 true)) else (if bt223.1 > 0 then (if (Int.tmod a0 bt223.1) = 0 then (papermilllaw01_NumDivisors.j0 k a0 a1 a2 bt223.1 ((Int.tmod a1 bt223.1) != 0)) else (papermilllaw01_NumDivisors.j0 k a0 a1 a2 bt223.1 true)) else (papermilllaw01_NumDivisors.j0 k a0 a1 a2 bt223.1 false)))) else (papermilllaw01_NumDivisors.j1 k a0))
theorem papermilllaw01_NumDivisors.mono_l : ∀ k, (∀ y0, LeO (papermilllaw01_NumDivisors.j1 k y0) (papermilllaw01_NumDivisors.j1 (k + 1) y0)) ∧ (∀ y0 y1 y2 y3 y4, LeO (papermilllaw01_NumDivisors.j0 k y0 y1 y2 y3 y4) (papermilllaw01_NumDivisors.j0 (k + 1) y0 y1 y2 y3 y4))
  | 0 => ⟨fun _ r h => by simp [papermilllaw01_NumDivisors.j1] at h, fun _ _ _ _ _ r h => by simp [papermilllaw01_NumDivisors.j0] at h⟩
  | k + 1 => by
    obtain ⟨ih0, ih1⟩ := papermilllaw01_NumDivisors.mono_l k
    refine ⟨?_, ?_⟩
    · intro y0
      unfold papermilllaw01_NumDivisors.j1
      repeat' first
      | (with_reducible exact ih0 _)
      | (with_reducible exact ih1 _ _ _ _ _)
      | (with_reducible exact num_Gcd.mono _ _ _)
      | (with_reducible exact num_Sqrt.mono _ _)
      | (with_reducible exact papermilllaw01_awake.mono _)
      | (with_reducible exact LeO.refl _)
      | (with_reducible exact LeO.none _)
      | (with_reducible refine LeO.ite ?_ ?_)
      | (with_reducible refine LeO.bind ?_ (fun _ => ?_))
      | exact ih0 _
      | exact ih1 _ _ _ _ _
      | exact num_Gcd.mono _ _ _
      | exact num_Sqrt.mono _ _
      | exact papermilllaw01_awake.mono _
      | exact LeO.none _
      | refine LeO.ite ?_ ?_
      | refine LeO.bind ?_ (fun _ => ?_)
    · intro y0 y1 y2 y3 y4
      unfold papermilllaw01_NumDivisors.j0
      repeat' first
      | (with_reducible exact ih0 _)
      | (with_reducible exact ih1 _ _ _ _ _)
      | (with_reducible exact num_Gcd.mono _ _ _)
      | (with_reducible exact num_Sqrt.mono _ _)
      | (with_reducible exact papermilllaw01_awake.mono _)
      | (with_reducible exact LeO.refl _)
      | (with_reducible exact LeO.none _)
      | (with_reducible refine LeO.ite ?_ ?_)
      | (with_reducible refine LeO.bind ?_ (fun _ => ?_))
      | exact ih0 _
      | exact ih1 _ _ _ _ _
      | exact num_Gcd.mono _ _ _
      | exact num_Sqrt.mono _ _
      | exact papermilllaw01_awake.mono _
      | exact LeO.none _
      | refine LeO.ite ?_ ?_
      | refine LeO.bind ?_ (fun _ => ?_)
theorem papermilllaw01_NumDivisors.mono : ∀ a0 a1 a2 k, LeO (papermilllaw01_NumDivisors.f k a0 a1 a2) (papermilllaw01_NumDivisors.f (k + 1) a0 a1 a2) := by
  intro a0 a1 a2 k
  obtain ⟨ih0, ih1⟩ := papermilllaw01_NumDivisors.mono_l k
  unfold papermilllaw01_NumDivisors.f
  repeat' first
      | (with_reducible exact ih0 _)
      | (with_reducible exact ih1 _ _ _ _ _)
      | (with_reducible exact num_Gcd.mono _ _ _)
      | (with_reducible exact num_Sqrt.mono _ _)
      | (with_reducible exact papermilllaw01_awake.mono _)
      | (with_reducible exact LeO.refl _)
      | (with_reducible exact LeO.none _)
      | (with_reducible refine LeO.ite ?_ ?_)
      | (with_reducible refine LeO.bind ?_ (fun _ => ?_))
      | exact ih0 _
      | exact ih1 _ _ _ _ _
      | exact num_Gcd.mono _ _ _
      | exact num_Sqrt.mono _ _
      | exact papermilllaw01_awake.mono _
      | exact LeO.none _
      | refine LeO.ite ?_ ?_
      | refine LeO.bind ?_ (fun _ => ?_)
set_option maxHeartbeats 8000000 in
set_option maxRecDepth 100000 in
theorem papermilllaw01_NumDivisors.calls (k : Nat) (a0 : Int) (a1 : Int) (a2 : Int) (r : Bool) (w : World) (hr_ : Aside0 (r = true)) (h : papermilllaw01_NumDivisors.f k a0 a1 a2 = some r) :
    Calls Try.prog 8 #[.int .i64 a0, .int .i64 a1, .int .i64 a2] w fun e w' => e = .returned (.bool r) ∧ Below w.heap.size w w' := by
  have HB := Aside0.mk (Below.refl w.heap.size w)
  have H : ((num_Gcd.f k a0 a1).bind fun bt223 => (if bt223.2 = 0 then (if bt223.1 < 0 then (papermilllaw01_NumDivisors.j0 k a0 a1 a2 bt223.1 true) else (if bt223.1 = 0 then (if a0 = 0 then (if a1 = 0 then (if bt223.1 > 0 then (none) else (papermilllaw01_NumDivisors.j0 k a0 a1 a2 bt223.1 false)) else (papermilllaw01_NumDivisors.j0 k a0 a1 a2 bt223.1 true)) else (papermilllaw01_NumDivisors.j0 k a0 a1 a2 bt223.1 true)) else (if bt223.1 > 0 then (if (Int.tmod a0 bt223.1) = 0 then (papermilllaw01_NumDivisors.j0 k a0 a1 a2 bt223.1 ((Int.tmod a1 bt223.1) != 0)) else (papermilllaw01_NumDivisors.j0 k a0 a1 a2 bt223.1 true)) else (papermilllaw01_NumDivisors.j0 k a0 a1 a2 bt223.1 false)))) else (papermilllaw01_NumDivisors.j1 k a0))) = some r := h
  clear h
  replace H := Option.bind_eq_some_iff.mp H
  obtain ⟨⟨t223, t224⟩, A40, H⟩ := H
  replace H : (if t224 = 0 then (if t223 < 0 then (papermilllaw01_NumDivisors.j0 k a0 a1 a2 t223 true) else (if t223 = 0 then (if a0 = 0 then (if a1 = 0 then (if t223 > 0 then (none) else (papermilllaw01_NumDivisors.j0 k a0 a1 a2 t223 false)) else (papermilllaw01_NumDivisors.j0 k a0 a1 a2 t223 true)) else (papermilllaw01_NumDivisors.j0 k a0 a1 a2 t223 true)) else (if t223 > 0 then (if (Int.tmod a0 t223) = 0 then (papermilllaw01_NumDivisors.j0 k a0 a1 a2 t223 ((Int.tmod a1 t223) != 0)) else (papermilllaw01_NumDivisors.j0 k a0 a1 a2 t223 true)) else (papermilllaw01_NumDivisors.j0 k a0 a1 a2 t223 false)))) else (papermilllaw01_NumDivisors.j1 k a0)) = some r := H
  have A4 := Aside0.mk A40
  clear A40
  have HC5 := Aside0.mk H
  clear H
  go_enter Try.func8, Try.ntmps8
  go_upto_if 18 with (first | ((with_reducible refine gate_callee (f := 17) rfl ?_); refine goesL_ (some 14) rfl rfl Try.func17 (by kernel_rfl) rfl #[.int .i64 a0, .int .i64 a1] rfl (by (try simp only [List.map_toArray, List.map_cons, List.map_nil]); first | done | rfl | (simp only [List.length_drop, List.length_take]; rfl)) ?_; (with_reducible refine (num_Gcd.calls k a0 a1 t223 t224 _ A4.out).mono ?_); rintro e w6 ⟨rfl, hb⟩; refine ⟨_, rfl, ?_⟩; have n0_ := Aside0.mk (below_step (by repeat (first | (with_reducible first | exact HB.out | apply below_alloc | apply pw_below_drewN | apply below_drew1) | exact HB.out)) hb); clear HB; have HB := n0_; clear n0_; (try clear hb); (try clear hb2); (try clear hk); (try clear hi)))
  (try simp only [Act.put, List.setIfInBounds_toArray, List.set_cons_zero, List.set_cons_succ])
  go_cut [] (fun wc => ∃ (kq : Nat), Aside0 (papermilllaw01_NumDivisors.j1 kq a0 = some r) ∧ Aside0 (kq ≤ k) ∧ Aside0 (Below w.heap.size w wc))
  case first =>
    have H := HC5.out
    clear HC5
    by_cases c7 : t224 = 0
    · rw [if_pos c7] at H
      have c7b0 : (t224 == 0) = true := beq_iff_eq.mpr c7
      have c7b1 : (t224 != 0) = false := bne_eq_false_iff_eq.mpr c7
      clear c7
      (first | rw [c7b0] | (simp only [i64_w, i32_w]; rw [c7b0]) | skip)
      have HC8 := Aside0.mk H
      clear H
      go_upto_region 3 with (fail)
      go_cut [48] (fun v48 wc => ∃ (kq : Nat) (x48_7 : Bool), v48 = .bool x48_7 ∧ Aside0 (papermilllaw01_NumDivisors.j0 kq a0 a1 a2 t223 x48_7 = some r) ∧ Aside0 (kq ≤ k) ∧ Aside0 (Below w.heap.size w wc))
      case first =>
        have H := HC8.out
        clear HC8
        by_cases c9 : t223 < 0
        · rw [if_pos c9] at H
          have c9b0 : decide (t223 < 0) = true := decide_eq_true c9
          clear c9
          (first | rw [c9b0] | (simp only [i64_w, i32_w]; rw [c9b0]) | skip)
          have H' := Aside0.mk H
          clear H
          go_wp2
          go_meet
          case rel => exact ⟨_, (true), (by first | rfl | (simp; done) | (simp [*]; done)), H', ⟨by first | omega | exact Nat.le_refl _⟩, ⟨by repeat (first | (with_reducible first | exact HB.out | apply below_alloc | apply pw_below_drewN | apply below_drew1) | exact HB.out)⟩⟩
        · rw [if_neg c9] at H
          have c9b0 : decide (t223 < 0) = false := decide_eq_false c9
          clear c9
          (first | rw [c9b0] | (simp only [i64_w, i32_w]; rw [c9b0]) | skip)
          by_cases c10 : t223 = 0
          · rw [if_pos c10] at H
            have c10b0 : (t223 == 0) = true := beq_iff_eq.mpr c10
            have c10b1 : (t223 != 0) = false := bne_eq_false_iff_eq.mpr c10
            clear c10
            by_cases c11 : a0 = 0
            · rw [if_pos c11] at H
              have c11b0 : (a0 == 0) = true := beq_iff_eq.mpr c11
              have c11b1 : (a0 != 0) = false := bne_eq_false_iff_eq.mpr c11
              clear c11
              by_cases c12 : a1 = 0
              · rw [if_pos c12] at H
                have c12b0 : (a1 == 0) = true := beq_iff_eq.mpr c12
                have c12b1 : (a1 != 0) = false := bne_eq_false_iff_eq.mpr c12
                clear c12
                by_cases c13 : t223 > 0
                · rw [if_pos c13] at H
                  exact absurd H (by simp)
                · rw [if_neg c13] at H
                  have c13b0 : decide (0 < t223) = false := decide_eq_false c13
                  clear c13
                  have H' := Aside0.mk H
                  clear H
                  go_wp2
                  go_meet
                  case rel => exact ⟨_, (false), (by first | rfl | (simp; done) | (simp [*]; done)), H', ⟨by first | omega | exact Nat.le_refl _⟩, ⟨by repeat (first | (with_reducible first | exact HB.out | apply below_alloc | apply pw_below_drewN | apply below_drew1) | exact HB.out)⟩⟩
              · rw [if_neg c12] at H
                have c12b0 : (a1 == 0) = false := beq_eq_false_iff_ne.mpr c12
                have c12b1 : (a1 != 0) = true := bne_iff_ne.mpr c12
                have H' := Aside0.mk H
                clear H
                go_wp2
                go_meet
                case rel => exact ⟨_, (true), (by first | rfl | (simp; done) | (simp [*]; done)), H', ⟨by first | omega | exact Nat.le_refl _⟩, ⟨by repeat (first | (with_reducible first | exact HB.out | apply below_alloc | apply pw_below_drewN | apply below_drew1) | exact HB.out)⟩⟩
            · rw [if_neg c11] at H
              have c11b0 : (a0 == 0) = false := beq_eq_false_iff_ne.mpr c11
              have c11b1 : (a0 != 0) = true := bne_iff_ne.mpr c11
              have H' := Aside0.mk H
              clear H
              go_wp2
              go_meet
              case rel => exact ⟨_, (true), (by first | rfl | (simp; done) | (simp [*]; done)), H', ⟨by first | omega | exact Nat.le_refl _⟩, ⟨by repeat (first | (with_reducible first | exact HB.out | apply below_alloc | apply pw_below_drewN | apply below_drew1) | exact HB.out)⟩⟩
          · rw [if_neg c10] at H
            have c10b0 : (t223 == 0) = false := beq_eq_false_iff_ne.mpr c10
            have c10b1 : (t223 != 0) = true := bne_iff_ne.mpr c10
            by_cases c14 : t223 > 0
            · rw [if_pos c14] at H
              have c14b0 : decide (0 < t223) = true := decide_eq_true c14
              clear c14
              by_cases c15 : (Int.tmod a0 t223) = 0
              · rw [if_pos c15] at H
                have c15b0 : ((Int.tmod a0 t223) == 0) = true := beq_iff_eq.mpr c15
                have c15b1 : ((Int.tmod a0 t223) != 0) = false := bne_eq_false_iff_eq.mpr c15
                clear c15
                have H' := Aside0.mk H
                clear H
                go_wp2
                go_meet
                case rel => exact ⟨_, (((Int.tmod a1 t223) != 0)), (by first | rfl | (simp; done) | (simp [*]; done)), H', ⟨by first | omega | exact Nat.le_refl _⟩, ⟨by repeat (first | (with_reducible first | exact HB.out | apply below_alloc | apply pw_below_drewN | apply below_drew1) | exact HB.out)⟩⟩
              · rw [if_neg c15] at H
                have c15b0 : ((Int.tmod a0 t223) == 0) = false := beq_eq_false_iff_ne.mpr c15
                have c15b1 : ((Int.tmod a0 t223) != 0) = true := bne_iff_ne.mpr c15
                have H' := Aside0.mk H
                clear H
                go_wp2
                go_meet
                case rel => exact ⟨_, (true), (by first | rfl | (simp; done) | (simp [*]; done)), H', ⟨by first | omega | exact Nat.le_refl _⟩, ⟨by repeat (first | (with_reducible first | exact HB.out | apply below_alloc | apply pw_below_drewN | apply below_drew1) | exact HB.out)⟩⟩
            · rw [if_neg c14] at H
              have c14b0 : decide (0 < t223) = false := decide_eq_false c14
              clear c14
              have H' := Aside0.mk H
              clear H
              go_wp2
              go_meet
              case rel => exact ⟨_, (false), (by first | rfl | (simp; done) | (simp [*]; done)), H', ⟨by first | omega | exact Nat.le_refl _⟩, ⟨by repeat (first | (with_reducible first | exact HB.out | apply below_alloc | apply pw_below_drewN | apply below_drew1) | exact HB.out)⟩⟩
      case rest =>
        clear HC8
        try clear c1
        try clear p2
        try clear c7
        try clear c7b0
        try clear c7b1
        try clear c8
        try clear c9
        try clear c9b0
        try clear c10
        try clear c10b0
        try clear c10b1
        try clear c11
        try clear c11b0
        try clear c11b1
        try clear c12
        try clear c12b0
        try clear c12b1
        try clear c13
        try clear c13b0
        try clear c14
        try clear c14b0
        try clear c15
        try clear c15b0
        try clear c15b1
        obtain ⟨kq, x48_7, rfl, HA, HJ7, HB⟩ := hcut
        cases kq with
        | zero => exact absurd HA.out (by simp [papermilllaw01_NumDivisors.j0])
        | succ kj7 =>
          have H := HA.out
          clear HA
          simp only [papermilllaw01_NumDivisors.j0] at H
          by_cases c16 : x48_7 = true
          · subst c16
            have H1 : (some false) = some r := by rw [if_pos rfl] at H; exact H
            clear H
            have H := H1
            clear H1
            exact absurd ((Option.some.inj H).trans hr_.out) (by decide)
          · replace c16 := Bool.eq_false_iff.mpr c16
            subst c16
            have H1 : (if a2 = 0 then (papermilllaw01_NumDivisors.j1 kj7 a0) else (if (Int.tmod a0 a2) = 0 then (if (Int.tmod a1 a2) = 0 then (if (Int.tmod t223 a2) = 0 then (papermilllaw01_NumDivisors.j1 kj7 a0) else (some false)) else (papermilllaw01_NumDivisors.j1 kj7 a0)) else (papermilllaw01_NumDivisors.j1 kj7 a0))) = some r := by rw [if_neg (show ¬ (false = true) by decide)] at H; exact H
            clear H
            have H := H1
            clear H1
            by_cases c17 : a2 = 0
            · rw [if_pos c17] at H
              have c17b0 : (a2 == 0) = true := beq_iff_eq.mpr c17
              have c17b1 : (a2 != 0) = false := bne_eq_false_iff_eq.mpr c17
              clear c17
              have H' := Aside0.mk H
              clear H
              go_wp2
              go_meet
              case rel => exact ⟨_, H', ⟨by have := HJ7.out; first | omega | exact Nat.le_refl _⟩, ⟨by repeat (first | (with_reducible first | exact HB.out | apply below_alloc | apply pw_below_drewN | apply below_drew1) | exact HB.out)⟩⟩
            · rw [if_neg c17] at H
              have c17b0 : (a2 == 0) = false := beq_eq_false_iff_ne.mpr c17
              have c17b1 : (a2 != 0) = true := bne_iff_ne.mpr c17
              by_cases c18 : (Int.tmod a0 a2) = 0
              · rw [if_pos c18] at H
                have c18b0 : ((Int.tmod a0 a2) == 0) = true := beq_iff_eq.mpr c18
                have c18b1 : ((Int.tmod a0 a2) != 0) = false := bne_eq_false_iff_eq.mpr c18
                clear c18
                by_cases c19 : (Int.tmod a1 a2) = 0
                · rw [if_pos c19] at H
                  have c19b0 : ((Int.tmod a1 a2) == 0) = true := beq_iff_eq.mpr c19
                  have c19b1 : ((Int.tmod a1 a2) != 0) = false := bne_eq_false_iff_eq.mpr c19
                  clear c19
                  by_cases c20 : (Int.tmod t223 a2) = 0
                  · rw [if_pos c20] at H
                    have c20b0 : ((Int.tmod t223 a2) == 0) = true := beq_iff_eq.mpr c20
                    have c20b1 : ((Int.tmod t223 a2) != 0) = false := bne_eq_false_iff_eq.mpr c20
                    clear c20
                    have H' := Aside0.mk H
                    clear H
                    go_wp2
                    go_meet
                    case rel => exact ⟨_, H', ⟨by have := HJ7.out; first | omega | exact Nat.le_refl _⟩, ⟨by repeat (first | (with_reducible first | exact HB.out | apply below_alloc | apply pw_below_drewN | apply below_drew1) | exact HB.out)⟩⟩
                  · rw [if_neg c20] at H
                    have c20b0 : ((Int.tmod t223 a2) == 0) = false := beq_eq_false_iff_ne.mpr c20
                    have c20b1 : ((Int.tmod t223 a2) != 0) = true := bne_iff_ne.mpr c20
                    exact absurd ((Option.some.inj H).trans hr_.out) (by decide)
                · rw [if_neg c19] at H
                  have c19b0 : ((Int.tmod a1 a2) == 0) = false := beq_eq_false_iff_ne.mpr c19
                  have c19b1 : ((Int.tmod a1 a2) != 0) = true := bne_iff_ne.mpr c19
                  have H' := Aside0.mk H
                  clear H
                  go_wp2
                  go_meet
                  case rel => exact ⟨_, H', ⟨by have := HJ7.out; first | omega | exact Nat.le_refl _⟩, ⟨by repeat (first | (with_reducible first | exact HB.out | apply below_alloc | apply pw_below_drewN | apply below_drew1) | exact HB.out)⟩⟩
              · rw [if_neg c18] at H
                have c18b0 : ((Int.tmod a0 a2) == 0) = false := beq_eq_false_iff_ne.mpr c18
                have c18b1 : ((Int.tmod a0 a2) != 0) = true := bne_iff_ne.mpr c18
                have H' := Aside0.mk H
                clear H
                go_wp2
                go_meet
                case rel => exact ⟨_, H', ⟨by have := HJ7.out; first | omega | exact Nat.le_refl _⟩, ⟨by repeat (first | (with_reducible first | exact HB.out | apply below_alloc | apply pw_below_drewN | apply below_drew1) | exact HB.out)⟩⟩
    · rw [if_neg c7] at H
      have c7b0 : (t224 == 0) = false := beq_eq_false_iff_ne.mpr c7
      have c7b1 : (t224 != 0) = true := bne_iff_ne.mpr c7
      (first | rw [c7b0] | (simp only [i64_w, i32_w]; rw [c7b0]) | skip)
      have H' := Aside0.mk H
      clear H
      go_wp2
      go_meet
      case rel => exact ⟨_, H', ⟨by first | omega | exact Nat.le_refl _⟩, ⟨by repeat (first | (with_reducible first | exact HB.out | apply below_alloc | apply pw_below_drewN | apply below_drew1) | exact HB.out)⟩⟩
  case rest =>
    clear HC5
    try clear c1
    try clear c2
    try clear p2
    try clear c7
    try clear c7b0
    try clear c7b1
    try clear c8
    try clear c9
    try clear c9b0
    try clear c10
    try clear c10b0
    try clear c10b1
    try clear c11
    try clear c11b0
    try clear c11b1
    try clear c12
    try clear c12b0
    try clear c12b1
    try clear c13
    try clear c13b0
    try clear c14
    try clear c14b0
    try clear c15
    try clear c15b0
    try clear c15b1
    try clear c16
    try clear c17
    try clear c17b0
    try clear c17b1
    try clear c18
    try clear c18b0
    try clear c18b1
    try clear c19
    try clear c19b0
    try clear c19b1
    try clear c20
    try clear c20b0
    try clear c20b1
    try clear p2
    obtain ⟨kq, HA, HJ4, HB⟩ := hcut
    cases kq with
    | zero => exact absurd HA.out (by simp [papermilllaw01_NumDivisors.j1])
    | succ kj4 =>
      have H := HA.out
      clear HA
      simp only [papermilllaw01_NumDivisors.j1] at H
      replace H := Option.bind_eq_some_iff.mp H
      obtain ⟨⟨t225, t226⟩, A210, H⟩ := H
      replace H : (if t226 = 0 then (if t225 ≥ 0 then (if t225 ≤ 33554432 then (if (wrap64 (t225 * t225)) ≤ a0 then (if (wrap64 ((wrap64 (t225 + 1)) * (wrap64 (t225 + 1)))) > a0 then ((papermilllaw01_awake.f kj4).bind fun t227 => (some t227)) else (some false)) else (some false)) else (some false)) else (some false)) else (if t225 = 0 then (if a0 < 0 then ((papermilllaw01_awake.f kj4).bind fun t228 => (some t228)) else (if a0 > 1125899906842624 then ((papermilllaw01_awake.f kj4).bind fun t229 => (some t229)) else (some false))) else (some false))) = some r := H
      have A21 := Aside0.mk A210
      clear A210
      by_cases c22 : t226 = 0
      · rw [if_pos c22] at H
        have c22b0 : (t226 == 0) = true := beq_iff_eq.mpr c22
        have c22b1 : (t226 != 0) = false := bne_eq_false_iff_eq.mpr c22
        clear c22
        by_cases c23 : t225 ≥ 0
        · rw [if_pos c23] at H
          have c23b0 : decide (0 ≤ t225) = true := decide_eq_true c23
          clear c23
          by_cases c24 : t225 ≤ 33554432
          · rw [if_pos c24] at H
            have c24b0 : decide (t225 ≤ 33554432) = true := decide_eq_true c24
            clear c24
            by_cases c25 : (wrap64 (t225 * t225)) ≤ a0
            · rw [if_pos c25] at H
              have c25b0 : decide ((wrap64 (t225 * t225)) ≤ a0) = true := decide_eq_true c25
              clear c25
              by_cases c26 : (wrap64 ((wrap64 (t225 + 1)) * (wrap64 (t225 + 1)))) > a0
              · rw [if_pos c26] at H
                have c26b0 : decide (a0 < (wrap64 ((wrap64 (t225 + 1)) * (wrap64 (t225 + 1))))) = true := decide_eq_true c26
                clear c26
                replace H := Option.bind_eq_some_iff.mp H
                obtain ⟨t227, A270, H⟩ := H
                replace H : (some t227) = some r := H
                have A27 := Aside0.mk A270
                clear A270
                first
                  | exact absurd ((Option.some.inj H).trans hr_.out) (by decide)
                  | (skip
                     obtain rfl := Option.some.inj H
                     go_wp2_with (first | ((with_reducible refine gate_callee (f := 19) rfl ?_); refine goesL_ (some 71) rfl rfl Try.func19 (by kernel_rfl) rfl #[.int .i64 a0] rfl (by (try simp only [List.map_toArray, List.map_cons, List.map_nil]); first | done | rfl | (simp only [List.length_drop, List.length_take]; rfl)) ?_; (with_reducible refine (num_Sqrt.calls kj4 a0 t225 t226 _ A21.out).mono ?_); rintro e w28 ⟨rfl, hb⟩; refine ⟨_, rfl, ?_⟩; have n0_ := Aside0.mk (below_step (by repeat (first | (with_reducible first | exact HB.out | apply below_alloc | apply pw_below_drewN | apply below_drew1) | exact HB.out)) hb); clear HB; have HB := n0_; clear n0_; (try clear hb); (try clear hb2); (try clear hk); (try clear hi)) | (go_at_call 12; (with_reducible refine (papermilllaw01_awake.calls kj4  t227 _ A27.out).mono ?_); rintro e w29 ⟨rfl, hb⟩; have n0_ := Aside0.mk (below_step (by repeat (first | (with_reducible first | exact HB.out | apply below_alloc | apply pw_below_drewN | apply below_drew1) | exact HB.out)) hb); clear HB; have HB := n0_; clear n0_; (try clear hb); (try clear hb2); (try clear hk); (try clear hi)))
                     go_ret
                     exact ⟨by first | rfl | (simp [errW_none, errW_some] <;> rfl) | (simp [*, errW_none, errW_some] <;> rfl), by repeat (first | (with_reducible first | exact HB.out | apply below_alloc | apply pw_below_drewN | apply below_drew1) | exact HB.out)⟩)
              · rw [if_neg c26] at H
                have c26b0 : decide (a0 < (wrap64 ((wrap64 (t225 + 1)) * (wrap64 (t225 + 1))))) = false := decide_eq_false c26
                clear c26
                exact absurd ((Option.some.inj H).trans hr_.out) (by decide)
            · rw [if_neg c25] at H
              have c25b0 : decide ((wrap64 (t225 * t225)) ≤ a0) = false := decide_eq_false c25
              clear c25
              exact absurd ((Option.some.inj H).trans hr_.out) (by decide)
          · rw [if_neg c24] at H
            have c24b0 : decide (t225 ≤ 33554432) = false := decide_eq_false c24
            clear c24
            exact absurd ((Option.some.inj H).trans hr_.out) (by decide)
        · rw [if_neg c23] at H
          have c23b0 : decide (0 ≤ t225) = false := decide_eq_false c23
          clear c23
          exact absurd ((Option.some.inj H).trans hr_.out) (by decide)
      · rw [if_neg c22] at H
        have c22b0 : (t226 == 0) = false := beq_eq_false_iff_ne.mpr c22
        have c22b1 : (t226 != 0) = true := bne_iff_ne.mpr c22
        by_cases c34 : t225 = 0
        · rw [if_pos c34] at H
          have c34b0 : (t225 == 0) = true := beq_iff_eq.mpr c34
          have c34b1 : (t225 != 0) = false := bne_eq_false_iff_eq.mpr c34
          clear c34
          by_cases c35 : a0 < 0
          · rw [if_pos c35] at H
            have c35b0 : decide (a0 < 0) = true := decide_eq_true c35
            clear c35
            replace H := Option.bind_eq_some_iff.mp H
            obtain ⟨t228, A360, H⟩ := H
            replace H : (some t228) = some r := H
            have A36 := Aside0.mk A360
            clear A360
            first
              | exact absurd ((Option.some.inj H).trans hr_.out) (by decide)
              | (skip
                 obtain rfl := Option.some.inj H
                 go_wp2_with (first | ((with_reducible refine gate_callee (f := 19) rfl ?_); refine goesL_ (some 71) rfl rfl Try.func19 (by kernel_rfl) rfl #[.int .i64 a0] rfl (by (try simp only [List.map_toArray, List.map_cons, List.map_nil]); first | done | rfl | (simp only [List.length_drop, List.length_take]; rfl)) ?_; (with_reducible refine (num_Sqrt.calls kj4 a0 t225 t226 _ A21.out).mono ?_); rintro e w37 ⟨rfl, hb⟩; refine ⟨_, rfl, ?_⟩; have n0_ := Aside0.mk (below_step (by repeat (first | (with_reducible first | exact HB.out | apply below_alloc | apply pw_below_drewN | apply below_drew1) | exact HB.out)) hb); clear HB; have HB := n0_; clear n0_; (try clear hb); (try clear hb2); (try clear hk); (try clear hi)) | (go_at_call 12; (with_reducible refine (papermilllaw01_awake.calls kj4  t228 _ A36.out).mono ?_); rintro e w38 ⟨rfl, hb⟩; have n0_ := Aside0.mk (below_step (by repeat (first | (with_reducible first | exact HB.out | apply below_alloc | apply pw_below_drewN | apply below_drew1) | exact HB.out)) hb); clear HB; have HB := n0_; clear n0_; (try clear hb); (try clear hb2); (try clear hk); (try clear hi)))
                 go_ret
                 exact ⟨by first | rfl | (simp [errW_none, errW_some] <;> rfl) | (simp [*, errW_none, errW_some] <;> rfl), by repeat (first | (with_reducible first | exact HB.out | apply below_alloc | apply pw_below_drewN | apply below_drew1) | exact HB.out)⟩)
          · rw [if_neg c35] at H
            have c35b0 : decide (a0 < 0) = false := decide_eq_false c35
            clear c35
            by_cases c39 : a0 > 1125899906842624
            · rw [if_pos c39] at H
              have c39b0 : decide (1125899906842624 < a0) = true := decide_eq_true c39
              clear c39
              replace H := Option.bind_eq_some_iff.mp H
              obtain ⟨t229, A400, H⟩ := H
              replace H : (some t229) = some r := H
              have A40 := Aside0.mk A400
              clear A400
              first
                | exact absurd ((Option.some.inj H).trans hr_.out) (by decide)
                | (skip
                   obtain rfl := Option.some.inj H
                   go_wp2_with (first | ((with_reducible refine gate_callee (f := 19) rfl ?_); refine goesL_ (some 71) rfl rfl Try.func19 (by kernel_rfl) rfl #[.int .i64 a0] rfl (by (try simp only [List.map_toArray, List.map_cons, List.map_nil]); first | done | rfl | (simp only [List.length_drop, List.length_take]; rfl)) ?_; (with_reducible refine (num_Sqrt.calls kj4 a0 t225 t226 _ A21.out).mono ?_); rintro e w41 ⟨rfl, hb⟩; refine ⟨_, rfl, ?_⟩; have n0_ := Aside0.mk (below_step (by repeat (first | (with_reducible first | exact HB.out | apply below_alloc | apply pw_below_drewN | apply below_drew1) | exact HB.out)) hb); clear HB; have HB := n0_; clear n0_; (try clear hb); (try clear hb2); (try clear hk); (try clear hi)) | (go_at_call 12; (with_reducible refine (papermilllaw01_awake.calls kj4  t229 _ A40.out).mono ?_); rintro e w42 ⟨rfl, hb⟩; have n0_ := Aside0.mk (below_step (by repeat (first | (with_reducible first | exact HB.out | apply below_alloc | apply pw_below_drewN | apply below_drew1) | exact HB.out)) hb); clear HB; have HB := n0_; clear n0_; (try clear hb); (try clear hb2); (try clear hk); (try clear hi)))
                   go_ret
                   exact ⟨by first | rfl | (simp [errW_none, errW_some] <;> rfl) | (simp [*, errW_none, errW_some] <;> rfl), by repeat (first | (with_reducible first | exact HB.out | apply below_alloc | apply pw_below_drewN | apply below_drew1) | exact HB.out)⟩)
            · rw [if_neg c39] at H
              have c39b0 : decide (1125899906842624 < a0) = false := decide_eq_false c39
              clear c39
              exact absurd ((Option.some.inj H).trans hr_.out) (by decide)
        · rw [if_neg c34] at H
          have c34b0 : (t225 == 0) = false := beq_eq_false_iff_ne.mpr c34
          have c34b1 : (t225 != 0) = true := bne_iff_ne.mpr c34
          exact absurd ((Option.some.inj H).trans hr_.out) (by decide)

/-- THE ONE PURE STATEMENT of papermilllaw01_NumDivisors: yours. -/
def papermilllaw01_NumDivisors.Pure : Prop := ∀ (a0 : Int) (a1 : Int) (a2 : Int), (Lit.int .i64 a0).wf = true → (Lit.int .i64 a1).wf = true → (Lit.int .i64 a2).wf = true → ∃ k, papermilllaw01_NumDivisors.f k a0 a1 a2 = some true
theorem papermilllaw01_NumDivisors.walk (P : papermilllaw01_NumDivisors.Pure) (a0 : Int) (a1 : Int) (a2 : Int) (w : World) (w0 : (Lit.int .i64 a0).wf = true) (w1 : (Lit.int .i64 a1).wf = true) (w2 : (Lit.int .i64 a2).wf = true) :
    Calls Try.prog 8 #[.int .i64 a0, .int .i64 a1, .int .i64 a2] w fun e w' => e = .returned (.bool true) ∧ Below w.heap.size w w' := by
  obtain ⟨k, h⟩ := P a0 a1 a2 w0 w1 w2
  refine (papermilllaw01_NumDivisors.calls k a0 a1 a2 true w ⟨rfl⟩ h).mono ?_
  rintro e w' ⟨rfl, hd⟩
  exact ⟨rfl, hd⟩

end Go.Proofs.Yteibjgfeaimaiaa.P
