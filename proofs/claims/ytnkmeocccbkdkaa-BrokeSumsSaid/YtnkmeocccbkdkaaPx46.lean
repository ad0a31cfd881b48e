-- Written by a program (wip/prog/pp.py) over the kit's print; some of its functions are proved by hand. Not trusted: Lean checks it.
import Derived.Test.YtnkmeocccbkdkaaPx0
import Derived.Test.YtnkmeocccbkdkaaPx34
import Derived.Test.YtnkmeocccbkdkaaHandMulDiv
import Derived.Test.YtnkmeocccbkdkaaHandSums
namespace Go.Proofs.Ytnkmeocccbkdkaa.P
open Go.RowKit Go.Proofs.YtnkmeocccbkdkaaW.PrintWords Go.Proofs.YtnkmeocccbkdkaaW.PrintLast Go.Proofs.YtnkmeocccbkdkaaW.PrintMore
attribute [local go_sem] max2_int min2_int max_two min_two max_three min_three max_four min_four   -- for this text's walks alone
set_option linter.unusedVariables false
set_option linter.unusedSimpArgs false

/-! ### broke_Mass: function 32 -/
def broke_Mass.f (a0 : Int) (a1 : Int) : Option (Int × Int) := if a0 < 0 then (some (0, 1)) else (if a0 > 206158430208000 then (some (0, 1)) else (if a1 < 0 then (some (0, 1)) else (if a1 > 1000000 then (some (0, 1)) else ((num_MulDiv.f a0 a1 1000000000 2).bind fun bt575 => (some (bt575.1, bt575.2))))))
open List (setIfInBounds_toArray set_cons_zero set_cons_succ)
set_option maxHeartbeats 8000000 in
set_option maxRecDepth 100000 in
theorem broke_Mass.calls (a0 : Int) (a1 : Int) (r1 : Int) (r2 : Int) (w : World) (h : broke_Mass.f a0 a1 = some (r1, r2)) :
  Calls Try.prog 32 #[.int .i64 a0, .int .i64 a1] w fun e w' => e = .returned (.tuple #[.int .i64 r1, .int .i64 r2]) ∧ Below w.heap.size w w' := by
 have HB := Aside0.mk (Below.refl w.heap.size w)
 have H : (if a0 < 0 then (some (0, 1)) else (if a0 > 206158430208000 then (some (0, 1)) else (if a1 < 0 then (some (0, 1)) else (if a1 > 1000000 then (some (0, 1)) else ((num_MulDiv.f a0 a1 1000000000 2).bind fun bt575 => (some (bt575.1, bt575.2))))))) = some (r1, r2) := h
 clear h
 by_cases c3 : a0 < 0
 ·rw [if_pos c3] at H
  have c3b0 : decide (a0 < 0) = true := decide_eq_true c3
  clear c3
  simp only [Option.some.injEq, Prod.mk.injEq] at H
  obtain ⟨rfl, rfl⟩ := H
  go_enter Try.func32, Try.ntmps32
  go_wp2
  go_ret2
  exact ⟨by first | rfl | (simp [errW_none, errW_some] <;> rfl) | (simp [*, errW_none, errW_some] <;> rfl), by with_reducible repeat first | exact HB.out | apply below_alloc | apply pw_below_drewN | apply below_drew1⟩
 ·rw [if_neg c3] at H
  have c3b0 : decide (a0 < 0) = false := decide_eq_false c3
  clear c3
  by_cases c4 : a0 > 206158430208000
  ·rw [if_pos c4] at H
   have c4b0 : decide (206158430208000 < a0) = true := decide_eq_true c4
   clear c4
   simp only [Option.some.injEq, Prod.mk.injEq] at H
   obtain ⟨rfl, rfl⟩ := H
   go_enter Try.func32, Try.ntmps32
   go_wp2
   go_ret2
   exact ⟨by first | rfl | (simp [errW_none, errW_some] <;> rfl) | (simp [*, errW_none, errW_some] <;> rfl), by with_reducible repeat first | exact HB.out | apply below_alloc | apply pw_below_drewN | apply below_drew1⟩
  ·rw [if_neg c4] at H
   have c4b0 : decide (206158430208000 < a0) = false := decide_eq_false c4
   clear c4
   by_cases c5 : a1 < 0
   ·rw [if_pos c5] at H
    have c5b0 : decide (a1 < 0) = true := decide_eq_true c5
    clear c5
    simp only [Option.some.injEq, Prod.mk.injEq] at H
    obtain ⟨rfl, rfl⟩ := H
    go_enter Try.func32, Try.ntmps32
    go_wp2
    go_ret2
    exact ⟨by first | rfl | (simp [errW_none, errW_some] <;> rfl) | (simp [*, errW_none, errW_some] <;> rfl), by with_reducible repeat first | exact HB.out | apply below_alloc | apply pw_below_drewN | apply below_drew1⟩
   ·rw [if_neg c5] at H
    have c5b0 : decide (a1 < 0) = false := decide_eq_false c5
    clear c5
    by_cases c6 : a1 > 1000000
    ·rw [if_pos c6] at H
     have c6b0 : decide (1000000 < a1) = true := decide_eq_true c6
     clear c6
     simp only [Option.some.injEq, Prod.mk.injEq] at H
     obtain ⟨rfl, rfl⟩ := H
     go_enter Try.func32, Try.ntmps32
     go_wp2
     go_ret2
     exact ⟨by first | rfl | (simp [errW_none, errW_some] <;> rfl) | (simp [*, errW_none, errW_some] <;> rfl), by with_reducible repeat first | exact HB.out | apply below_alloc | apply pw_below_drewN | apply below_drew1⟩
    ·rw [if_neg c6] at H
     have c6b0 : decide (1000000 < a1) = false := decide_eq_false c6
     clear c6
     replace H := Option.bind_eq_some_iff.mp H
     obtain ⟨⟨t575, t576⟩, A70, H⟩ := H
     replace H : (some (t575, t576)) = some (r1, r2) := H
     have A7 := Aside0.mk A70
     clear A70
     simp only [Option.some.injEq, Prod.mk.injEq] at H
     obtain ⟨rfl, rfl⟩ := H
     go_enter Try.func32, Try.ntmps32
     go_wp2_with (first | ((with_reducible refine gate_callee (f := 48) rfl ?_); refine goesL_ (some 22) rfl rfl Try.func48 (by kernel_rfl) rfl #[.int .i64 a0, .int .i64 a1, .int .i64 1000000000, .int .i64 2] rfl (by (try simp only [List.map_toArray, List.map_cons, List.map_nil]); first | done | rfl | (simp only [List.length_drop, List.length_take]; rfl)) ?_; (with_reducible refine (num_MulDiv.calls a0 a1 1000000000 2 t575 t576 _ A7.out).mono ?_); rintro e w8 ⟨rfl, hb⟩; refine ⟨_, rfl, ?_⟩; have n0_ := Aside0.mk (below_step (by with_reducible repeat first | exact HB.out | apply below_alloc | apply pw_below_drewN | apply below_drew1) hb); clear HB; have HB := n0_; clear n0_))
     go_ret2
     exact ⟨by first | rfl | (simp [errW_none, errW_some] <;> rfl) | (simp [*, errW_none, errW_some] <;> rfl), by with_reducible repeat first | exact HB.out | apply below_alloc | apply pw_below_drewN | apply below_drew1⟩

/-! ### papermilllaw22_awake: function 15 -/
def papermilllaw22_awake.g (k : Nat)  : Option (Bool) := (some (([(⟨0, 7, 100, 0⟩ : S63), (⟨5, 2, 30, 0⟩ : S63), (⟨5, 6, 50, 0⟩ : S63)] : List (S63)) : List (S63))).bind fun y577 => ((broke_Level.f k y577 1000 4).bind fun bt580 => ((broke_Level.f k y577 1000 5).bind fun bt582 => ((broke_Sums.f y577 1000).bind fun bt584 => ((broke_Mass.f 37500 40000).bind fun bt588 => (if bt580.2 = 0 then (if bt582.2 = 0 then (if bt584.2 = 0 then (if bt588.2 = 0 then (if bt580.1 = 100 then (if bt582.1 = 80 then (if (bt584.1.length : Int) = 7 then (if 1 < (bt584.1.length : Int) then (if (rd bt584.1 1) = 30 then (if 5 < (bt584.1.length : Int) then (if (rd bt584.1 5) = 50 then (if 6 < (bt584.1.length : Int) then (if (rd bt584.1 6) = 100 then (if bt588.1 = 2 then ((broke_Check.f k (([(⟨0, 7, 100, 0⟩ : S63), (⟨5, 6, 101, 0⟩ : S63)] : List (S63))) 1000).bind fun t596 => (some (t596 == 19))) else (some false)) else (some false)) else (none)) else (some false)) else (none)) else (some false)) else (none)) else (some false)) else (some false)) else (some false)) else (some false)) else (some false)) else (some false)) else (some false))))))
theorem papermilllaw22_awake.gmono : ∀ k, LeO (papermilllaw22_awake.g k ) (papermilllaw22_awake.g (k + 1) ) := by
 intro  k
 unfold papermilllaw22_awake.g
 repeat' first
   | (with_reducible exact broke_Check.mono _ _ _)
   | (with_reducible exact broke_Level.mono _ _ _ _)
   | (with_reducible exact LeO.refl _)
   | (with_reducible exact LeO.none _)
   | (with_reducible refine LeO.ite ?_ ?_)
   | (with_reducible refine LeO.bind ?_ (fun _ => ?_))
   | exact broke_Check.mono _ _ _
   | exact broke_Level.mono _ _ _ _
   | exact LeO.none _
   | refine LeO.ite ?_ ?_
   | refine LeO.bind ?_ (fun _ => ?_)
set_option maxHeartbeats 8000000 in
set_option maxRecDepth 100000 in
theorem papermilllaw22_awake.gcalls (k : Nat)  (r : Bool) (w : World) (hr_ : Aside0 (r = true)) (h : papermilllaw22_awake.g k  = some r) :
  Calls Try.prog 15 #[] w fun e w' => e = .returned (.bool r) ∧ Below w.heap.size w w' := by
 have hu63 := Try.underlying63
 have HB := Aside0.mk (Below.refl w.heap.size w)
 have H : ((some (([(⟨0, 7, 100, 0⟩ : S63), (⟨5, 2, 30, 0⟩ : S63), (⟨5, 6, 50, 0⟩ : S63)] : List (S63)) : List (S63))).bind fun y577 => ((broke_Level.f k y577 1000 4).bind fun bt580 => ((broke_Level.f k y577 1000 5).bind fun bt582 => ((broke_Sums.f y577 1000).bind fun bt584 => ((broke_Mass.f 37500 40000).bind fun bt588 => (if bt580.2 = 0 then (if bt582.2 = 0 then (if bt584.2 = 0 then (if bt588.2 = 0 then (if bt580.1 = 100 then (if bt582.1 = 80 then (if (bt584.1.length : Int) = 7 then (if 1 < (bt584.1.length : Int) then (if (rd bt584.1 1) = 30 then (if 5 < (bt584.1.length : Int) then (if (rd bt584.1 5) = 50 then (if 6 < (bt584.1.length : Int) then (if (rd bt584.1 6) = 100 then (if bt588.1 = 2 then ((broke_Check.f k (([(⟨0, 7, 100, 0⟩ : S63), (⟨5, 6, 101, 0⟩ : S63)] : List (S63))) 1000).bind fun t596 => (some (t596 == 19))) else (some false)) else (some false)) else (none)) else (some false)) else (none)) else (some false)) else (none)) else (some false)) else (some false)) else (some false)) else (some false)) else (some false)) else (some false)) else (some false))))))) = some r := h
 clear h
 obtain ⟨y577, hy577⟩ : ∃ y_ : List (S63), y_ = (([(⟨0, 7, 100, 0⟩ : S63), (⟨5, 2, 30, 0⟩ : S63), (⟨5, 6, 50, 0⟩ : S63)] : List (S63))) := ⟨_, rfl⟩
 replace H : ((broke_Level.f k y577 1000 4).bind fun bt580 => ((broke_Level.f k y577 1000 5).bind fun bt582 => ((broke_Sums.f y577 1000).bind fun bt584 => ((broke_Mass.f 37500 40000).bind fun bt588 => (if bt580.2 = 0 then (if bt582.2 = 0 then (if bt584.2 = 0 then (if bt588.2 = 0 then (if bt580.1 = 100 then (if bt582.1 = 80 then (if (bt584.1.length : Int) = 7 then (if 1 < (bt584.1.length : Int) then (if (rd bt584.1 1) = 30 then (if 5 < (bt584.1.length : Int) then (if (rd bt584.1 5) = 50 then (if 6 < (bt584.1.length : Int) then (if (rd bt584.1 6) = 100 then (if bt588.1 = 2 then ((broke_Check.f k (([(⟨0, 7, 100, 0⟩ : S63), (⟨5, 6, 101, 0⟩ : S63)] : List (S63))) 1000).bind fun t596 => (some (t596 == 19))) else (some false)) else (some false)) else (none)) else (some false)) else (none)) else (some false)) else (none)) else (some false)) else (some false)) else (some false)) else (some false)) else (some false)) else (some false)) else (some false)))))) = some r := by first | (rw [hy577]; with_reducible exact H) | with_reducible exact H | (rw [hy577]; exact H) | exact H
 have Ny577 := Aside0.mk hy577
 clear hy577
 replace H := Option.bind_eq_some_iff.mp H
 obtain ⟨⟨t580, t581⟩, A10, H⟩ := H
 replace H : ((broke_Level.f k y577 1000 5).bind fun bt582 => ((broke_Sums.f y577 1000).bind fun bt584 => ((broke_Mass.f 37500 40000).bind fun bt588 => (if t581 = 0 then (if bt582.2 = 0 then (if bt584.2 = 0 then (if bt588.2 = 0 then (if t580 = 100 then (if bt582.1 = 80 then (if (bt584.1.length : Int) = 7 then (if 1 < (bt584.1.length : Int) then (if (rd bt584.1 1) = 30 then (if 5 < (bt584.1.length : Int) then (if (rd bt584.1 5) = 50 then (if 6 < (bt584.1.length : Int) then (if (rd bt584.1 6) = 100 then (if bt588.1 = 2 then ((broke_Check.f k (([(⟨0, 7, 100, 0⟩ : S63), (⟨5, 6, 101, 0⟩ : S63)] : List (S63))) 1000).bind fun t596 => (some (t596 == 19))) else (some false)) else (some false)) else (none)) else (some false)) else (none)) else (some false)) else (none)) else (some false)) else (some false)) else (some false)) else (some false)) else (some false)) else (some false)) else (some false))))) = some r := H
 have A1 := Aside0.mk A10
 clear A10
 replace H := Option.bind_eq_some_iff.mp H
 obtain ⟨⟨t582, t583⟩, A20, H⟩ := H
 replace H : ((broke_Sums.f y577 1000).bind fun bt584 => ((broke_Mass.f 37500 40000).bind fun bt588 => (if t581 = 0 then (if t583 = 0 then (if bt584.2 = 0 then (if bt588.2 = 0 then (if t580 = 100 then (if t582 = 80 then (if (bt584.1.length : Int) = 7 then (if 1 < (bt584.1.length : Int) then (if (rd bt584.1 1) = 30 then (if 5 < (bt584.1.length : Int) then (if (rd bt584.1 5) = 50 then (if 6 < (bt584.1.length : Int) then (if (rd bt584.1 6) = 100 then (if bt588.1 = 2 then ((broke_Check.f k (([(⟨0, 7, 100, 0⟩ : S63), (⟨5, 6, 101, 0⟩ : S63)] : List (S63))) 1000).bind fun t596 => (some (t596 == 19))) else (some false)) else (some false)) else (none)) else (some false)) else (none)) else (some false)) else (none)) else (some false)) else (some false)) else (some false)) else (some false)) else (some false)) else (some false)) else (some false)))) = some r := H
 have A2 := Aside0.mk A20
 clear A20
 replace H := Option.bind_eq_some_iff.mp H
 obtain ⟨⟨t584, t585⟩, A30, H⟩ := H
 replace H : ((broke_Mass.f 37500 40000).bind fun bt588 => (if t581 = 0 then (if t583 = 0 then (if t585 = 0 then (if bt588.2 = 0 then (if t580 = 100 then (if t582 = 80 then (if (t584.length : Int) = 7 then (if 1 < (t584.length : Int) then (if (rd t584 1) = 30 then (if 5 < (t584.length : Int) then (if (rd t584 5) = 50 then (if 6 < (t584.length : Int) then (if (rd t584 6) = 100 then (if bt588.1 = 2 then ((broke_Check.f k (([(⟨0, 7, 100, 0⟩ : S63), (⟨5, 6, 101, 0⟩ : S63)] : List (S63))) 1000).bind fun t596 => (some (t596 == 19))) else (some false)) else (some false)) else (none)) else (some false)) else (none)) else (some false)) else (none)) else (some false)) else (some false)) else (some false)) else (some false)) else (some false)) else (some false)) else (some false))) = some r := H
 have A3 := Aside0.mk A30
 clear A30
 replace H := Option.bind_eq_some_iff.mp H
 obtain ⟨⟨t588, t589⟩, A40, H⟩ := H
 replace H : (if t581 = 0 then (if t583 = 0 then (if t585 = 0 then (if t589 = 0 then (if t580 = 100 then (if t582 = 80 then (if (t584.length : Int) = 7 then (if 1 < (t584.length : Int) then (if (rd t584 1) = 30 then (if 5 < (t584.length : Int) then (if (rd t584 5) = 50 then (if 6 < (t584.length : Int) then (if (rd t584 6) = 100 then (if t588 = 2 then ((broke_Check.f k (([(⟨0, 7, 100, 0⟩ : S63), (⟨5, 6, 101, 0⟩ : S63)] : List (S63))) 1000).bind fun t596 => (some (t596 == 19))) else (some false)) else (some false)) else (none)) else (some false)) else (none)) else (some false)) else (none)) else (some false)) else (some false)) else (some false)) else (some false)) else (some false)) else (some false)) else (some false)) = some r := H
 have A4 := Aside0.mk A40
 clear A40
 by_cases c5 : t581 = 0
 ·rw [if_pos c5] at H
  have c5b0 : (t581 == 0) = true := beq_iff_eq.mpr c5
  have c5b1 : (t581 != 0) = false := bne_eq_false_iff_eq.mpr c5
  clear c5
  by_cases c6 : t583 = 0
  ·rw [if_pos c6] at H
   have c6b0 : (t583 == 0) = true := beq_iff_eq.mpr c6
   have c6b1 : (t583 != 0) = false := bne_eq_false_iff_eq.mpr c6
   clear c6
   by_cases c7 : t585 = 0
   ·rw [if_pos c7] at H
    have c7b0 : (t585 == 0) = true := beq_iff_eq.mpr c7
    have c7b1 : (t585 != 0) = false := bne_eq_false_iff_eq.mpr c7
    clear c7
    by_cases c8 : t589 = 0
    ·rw [if_pos c8] at H
     have c8b0 : (t589 == 0) = true := beq_iff_eq.mpr c8
     have c8b1 : (t589 != 0) = false := bne_eq_false_iff_eq.mpr c8
     clear c8
     by_cases c9 : t580 = 100
     ·rw [if_pos c9] at H
      have c9b0 : (t580 == 100) = true := beq_iff_eq.mpr c9
      have c9b1 : (t580 != 100) = false := bne_eq_false_iff_eq.mpr c9
      clear c9
      by_cases c10 : t582 = 80
      ·rw [if_pos c10] at H
       have c10b0 : (t582 == 80) = true := beq_iff_eq.mpr c10
       have c10b1 : (t582 != 80) = false := bne_eq_false_iff_eq.mpr c10
       clear c10
       by_cases c11 : (t584.length : Int) = 7
       ·rw [if_pos c11] at H
        have c11b0 : ((t584.length : Int) == 7) = true := beq_iff_eq.mpr c11
        have c11b1 : ((t584.length : Int) != 7) = false := bne_eq_false_iff_eq.mpr c11
        clear c11
        by_cases c12 : 1 < (t584.length : Int)
        ·rw [if_pos c12] at H
         have c12b0 : decide (1 < (t584.length : Int)) = true := decide_eq_true c12
         have c12b1 : decide (1 < t584.length) = true := decide_eq_true (by omega)
         clear c12
         by_cases c13 : (rd t584 1) = 30
         ·rw [if_pos c13] at H
          have c13b0 : ((rd t584 1) == 30) = true := beq_iff_eq.mpr c13
          have c13b1 : ((rd t584 1) != 30) = false := bne_eq_false_iff_eq.mpr c13
          clear c13
          by_cases c14 : 5 < (t584.length : Int)
          ·rw [if_pos c14] at H
           have c14b0 : decide (5 < (t584.length : Int)) = true := decide_eq_true c14
           have c14b1 : decide (5 < t584.length) = true := decide_eq_true (by omega)
           clear c14
           by_cases c15 : (rd t584 5) = 50
           ·rw [if_pos c15] at H
            have c15b0 : ((rd t584 5) == 50) = true := beq_iff_eq.mpr c15
            have c15b1 : ((rd t584 5) != 50) = false := bne_eq_false_iff_eq.mpr c15
            clear c15
            by_cases c16 : 6 < (t584.length : Int)
            ·rw [if_pos c16] at H
             have c16b0 : decide (6 < (t584.length : Int)) = true := decide_eq_true c16
             have c16b1 : decide (6 < t584.length) = true := decide_eq_true (by omega)
             clear c16
             by_cases c17 : (rd t584 6) = 100
             ·rw [if_pos c17] at H
              have c17b0 : ((rd t584 6) == 100) = true := beq_iff_eq.mpr c17
              have c17b1 : ((rd t584 6) != 100) = false := bne_eq_false_iff_eq.mpr c17
              clear c17
              by_cases c18 : t588 = 2
              ·rw [if_pos c18] at H
               have c18b0 : (t588 == 2) = true := beq_iff_eq.mpr c18
               have c18b1 : (t588 != 2) = false := bne_eq_false_iff_eq.mpr c18
               clear c18
               obtain ⟨y593, hy593⟩ : ∃ y_ : List (S63), y_ = (([(⟨0, 7, 100, 0⟩ : S63), (⟨5, 6, 101, 0⟩ : S63)] : List (S63))) := ⟨_, rfl⟩
               replace H : ((broke_Check.f k y593 1000).bind fun t596 => (some (t596 == 19))) = some r := by first | (rw [hy593]; with_reducible exact H) | with_reducible exact H | (rw [hy593]; exact H) | exact H
               have Ny593 := Aside0.mk hy593
               clear hy593
               replace H := Option.bind_eq_some_iff.mp H
               obtain ⟨t596, A190, H⟩ := H
               replace H : (some (t596 == 19)) = some r := H
               have A19 := Aside0.mk A190
               clear A190
               first
                | exact absurd ((Option.some.inj H).trans hr_.out) (by decide)
                |(skip
                  obtain rfl := Option.some.inj H
                  go_enter Try.func15, Try.ntmps15
                  go_wp2_with (first | ((with_reducible refine gate_dst (N := 13) rfl ?_); (try (refine gate_guard (by rfl) ?_; dsimp only)); refine Kd.R_lit k63 _ 63 ?hg (N := 13) ?hd (xs := ([(⟨0, 7, 100, 0⟩ : S63), (⟨5, 2, 30, 0⟩ : S63), (⟨5, 6, 50, 0⟩ : S63)] : List (S63))) (inner := [.int .i64 0, .int .i64 7, .int .i64 100, .int .i64 0, .int .i64 5, .int .i64 2, .int .i64 30, .int .i64 0, .int .i64 5, .int .i64 6, .int .i64 50, .int .i64 0]) (ok := fun _ => True) (okp := fun _ => True) ?hr ?hp (fun _ hk => hk) trivial (Below.refl _ _) (Nat.le_refl _) (by simp) ?_; (case hd => rfl); (case hg => rfl); (case hr => first | (go_simp; done) | (go_simp; rfl)); (case hp => exact (Reps.c4 (show Kd.M k63 _ _ _ (⟨0, 7, 100, 0⟩ : S63) [.int .i64 0, .int .i64 7, .int .i64 100, .int .i64 0] from (k63_mkM _ _ _ (⟨0, 7, 100, 0⟩ : S63) )) (Reps.c4 (show Kd.M k63 _ _ _ (⟨5, 2, 30, 0⟩ : S63) [.int .i64 5, .int .i64 2, .int .i64 30, .int .i64 0] from (k63_mkM _ _ _ (⟨5, 2, 30, 0⟩ : S63) )) (Reps.c4 (show Kd.M k63 _ _ _ (⟨5, 6, 50, 0⟩ : S63) [.int .i64 5, .int .i64 6, .int .i64 50, .int .i64 0] from (k63_mkM _ _ _ (⟨5, 6, 50, 0⟩ : S63) )) (Reps.none _ _))))); intro v578 w20 ho21 hb hg_ hnew_; clear hg_ hnew_; (first | rw [← Ny577.out] at ho21 | (simp only [Int.reduceToNat] at ho21; rw [← Ny577.out] at ho21)); have n0_ := Aside0.mk (Kd.R_lower ho21 (below_size (by with_reducible repeat first | exact HB.out | apply below_alloc | apply pw_below_drewN | apply below_drew1))); have n1_ := Aside0.mk (below_step (by with_reducible repeat first | exact HB.out | apply below_alloc | apply pw_below_drewN | apply below_drew1) hb); clear HB; have HO579 := n0_; have HB := n1_; clear n0_ n1_; clear hb ho21; obtain ⟨Ao22, co22, eo22⟩ := Kd.R_slice HO579.out; subst eo22) | ((with_reducible refine gate_callee (f := 31) rfl ?_); refine goesL_ (some 16) rfl rfl Try.func31 (by kernel_rfl) rfl #[.slice Ao22 y577.length co22, .int .i64 1000, .int .i64 4] rfl (by (try simp only [List.map_toArray, List.map_cons, List.map_nil]); first | done | rfl | (simp only [List.length_drop, List.length_take]; rfl)) ?_; (with_reducible refine (broke_Level.calls k _ _ y577 1000 4 t580 t581 _ ?side1 ?side2 A1.out).mono ?_); (case side1 => with_reducible repeat first | exact (Kd.R_reads' HO579.out).2.2 | apply Kd.C_alloc | apply Kd.C_drewN | apply Kd.C_drew); (case side2 => exact (Kd.R_reads' HO579.out).2.1); rintro e w23 ⟨rfl, hb⟩; refine ⟨_, rfl, ?_⟩; have n0_ := Aside0.mk (Kd.R_below (by (with_reducible repeat (first | apply Kd.R_alloc | apply Kd.R_drewN | apply Kd.R_drew)); exact HO579.out) hb); have n1_ := Aside0.mk (below_step (by with_reducible repeat first | exact HB.out | apply below_alloc | apply pw_below_drewN | apply below_drew1) hb); clear HO579; clear HB; have HO579 := n0_; have HB := n1_; clear n0_ n1_) | ((with_reducible refine gate_callee (f := 31) rfl ?_); refine goesL_ (some 21) rfl rfl Try.func31 (by kernel_rfl) rfl #[.slice Ao22 y577.length co22, .int .i64 1000, .int .i64 5] rfl (by (try simp only [List.map_toArray, List.map_cons, List.map_nil]); first | done | rfl | (simp only [List.length_drop, List.length_take]; rfl)) ?_; (with_reducible refine (broke_Level.calls k _ _ y577 1000 5 t582 t583 _ ?side1 ?side2 A2.out).mono ?_); (case side1 => with_reducible repeat first | exact (Kd.R_reads' HO579.out).2.2 | apply Kd.C_alloc | apply Kd.C_drewN | apply Kd.C_drew); (case side2 => exact (Kd.R_reads' HO579.out).2.1); rintro e w24 ⟨rfl, hb⟩; refine ⟨_, rfl, ?_⟩; have n0_ := Aside0.mk (Kd.R_below (by (with_reducible repeat (first | apply Kd.R_alloc | apply Kd.R_drewN | apply Kd.R_drew)); exact HO579.out) hb); have n1_ := Aside0.mk (below_step (by with_reducible repeat first | exact HB.out | apply below_alloc | apply pw_below_drewN | apply below_drew1) hb); clear HO579; clear HB; have HO579 := n0_; have HB := n1_; clear n0_ n1_) | ((with_reducible refine gate_callee (f := 9) rfl ?_); refine goesL_ (some 26) rfl rfl Try.func9 (by kernel_rfl) rfl #[.slice Ao22 y577.length co22, .int .i64 1000] rfl (by (try simp only [List.map_toArray, List.map_cons, List.map_nil]); first | done | rfl | (simp only [List.length_drop, List.length_take]; rfl)) ?_; (with_reducible refine (broke_Sums.calls _ _ y577 1000 t584 t585 _ ?side1 ?side2 A3.out).mono ?_); (case side1 => with_reducible repeat first | exact (Kd.R_reads' HO579.out).2.2 | apply Kd.C_alloc | apply Kd.C_drewN | apply Kd.C_drew); (case side2 => exact (Kd.R_reads' HO579.out).2.1); rintro e w25 ⟨v586, rfl, ho0, hb⟩; refine ⟨_, rfl, ?_⟩; have n0_ := Aside0.mk (Kd.R_below (by (with_reducible repeat (first | apply Kd.R_alloc | apply Kd.R_drewN | apply Kd.R_drew)); exact HO579.out) hb); have n1_ := Aside0.mk (Kd.R_lower ho0 (below_size (by with_reducible repeat first | exact HB.out | apply below_alloc | apply pw_below_drewN | apply below_drew1))); have n2_ := Aside0.mk (below_step (by with_reducible repeat first | exact HB.out | apply below_alloc | apply pw_below_drewN | apply below_drew1) hb); clear HO579; clear HB; have HO579 := n0_; have HO587 := n1_; have HB := n2_; clear n0_ n1_ n2_) | ((with_reducible refine gate_callee (f := 32) rfl ?_); refine goesL_ (some 30) rfl rfl Try.func32 (by kernel_rfl) rfl #[.int .i64 37500, .int .i64 40000] rfl (by (try simp only [List.map_toArray, List.map_cons, List.map_nil]); first | done | rfl | (simp only [List.length_drop, List.length_take]; rfl)) ?_; (with_reducible refine (broke_Mass.calls 37500 40000 t588 t589 _ A4.out).mono ?_); rintro e w26 ⟨rfl, hb⟩; refine ⟨_, rfl, ?_⟩; have n0_ := Aside0.mk (Kd.R_below (by (with_reducible repeat (first | apply Kd.R_alloc | apply Kd.R_drewN | apply Kd.R_drew)); exact HO579.out) hb); have n1_ := Aside0.mk (Kd.R_below (by (with_reducible repeat (first | apply Kd.R_alloc | apply Kd.R_drewN | apply Kd.R_drew)); exact HO587.out) hb); have n2_ := Aside0.mk (below_step (by with_reducible repeat first | exact HB.out | apply below_alloc | apply pw_below_drewN | apply below_drew1) hb); clear HO579; clear HO587; clear HB; have HO579 := n0_; have HO587 := n1_; have HB := n2_; clear n0_ n1_ n2_; obtain ⟨Ao27, co27, eo27⟩ := Kd.R_slice HO587.out; subst eo27; have p590 : 0 ≤ (1 : Int) := (by omega); have q590 : 1 < (t584.length : Int) := of_decide_eq_true (by assumption); obtain ⟨ad590, e590, hx590_0⟩ := Kd.at_int (Kd.R_reads' HO587.out).2.2 1 p590 q590; cases e590; (try simp only [show (1 : Int).toNat = 1 from rfl, Nat.reduceMul, Nat.reduceEqDiff, Go.Addr.add, ↓reduceIte] at hx590_0); have qi590 : (1 < t584.length) = True := eq_true (by omega); (try rw [show ((1 : Int)).toNat = 1 from rfl] at hx590_0); replace p590 := eq_true p590; replace q590 := eq_true q590; have p591 : 0 ≤ (5 : Int) := (by omega); have q591 : 5 < (t584.length : Int) := of_decide_eq_true (by assumption); obtain ⟨ad591, e591, hx591_0⟩ := Kd.at_int (Kd.R_reads' HO587.out).2.2 5 p591 q591; obtain rfl : ad590 = ad591 := (by injection e591); (try simp only [show (5 : Int).toNat = 5 from rfl, Nat.reduceMul, Nat.reduceEqDiff, Go.Addr.add, ↓reduceIte] at hx591_0); have qi591 : (5 < t584.length) = True := eq_true (by omega); (try rw [show ((5 : Int)).toNat = 5 from rfl] at hx591_0); replace p591 := eq_true p591; replace q591 := eq_true q591; have p592 : 0 ≤ (6 : Int) := (by omega); have q592 : 6 < (t584.length : Int) := of_decide_eq_true (by assumption); obtain ⟨ad592, e592, hx592_0⟩ := Kd.at_int (Kd.R_reads' HO587.out).2.2 6 p592 q592; obtain rfl : ad590 = ad592 := (by injection e592); (try simp only [show (6 : Int).toNat = 6 from rfl, Nat.reduceMul, Nat.reduceEqDiff, Go.Addr.add, ↓reduceIte] at hx592_0); have qi592 : (6 < t584.length) = True := eq_true (by omega); (try rw [show ((6 : Int)).toNat = 6 from rfl] at hx592_0); replace p592 := eq_true p592; replace q592 := eq_true q592) | ((with_reducible refine gate_dst (N := 85) rfl ?_); (try (refine gate_guard (by rfl) ?_; dsimp only)); refine Kd.R_lit k63 _ 63 ?hg (N := 85) ?hd (xs := ([(⟨0, 7, 100, 0⟩ : S63), (⟨5, 6, 101, 0⟩ : S63)] : List (S63))) (inner := [.int .i64 0, .int .i64 7, .int .i64 100, .int .i64 0, .int .i64 5, .int .i64 6, .int .i64 101, .int .i64 0]) (ok := fun _ => True) (okp := fun _ => True) ?hr ?hp (fun _ hk => hk) trivial (Below.refl _ _) (Nat.le_refl _) (by simp) ?_; (case hd => rfl); (case hg => rfl); (case hr => first | (go_simp; done) | (go_simp; rfl)); (case hp => exact (Reps.c4 (show Kd.M k63 _ _ _ (⟨0, 7, 100, 0⟩ : S63) [.int .i64 0, .int .i64 7, .int .i64 100, .int .i64 0] from (k63_mkM _ _ _ (⟨0, 7, 100, 0⟩ : S63) )) (Reps.c4 (show Kd.M k63 _ _ _ (⟨5, 6, 101, 0⟩ : S63) [.int .i64 5, .int .i64 6, .int .i64 101, .int .i64 0] from (k63_mkM _ _ _ (⟨5, 6, 101, 0⟩ : S63) )) (Reps.none _ _)))); intro v594 w28 ho29 hb hg_ hnew_; clear hg_ hnew_; (first | rw [← Ny593.out] at ho29 | (simp only [Int.reduceToNat] at ho29; rw [← Ny593.out] at ho29)); have n0_ := Aside0.mk (Kd.R_elder' (by (with_reducible repeat (first | apply Kd.R_alloc | apply Kd.R_drewN | apply Kd.R_drew)); exact HO579.out) (Kd.R_base ho29) hb); have n1_ := Aside0.mk (Kd.R_below (by (with_reducible repeat (first | apply Kd.R_alloc | apply Kd.R_drewN | apply Kd.R_drew)); exact HO587.out) hb); have n2_ := Aside0.mk (Kd.R_lower (Kd.R_new' ho29 (Kd.R_lt (by (with_reducible repeat (first | apply Kd.R_alloc | apply Kd.R_drewN | apply Kd.R_drew)); exact HO579.out))) (below_size (by with_reducible repeat first | exact HB.out | apply below_alloc | apply pw_below_drewN | apply below_drew1))); have n3_ := Aside0.mk (below_step (by with_reducible repeat first | exact HB.out | apply below_alloc | apply pw_below_drewN | apply below_drew1) hb); clear HO579; clear HO587; clear HB; have HO579 := n0_; have HO587 := n1_; have HO595 := n2_; have HB := n3_; clear n0_ n1_ n2_ n3_; clear hb ho29; obtain ⟨Ao30, co30, eo30⟩ := Kd.R_slice HO595.out; subst eo30) | (go_at_call 27; (with_reducible refine (broke_Check.calls k _ _ y593 1000 t596 _ ?side1 ?side2 A19.out).mono ?_); (case side1 => with_reducible repeat first | exact (Kd.R_reads' HO595.out).2.2 | apply Kd.C_alloc | apply Kd.C_drewN | apply Kd.C_drew); (case side2 => exact (Kd.R_reads' HO595.out).2.1); rintro e w31 ⟨rfl, hb⟩; have n0_ := Aside0.mk (Kd.R_below (by (with_reducible repeat (first | apply Kd.R_alloc | apply Kd.R_drewN | apply Kd.R_drew)); exact HO579.out) hb); have n1_ := Aside0.mk (Kd.R_below (by (with_reducible repeat (first | apply Kd.R_alloc | apply Kd.R_drewN | apply Kd.R_drew)); exact HO587.out) hb); have n2_ := Aside0.mk (Kd.R_below (by (with_reducible repeat (first | apply Kd.R_alloc | apply Kd.R_drewN | apply Kd.R_drew)); exact HO595.out) hb); have n3_ := Aside0.mk (below_step (by with_reducible repeat first | exact HB.out | apply below_alloc | apply pw_below_drewN | apply below_drew1) hb); clear HO579; clear HO587; clear HO595; clear HB; have HO579 := n0_; have HO587 := n1_; have HO595 := n2_; have HB := n3_; clear n0_ n1_ n2_ n3_))
                  go_ret
                  exact ⟨by first | rfl | (simp [errW_none, errW_some] <;> rfl) | (simp [*, errW_none, errW_some] <;> rfl), by with_reducible repeat first | exact HB.out | apply below_alloc | apply pw_below_drewN | apply below_drew1⟩)
              ·rw [if_neg c18] at H
               have c18b0 : (t588 == 2) = false := beq_eq_false_iff_ne.mpr c18
               have c18b1 : (t588 != 2) = true := bne_iff_ne.mpr c18
               exact absurd ((Option.some.inj H).trans hr_.out) (by decide)
             ·rw [if_neg c17] at H
              have c17b0 : ((rd t584 6) == 100) = false := beq_eq_false_iff_ne.mpr c17
              have c17b1 : ((rd t584 6) != 100) = true := bne_iff_ne.mpr c17
              exact absurd ((Option.some.inj H).trans hr_.out) (by decide)
            ·rw [if_neg c16] at H
             exact absurd H (by simp)
           ·rw [if_neg c15] at H
            have c15b0 : ((rd t584 5) == 50) = false := beq_eq_false_iff_ne.mpr c15
            have c15b1 : ((rd t584 5) != 50) = true := bne_iff_ne.mpr c15
            exact absurd ((Option.some.inj H).trans hr_.out) (by decide)
          ·rw [if_neg c14] at H
           exact absurd H (by simp)
         ·rw [if_neg c13] at H
          have c13b0 : ((rd t584 1) == 30) = false := beq_eq_false_iff_ne.mpr c13
          have c13b1 : ((rd t584 1) != 30) = true := bne_iff_ne.mpr c13
          exact absurd ((Option.some.inj H).trans hr_.out) (by decide)
        ·rw [if_neg c12] at H
         exact absurd H (by simp)
       ·rw [if_neg c11] at H
        have c11b0 : ((t584.length : Int) == 7) = false := beq_eq_false_iff_ne.mpr c11
        have c11b1 : ((t584.length : Int) != 7) = true := bne_iff_ne.mpr c11
        exact absurd ((Option.some.inj H).trans hr_.out) (by decide)
      ·rw [if_neg c10] at H
       have c10b0 : (t582 == 80) = false := beq_eq_false_iff_ne.mpr c10
       have c10b1 : (t582 != 80) = true := bne_iff_ne.mpr c10
       exact absurd ((Option.some.inj H).trans hr_.out) (by decide)
     ·rw [if_neg c9] at H
      have c9b0 : (t580 == 100) = false := beq_eq_false_iff_ne.mpr c9
      have c9b1 : (t580 != 100) = true := bne_iff_ne.mpr c9
      exact absurd ((Option.some.inj H).trans hr_.out) (by decide)
    ·rw [if_neg c8] at H
     have c8b0 : (t589 == 0) = false := beq_eq_false_iff_ne.mpr c8
     have c8b1 : (t589 != 0) = true := bne_iff_ne.mpr c8
     exact absurd ((Option.some.inj H).trans hr_.out) (by decide)
   ·rw [if_neg c7] at H
    have c7b0 : (t585 == 0) = false := beq_eq_false_iff_ne.mpr c7
    have c7b1 : (t585 != 0) = true := bne_iff_ne.mpr c7
    exact absurd ((Option.some.inj H).trans hr_.out) (by decide)
  ·rw [if_neg c6] at H
   have c6b0 : (t583 == 0) = false := beq_eq_false_iff_ne.mpr c6
   have c6b1 : (t583 != 0) = true := bne_iff_ne.mpr c6
   exact absurd ((Option.some.inj H).trans hr_.out) (by decide)
 ·rw [if_neg c5] at H
  have c5b0 : (t581 == 0) = false := beq_eq_false_iff_ne.mpr c5
  have c5b1 : (t581 != 0) = true := bne_iff_ne.mpr c5
  exact absurd ((Option.some.inj H).trans hr_.out) (by decide)

def papermilllaw22_awake.f (k : Nat) : Option Bool := (papermilllaw22_awake.g k ).bind fun b => if b = true then some b else none
theorem papermilllaw22_awake.mono : ∀ k, LeO (papermilllaw22_awake.f k) (papermilllaw22_awake.f (k + 1)) := fun k => LeO.bind (papermilllaw22_awake.gmono k) (fun _ => LeO.refl _)
theorem papermilllaw22_awake.calls (k : Nat) (r : Bool) (w : World) (h : papermilllaw22_awake.f k = some r) :
  Calls Try.prog 15 #[] w fun e w' => e = .returned (.bool r) ∧ Below w.heap.size w w' := by
 obtain ⟨b, hb, h2⟩ := Option.bind_eq_some_iff.mp h
 have e : b = true ∧ r = true := by
  cases b with
  | true => exact ⟨rfl, (Option.some.inj h2).symm⟩
  | false => simp at h2
 obtain ⟨rfl, rfl⟩ := e
 exact papermilllaw22_awake.gcalls k true w ⟨rfl⟩ hb

end Go.Proofs.Ytnkmeocccbkdkaa.P
