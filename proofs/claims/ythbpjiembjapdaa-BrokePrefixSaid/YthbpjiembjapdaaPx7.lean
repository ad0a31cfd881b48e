-- Written by a program (wip/prog/pp.py) over the kit's print; some of its functions are proved by hand. Not trusted: Lean checks it.
import Derived.Test.YthbpjiembjapdaaPx0
import Derived.Test.YthbpjiembjapdaaPx3
import Derived.Test.YthbpjiembjapdaaPx5
import Derived.Test.YthbpjiembjapdaaHandMulDiv
import Derived.Test.YthbpjiembjapdaaHandSums
namespace Go.Proofs.Ythbpjiembjapdaa.P
open Go.RowKit Go.Proofs.YthbpjiembjapdaaW.PrintWords Go.Proofs.YthbpjiembjapdaaW.PrintLast Go.Proofs.YthbpjiembjapdaaW.PrintMore
attribute [local go_sem] max2_int min2_int max_two min_two max_three min_three max_four min_four   -- for this text's walks alone
set_option linter.unusedVariables false
set_option linter.unusedSimpArgs false

/-! ### broke_Mass: function 15 -/
def broke_Mass.f (a0 : Int) (a1 : Int) : Option (Int × Int) := if a0 < 0 then (some (0, 1)) else (if a0 > 206158430208000 then (some (0, 1)) else (if a1 < 0 then (some (0, 1)) else (if a1 > 1000000 then (some (0, 1)) else ((num_MulDiv.f a0 a1 1000000000 2).bind fun bt117 => (some (bt117.1, bt117.2))))))
set_option maxHeartbeats 8000000 in
set_option maxRecDepth 100000 in
theorem broke_Mass.calls (a0 : Int) (a1 : Int) (r1 : Int) (r2 : Int) (w : World) (h : broke_Mass.f a0 a1 = some (r1, r2)) :
    Calls Try.prog 15 #[.int .i64 a0, .int .i64 a1] w fun e w' => e = .returned (.tuple #[.int .i64 r1, .int .i64 r2]) ∧ Below w.heap.size w w' := by
  have HB := Aside0.mk (Below.refl w.heap.size w)
  have H : (if a0 < 0 then (some (0, 1)) else (if a0 > 206158430208000 then (some (0, 1)) else (if a1 < 0 then (some (0, 1)) else (if a1 > 1000000 then (some (0, 1)) else ((num_MulDiv.f a0 a1 1000000000 2).bind fun bt117 => (some (bt117.1, bt117.2))))))) = some (r1, r2) := h
  clear h
  by_cases c3 : a0 < 0
  · rw [if_pos c3] at H
    have c3b0 : decide (a0 < 0) = true := decide_eq_true c3
    clear c3
    simp only [Option.some.injEq, Prod.mk.injEq] at H
    obtain ⟨rfl, rfl⟩ := H
    go_enter Try.func15, Try.ntmps15
    go_wp2
    go_ret2
    exact ⟨by first | rfl | (simp [errW_none, errW_some] <;> rfl) | (simp [*, errW_none, errW_some] <;> rfl), by repeat (first | (with_reducible first | exact HB.out | apply below_alloc | apply pw_below_drewN | apply below_drew1) | exact HB.out)⟩
  · rw [if_neg c3] at H
    have c3b0 : decide (a0 < 0) = false := decide_eq_false c3
    clear c3
    by_cases c4 : a0 > 206158430208000
    · rw [if_pos c4] at H
      have c4b0 : decide (206158430208000 < a0) = true := decide_eq_true c4
      clear c4
      simp only [Option.some.injEq, Prod.mk.injEq] at H
      obtain ⟨rfl, rfl⟩ := H
      go_enter Try.func15, Try.ntmps15
      go_wp2
      go_ret2
      exact ⟨by first | rfl | (simp [errW_none, errW_some] <;> rfl) | (simp [*, errW_none, errW_some] <;> rfl), by repeat (first | (with_reducible first | exact HB.out | apply below_alloc | apply pw_below_drewN | apply below_drew1) | exact HB.out)⟩
    · rw [if_neg c4] at H
      have c4b0 : decide (206158430208000 < a0) = false := decide_eq_false c4
      clear c4
      by_cases c5 : a1 < 0
      · rw [if_pos c5] at H
        have c5b0 : decide (a1 < 0) = true := decide_eq_true c5
        clear c5
        simp only [Option.some.injEq, Prod.mk.injEq] at H
        obtain ⟨rfl, rfl⟩ := H
        go_enter Try.func15, Try.ntmps15
        go_wp2
        go_ret2
        exact ⟨by first | rfl | (simp [errW_none, errW_some] <;> rfl) | (simp [*, errW_none, errW_some] <;> rfl), by repeat (first | (with_reducible first | exact HB.out | apply below_alloc | apply pw_below_drewN | apply below_drew1) | exact HB.out)⟩
      · rw [if_neg c5] at H
        have c5b0 : decide (a1 < 0) = false := decide_eq_false c5
        clear c5
        by_cases c6 : a1 > 1000000
        · rw [if_pos c6] at H
          have c6b0 : decide (1000000 < a1) = true := decide_eq_true c6
          clear c6
          simp only [Option.some.injEq, Prod.mk.injEq] at H
          obtain ⟨rfl, rfl⟩ := H
          go_enter Try.func15, Try.ntmps15
          go_wp2
          go_ret2
          exact ⟨by first | rfl | (simp [errW_none, errW_some] <;> rfl) | (simp [*, errW_none, errW_some] <;> rfl), by repeat (first | (with_reducible first | exact HB.out | apply below_alloc | apply pw_below_drewN | apply below_drew1) | exact HB.out)⟩
        · rw [if_neg c6] at H
          have c6b0 : decide (1000000 < a1) = false := decide_eq_false c6
          clear c6
          replace H := Option.bind_eq_some_iff.mp H
          obtain ⟨⟨t117, t118⟩, A70, H⟩ := H
          replace H : (some (t117, t118)) = some (r1, r2) := H
          have A7 := Aside0.mk A70
          clear A70
          simp only [Option.some.injEq, Prod.mk.injEq] at H
          obtain ⟨rfl, rfl⟩ := H
          go_enter Try.func15, Try.ntmps15
          go_wp2_with (first | ((with_reducible refine gate_callee (f := 22) rfl ?_); refine goesL_ (some 22) rfl rfl Try.func22 (by kernel_rfl) rfl #[.int .i64 a0, .int .i64 a1, .int .i64 1000000000, .int .i64 2] rfl (by (try simp only [List.map_toArray, List.map_cons, List.map_nil]); first | done | rfl | (simp only [List.length_drop, List.length_take]; rfl)) ?_; (with_reducible refine (num_MulDiv.calls a0 a1 1000000000 2 t117 t118 _ A7.out).mono ?_); rintro e w8 ⟨rfl, hb⟩; refine ⟨_, rfl, ?_⟩; have n0_ := Aside0.mk (below_step (by repeat (first | (with_reducible first | exact HB.out | apply below_alloc | apply pw_below_drewN | apply below_drew1) | exact HB.out)) hb); clear HB; have HB := n0_; clear n0_; (try clear hb); (try clear hb2); (try clear hk); (try clear hi)))
          go_ret2
          exact ⟨by first | rfl | (simp [errW_none, errW_some] <;> rfl) | (simp [*, errW_none, errW_some] <;> rfl), by repeat (first | (with_reducible first | exact HB.out | apply below_alloc | apply pw_below_drewN | apply below_drew1) | exact HB.out)⟩

/-! ### papermilllaw22_awake: function 10 -/
def papermilllaw22_awake.g (k : Nat)  : Option (Bool) := (some (([(⟨0, 7, 100, 0⟩ : S32), (⟨5, 2, 30, 0⟩ : S32), (⟨5, 6, 50, 0⟩ : S32)] : List (S32)) : List (S32))).bind fun y119 => ((broke_Level.f k y119 1000 4).bind fun bt122 => ((broke_Level.f k y119 1000 5).bind fun bt124 => ((broke_Sums.f y119 1000).bind fun bt126 => ((broke_Mass.f 37500 40000).bind fun bt130 => (if bt122.2 = 0 then (if bt124.2 = 0 then (if bt126.2 = 0 then (if bt130.2 = 0 then (if bt122.1 = 100 then (if bt124.1 = 80 then (if (bt126.1.length : Int) = 7 then (if 1 < (bt126.1.length : Int) then (if (rd bt126.1 1) = 30 then (if 5 < (bt126.1.length : Int) then (if (rd bt126.1 5) = 50 then (if 6 < (bt126.1.length : Int) then (if (rd bt126.1 6) = 100 then (if bt130.1 = 2 then ((broke_Check.f k (([(⟨0, 7, 100, 0⟩ : S32), (⟨5, 6, 101, 0⟩ : S32)] : List (S32))) 1000).bind fun t138 => (some (t138 == 19))) else (some false)) else (some false)) else (none)) else (some false)) else (none)) else (some false)) else (none)) else (some false)) else (some false)) else (some false)) else (some false)) else (some false)) else (some false)) else (some false))))))
theorem papermilllaw22_awake.gmono : ∀ k, LeO (papermilllaw22_awake.g k ) (papermilllaw22_awake.g (k + 1) ) := by
  intro  k
  unfold papermilllaw22_awake.g
  repeat' first
      | (with_reducible exact broke_Check.mono _ _ _)
      | (with_reducible exact broke_Level.mono _ _ _ _)
      | (with_reducible exact LeO.refl _)
      | (with_reducible exact LeO.none _)
      | (with_reducible refine LeO.ite ?_ ?_)
      | (with_reducible refine LeO.bind ?_ (fun _ => ?_))
      | exact broke_Check.mono _ _ _
      | exact broke_Level.mono _ _ _ _
      | exact LeO.none _
      | refine LeO.ite ?_ ?_
      | refine LeO.bind ?_ (fun _ => ?_)
set_option maxHeartbeats 8000000 in
set_option maxRecDepth 100000 in
theorem papermilllaw22_awake.gcalls (k : Nat)  (r : Bool) (w : World) (hr_ : Aside0 (r = true)) (h : papermilllaw22_awake.g k  = some r) :
    Calls Try.prog 10 #[] w fun e w' => e = .returned (.bool r) ∧ Below w.heap.size w w' := by
  have hu32 := Try.underlying32
  have HB := Aside0.mk (Below.refl w.heap.size w)
  have H : ((some (([(⟨0, 7, 100, 0⟩ : S32), (⟨5, 2, 30, 0⟩ : S32), (⟨5, 6, 50, 0⟩ : S32)] : List (S32)) : List (S32))).bind fun y119 => ((broke_Level.f k y119 1000 4).bind fun bt122 => ((broke_Level.f k y119 1000 5).bind fun bt124 => ((broke_Sums.f y119 1000).bind fun bt126 => ((broke_Mass.f 37500 40000).bind fun bt130 => (if bt122.2 = 0 then (if bt124.2 = 0 then (if bt126.2 = 0 then (if bt130.2 = 0 then (if bt122.1 = 100 then (if bt124.1 = 80 then (if (bt126.1.length : Int) = 7 then (if 1 < (bt126.1.length : Int) then (if (rd bt126.1 1) = 30 then (if 5 < (bt126.1.length : Int) then (if (rd bt126.1 5) = 50 then (if 6 < (bt126.1.length : Int) then (if (rd bt126.1 6) = 100 then (if bt130.1 = 2 then ((broke_Check.f k (([(⟨0, 7, 100, 0⟩ : S32), (⟨5, 6, 101, 0⟩ : S32)] : List (S32))) 1000).bind fun t138 => (some (t138 == 19))) else (some false)) else (some false)) else (none)) else (some false)) else (none)) else (some false)) else (none)) else (some false)) else (some false)) else (some false)) else (some false)) else (some false)) else (some false)) else (some false))))))) = some r := h
  clear h
  obtain ⟨y119, hy119⟩ : ∃ y_ : List (S32), y_ = (([(⟨0, 7, 100, 0⟩ : S32), (⟨5, 2, 30, 0⟩ : S32), (⟨5, 6, 50, 0⟩ : S32)] : List (S32))) := ⟨_, rfl⟩
  replace H : ((broke_Level.f k y119 1000 4).bind fun bt122 => ((broke_Level.f k y119 1000 5).bind fun bt124 => ((broke_Sums.f y119 1000).bind fun bt126 => ((broke_Mass.f 37500 40000).bind fun bt130 => (if bt122.2 = 0 then (if bt124.2 = 0 then (if bt126.2 = 0 then (if bt130.2 = 0 then (if bt122.1 = 100 then (if bt124.1 = 80 then (if (bt126.1.length : Int) = 7 then (if 1 < (bt126.1.length : Int) then (if (rd bt126.1 1) = 30 then (if 5 < (bt126.1.length : Int) then (if (rd bt126.1 5) = 50 then (if 6 < (bt126.1.length : Int) then (if (rd bt126.1 6) = 100 then (if bt130.1 = 2 then ((broke_Check.f k (([(⟨0, 7, 100, 0⟩ : S32), (⟨5, 6, 101, 0⟩ : S32)] : List (S32))) 1000).bind fun t138 => (some (t138 == 19))) else (some false)) else (some false)) else (none)) else (some false)) else (none)) else (some false)) else (none)) else (some false)) else (some false)) else (some false)) else (some false)) else (some false)) else (some false)) else (some false)))))) = some r := by first | (rw [hy119]; with_reducible exact H) | (have H2_ := (Option.bind_some _ _).symm.trans H; rw [hy119]; with_reducible exact H2_) | (have H2_ := (Option.bind_some _ _).symm.trans H; with_reducible exact H2_) | with_reducible exact H | (rw [hy119]; exact H) | exact H
  have Ny119 := Aside0.mk hy119
  clear hy119
  replace H := Option.bind_eq_some_iff.mp H
  obtain ⟨⟨t122, t123⟩, A10, H⟩ := H
  replace H : ((broke_Level.f k y119 1000 5).bind fun bt124 => ((broke_Sums.f y119 1000).bind fun bt126 => ((broke_Mass.f 37500 40000).bind fun bt130 => (if t123 = 0 then (if bt124.2 = 0 then (if bt126.2 = 0 then (if bt130.2 = 0 then (if t122 = 100 then (if bt124.1 = 80 then (if (bt126.1.length : Int) = 7 then (if 1 < (bt126.1.length : Int) then (if (rd bt126.1 1) = 30 then (if 5 < (bt126.1.length : Int) then (if (rd bt126.1 5) = 50 then (if 6 < (bt126.1.length : Int) then (if (rd bt126.1 6) = 100 then (if bt130.1 = 2 then ((broke_Check.f k (([(⟨0, 7, 100, 0⟩ : S32), (⟨5, 6, 101, 0⟩ : S32)] : List (S32))) 1000).bind fun t138 => (some (t138 == 19))) else (some false)) else (some false)) else (none)) else (some false)) else (none)) else (some false)) else (none)) else (some false)) else (some false)) else (some false)) else (some false)) else (some false)) else (some false)) else (some false))))) = some r := H
  have A1 := Aside0.mk A10
  clear A10
  replace H := Option.bind_eq_some_iff.mp H
  obtain ⟨⟨t124, t125⟩, A20, H⟩ := H
  replace H : ((broke_Sums.f y119 1000).bind fun bt126 => ((broke_Mass.f 37500 40000).bind fun bt130 => (if t123 = 0 then (if t125 = 0 then (if bt126.2 = 0 then (if bt130.2 = 0 then (if t122 = 100 then (if t124 = 80 then (if (bt126.1.length : Int) = 7 then (if 1 < (bt126.1.length : Int) then (if (rd bt126.1 1) = 30 then (if 5 < (bt126.1.length : Int) then (if (rd bt126.1 5) = 50 then (if 6 < (bt126.1.length : Int) then (if (rd bt126.1 6) = 100 then (if bt130.1 = 2 then ((broke_Check.f k (([(⟨0, 7, 100, 0⟩ : S32), (⟨5, 6, 101, 0⟩ : S32)] : List (S32))) 1000).bind fun t138 => (some (t138 == 19))) else (some false)) else (some false)) else (none)) else (some false)) else (none)) else (some false)) else (none)) else (some false)) else (some false)) else (some false)) else (some false)) else (some false)) else (some false)) else (some false)))) = some r := H
  have A2 := Aside0.mk A20
  clear A20
  replace H := Option.bind_eq_some_iff.mp H
  obtain ⟨⟨t126, t127⟩, A30, H⟩ := H
  replace H : ((broke_Mass.f 37500 40000).bind fun bt130 => (if t123 = 0 then (if t125 = 0 then (if t127 = 0 then (if bt130.2 = 0 then (if t122 = 100 then (if t124 = 80 then (if (t126.length : Int) = 7 then (if 1 < (t126.length : Int) then (if (rd t126 1) = 30 then (if 5 < (t126.length : Int) then (if (rd t126 5) = 50 then (if 6 < (t126.length : Int) then (if (rd t126 6) = 100 then (if bt130.1 = 2 then ((broke_Check.f k (([(⟨0, 7, 100, 0⟩ : S32), (⟨5, 6, 101, 0⟩ : S32)] : List (S32))) 1000).bind fun t138 => (some (t138 == 19))) else (some false)) else (some false)) else (none)) else (some false)) else (none)) else (some false)) else (none)) else (some false)) else (some false)) else (some false)) else (some false)) else (some false)) else (some false)) else (some false))) = some r := H
  have A3 := Aside0.mk A30
  clear A30
  replace H := Option.bind_eq_some_iff.mp H
  obtain ⟨⟨t130, t131⟩, A40, H⟩ := H
  replace H : (if t123 = 0 then (if t125 = 0 then (if t127 = 0 then (if t131 = 0 then (if t122 = 100 then (if t124 = 80 then (if (t126.length : Int) = 7 then (if 1 < (t126.length : Int) then (if (rd t126 1) = 30 then (if 5 < (t126.length : Int) then (if (rd t126 5) = 50 then (if 6 < (t126.length : Int) then (if (rd t126 6) = 100 then (if t130 = 2 then ((broke_Check.f k (([(⟨0, 7, 100, 0⟩ : S32), (⟨5, 6, 101, 0⟩ : S32)] : List (S32))) 1000).bind fun t138 => (some (t138 == 19))) else (some false)) else (some false)) else (none)) else (some false)) else (none)) else (some false)) else (none)) else (some false)) else (some false)) else (some false)) else (some false)) else (some false)) else (some false)) else (some false)) = some r := H
  have A4 := Aside0.mk A40
  clear A40
  by_cases c5 : t123 = 0
  · rw [if_pos c5] at H
    have c5b0 : (t123 == 0) = true := beq_iff_eq.mpr c5
    have c5b1 : (t123 != 0) = false := bne_eq_false_iff_eq.mpr c5
    clear c5
    by_cases c6 : t125 = 0
    · rw [if_pos c6] at H
      have c6b0 : (t125 == 0) = true := beq_iff_eq.mpr c6
      have c6b1 : (t125 != 0) = false := bne_eq_false_iff_eq.mpr c6
      clear c6
      by_cases c7 : t127 = 0
      · rw [if_pos c7] at H
        have c7b0 : (t127 == 0) = true := beq_iff_eq.mpr c7
        have c7b1 : (t127 != 0) = false := bne_eq_false_iff_eq.mpr c7
        clear c7
        by_cases c8 : t131 = 0
        · rw [if_pos c8] at H
          have c8b0 : (t131 == 0) = true := beq_iff_eq.mpr c8
          have c8b1 : (t131 != 0) = false := bne_eq_false_iff_eq.mpr c8
          clear c8
          by_cases c9 : t122 = 100
          · rw [if_pos c9] at H
            have c9b0 : (t122 == 100) = true := beq_iff_eq.mpr c9
            have c9b1 : (t122 != 100) = false := bne_eq_false_iff_eq.mpr c9
            clear c9
            by_cases c10 : t124 = 80
            · rw [if_pos c10] at H
              have c10b0 : (t124 == 80) = true := beq_iff_eq.mpr c10
              have c10b1 : (t124 != 80) = false := bne_eq_false_iff_eq.mpr c10
              clear c10
              by_cases c11 : (t126.length : Int) = 7
              · rw [if_pos c11] at H
                have c11b0 : ((t126.length : Int) == 7) = true := beq_iff_eq.mpr c11
                have c11b1 : ((t126.length : Int) != 7) = false := bne_eq_false_iff_eq.mpr c11
                clear c11
                by_cases c12 : 1 < (t126.length : Int)
                · rw [if_pos c12] at H
                  have c12b0 : decide (1 < (t126.length : Int)) = true := decide_eq_true c12
                  have c12b1 : decide (1 < t126.length) = true := decide_eq_true (by omega)
                  clear c12
                  by_cases c13 : (rd t126 1) = 30
                  · rw [if_pos c13] at H
                    have c13b0 : ((rd t126 1) == 30) = true := beq_iff_eq.mpr c13
                    have c13b1 : ((rd t126 1) != 30) = false := bne_eq_false_iff_eq.mpr c13
                    clear c13
                    by_cases c14 : 5 < (t126.length : Int)
                    · rw [if_pos c14] at H
                      have c14b0 : decide (5 < (t126.length : Int)) = true := decide_eq_true c14
                      have c14b1 : decide (5 < t126.length) = true := decide_eq_true (by omega)
                      clear c14
                      by_cases c15 : (rd t126 5) = 50
                      · rw [if_pos c15] at H
                        have c15b0 : ((rd t126 5) == 50) = true := beq_iff_eq.mpr c15
                        have c15b1 : ((rd t126 5) != 50) = false := bne_eq_false_iff_eq.mpr c15
                        clear c15
                        by_cases c16 : 6 < (t126.length : Int)
                        · rw [if_pos c16] at H
                          have c16b0 : decide (6 < (t126.length : Int)) = true := decide_eq_true c16
                          have c16b1 : decide (6 < t126.length) = true := decide_eq_true (by omega)
                          clear c16
                          by_cases c17 : (rd t126 6) = 100
                          · rw [if_pos c17] at H
                            have c17b0 : ((rd t126 6) == 100) = true := beq_iff_eq.mpr c17
                            have c17b1 : ((rd t126 6) != 100) = false := bne_eq_false_iff_eq.mpr c17
                            clear c17
                            by_cases c18 : t130 = 2
                            · rw [if_pos c18] at H
                              have c18b0 : (t130 == 2) = true := beq_iff_eq.mpr c18
                              have c18b1 : (t130 != 2) = false := bne_eq_false_iff_eq.mpr c18
                              clear c18
                              obtain ⟨y135, hy135⟩ : ∃ y_ : List (S32), y_ = (([(⟨0, 7, 100, 0⟩ : S32), (⟨5, 6, 101, 0⟩ : S32)] : List (S32))) := ⟨_, rfl⟩
                              replace H : ((broke_Check.f k y135 1000).bind fun t138 => (some (t138 == 19))) = some r := by first | (rw [hy135]; with_reducible exact H) | (have H2_ := (Option.bind_some _ _).symm.trans H; rw [hy135]; with_reducible exact H2_) | (have H2_ := (Option.bind_some _ _).symm.trans H; with_reducible exact H2_) | with_reducible exact H | (rw [hy135]; exact H) | exact H
                              have Ny135 := Aside0.mk hy135
                              clear hy135
                              replace H := Option.bind_eq_some_iff.mp H
                              obtain ⟨t138, A190, H⟩ := H
                              replace H : (some (t138 == 19)) = some r := H
                              have A19 := Aside0.mk A190
                              clear A190
                              first
                                | exact absurd ((Option.some.inj H).trans hr_.out) (by decide)
                                | (skip
                                   obtain rfl := Option.some.inj H
                                   go_enter Try.func10, Try.ntmps10
                                   go_wp2_with (first | ((with_reducible refine gate_dst (N := 13) rfl ?_); (try (refine gate_guard (by rfl) ?_; dsimp only)); refine Kd.R_lit k32 _ 32 ?hg (N := 13) ?hd (xs := ([(⟨0, 7, 100, 0⟩ : S32), (⟨5, 2, 30, 0⟩ : S32), (⟨5, 6, 50, 0⟩ : S32)] : List (S32))) (inner := [.int .i64 0, .int .i64 7, .int .i64 100, .int .i64 0, .int .i64 5, .int .i64 2, .int .i64 30, .int .i64 0, .int .i64 5, .int .i64 6, .int .i64 50, .int .i64 0]) (ok := fun _ => True) (okp := fun _ => True) ?hr ?hp (fun _ hk => hk) trivial (Below.refl _ _) (Nat.le_refl _) (by simp) ?_; (case hd => rfl); (case hg => rfl); (case hr => first | (go_simp; done) | (go_simp; rfl)); (case hp => exact (Reps.c4 (show Kd.M k32 _ _ _ (⟨0, 7, 100, 0⟩ : S32) [.int .i64 0, .int .i64 7, .int .i64 100, .int .i64 0] from (k32_mkM _ _ _ (⟨0, 7, 100, 0⟩ : S32) )) (Reps.c4 (show Kd.M k32 _ _ _ (⟨5, 2, 30, 0⟩ : S32) [.int .i64 5, .int .i64 2, .int .i64 30, .int .i64 0] from (k32_mkM _ _ _ (⟨5, 2, 30, 0⟩ : S32) )) (Reps.c4 (show Kd.M k32 _ _ _ (⟨5, 6, 50, 0⟩ : S32) [.int .i64 5, .int .i64 6, .int .i64 50, .int .i64 0] from (k32_mkM _ _ _ (⟨5, 6, 50, 0⟩ : S32) )) (Reps.none _ _))))); intro v120 w20 ho21 hb hg_ hnew_; clear hg_ hnew_; (first | rw [← Ny119.out] at ho21 | (simp only [Int.reduceToNat] at ho21; rw [← Ny119.out] at ho21)); have n0_ := Aside0.mk (Kd.R_lower ho21 (below_size (by repeat (first | (with_reducible first | exact HB.out | apply below_alloc | apply pw_below_drewN | apply below_drew1) | exact HB.out)))); have n1_ := Aside0.mk (below_step (by repeat (first | (with_reducible first | exact HB.out | apply below_alloc | apply pw_below_drewN | apply below_drew1) | exact HB.out)) hb); clear HB; have HO121 := n0_; have HB := n1_; clear n0_ n1_; clear hb ho21; obtain ⟨Ao22, co22, eo22⟩ := Kd.R_slice HO121.out; subst eo22) | ((with_reducible refine gate_callee (f := 12) rfl ?_); refine goesL_ (some 16) rfl rfl Try.func12 (by kernel_rfl) rfl #[.slice Ao22 y119.length co22, .int .i64 1000, .int .i64 4] rfl (by (try simp only [List.map_toArray, List.map_cons, List.map_nil]); first | done | rfl | (simp only [List.length_drop, List.length_take]; rfl)) ?_; (with_reducible refine (broke_Level.calls k _ _ y119 1000 4 t122 t123 _ ?side1 ?side2 A1.out).mono ?_); (case side1 => repeat (first | exact (Kd.R_reads' HO121.out).2.2 | (with_reducible refine Kd.C_alloc ?_ _) | (with_reducible refine Kd.C_drewN ?_ _) | (with_reducible refine Kd.C_drew ?_))); (case side2 => exact (Kd.R_reads' HO121.out).2.1); rintro e w23 ⟨rfl, hb⟩; refine ⟨_, rfl, ?_⟩; have n0_ := Aside0.mk (Kd.R_below (by (with_reducible repeat (first | apply Kd.R_alloc | apply Kd.R_drewN | apply Kd.R_drew)); exact HO121.out) hb); have n1_ := Aside0.mk (below_step (by repeat (first | (with_reducible first | exact HB.out | apply below_alloc | apply pw_below_drewN | apply below_drew1) | exact HB.out)) hb); clear HO121; clear HB; have HO121 := n0_; have HB := n1_; clear n0_ n1_; (try clear hb); (try clear hb2); (try clear hk); (try clear hi)) | ((with_reducible refine gate_callee (f := 12) rfl ?_); refine goesL_ (some 21) rfl rfl Try.func12 (by kernel_rfl) rfl #[.slice Ao22 y119.length co22, .int .i64 1000, .int .i64 5] rfl (by (try simp only [List.map_toArray, List.map_cons, List.map_nil]); first | done | rfl | (simp only [List.length_drop, List.length_take]; rfl)) ?_; (with_reducible refine (broke_Level.calls k _ _ y119 1000 5 t124 t125 _ ?side1 ?side2 A2.out).mono ?_); (case side1 => repeat (first | exact (Kd.R_reads' HO121.out).2.2 | (with_reducible refine Kd.C_alloc ?_ _) | (with_reducible refine Kd.C_drewN ?_ _) | (with_reducible refine Kd.C_drew ?_))); (case side2 => exact (Kd.R_reads' HO121.out).2.1); rintro e w24 ⟨rfl, hb⟩; refine ⟨_, rfl, ?_⟩; have n0_ := Aside0.mk (Kd.R_below (by (with_reducible repeat (first | apply Kd.R_alloc | apply Kd.R_drewN | apply Kd.R_drew)); exact HO121.out) hb); have n1_ := Aside0.mk (below_step (by repeat (first | (with_reducible first | exact HB.out | apply below_alloc | apply pw_below_drewN | apply below_drew1) | exact HB.out)) hb); clear HO121; clear HB; have HO121 := n0_; have HB := n1_; clear n0_ n1_; (try clear hb); (try clear hb2); (try clear hk); (try clear hi)) | ((with_reducible refine gate_callee (f := 11) rfl ?_); refine goesL_ (some 26) rfl rfl Try.func11 (by kernel_rfl) rfl #[.slice Ao22 y119.length co22, .int .i64 1000] rfl (by (try simp only [List.map_toArray, List.map_cons, List.map_nil]); first | done | rfl | (simp only [List.length_drop, List.length_take]; rfl)) ?_; (with_reducible refine (broke_Sums.calls _ _ y119 1000 t126 t127 _ ?side1 ?side2 A3.out).mono ?_); (case side1 => repeat (first | exact (Kd.R_reads' HO121.out).2.2 | (with_reducible refine Kd.C_alloc ?_ _) | (with_reducible refine Kd.C_drewN ?_ _) | (with_reducible refine Kd.C_drew ?_))); (case side2 => exact (Kd.R_reads' HO121.out).2.1); rintro e w25 ⟨v128, rfl, ho0, hb⟩; refine ⟨_, rfl, ?_⟩; have n0_ := Aside0.mk (Kd.R_below (by (with_reducible repeat (first | apply Kd.R_alloc | apply Kd.R_drewN | apply Kd.R_drew)); exact HO121.out) hb); have n1_ := Aside0.mk (Kd.R_lower ho0 (below_size (by repeat (first | (with_reducible first | exact HB.out | apply below_alloc | apply pw_below_drewN | apply below_drew1) | exact HB.out)))); have n2_ := Aside0.mk (below_step (by repeat (first | (with_reducible first | exact HB.out | apply below_alloc | apply pw_below_drewN | apply below_drew1) | exact HB.out)) hb); clear HO121; clear HB; have HO121 := n0_; have HO129 := n1_; have HB := n2_; clear n0_ n1_ n2_; (try clear hb); (try clear hb2); (try clear hk); (try clear hi); (try clear ho0)) | ((with_reducible refine gate_callee (f := 15) rfl ?_); refine goesL_ (some 30) rfl rfl Try.func15 (by kernel_rfl) rfl #[.int .i64 37500, .int .i64 40000] rfl (by (try simp only [List.map_toArray, List.map_cons, List.map_nil]); first | done | rfl | (simp only [List.length_drop, List.length_take]; rfl)) ?_; (with_reducible refine (broke_Mass.calls 37500 40000 t130 t131 _ A4.out).mono ?_); rintro e w26 ⟨rfl, hb⟩; refine ⟨_, rfl, ?_⟩; have n0_ := Aside0.mk (Kd.R_below (by (with_reducible repeat (first | apply Kd.R_alloc | apply Kd.R_drewN | apply Kd.R_drew)); exact HO121.out) hb); have n1_ := Aside0.mk (Kd.R_below (by (with_reducible repeat (first | apply Kd.R_alloc | apply Kd.R_drewN | apply Kd.R_drew)); exact HO129.out) hb); have n2_ := Aside0.mk (below_step (by repeat (first | (with_reducible first | exact HB.out | apply below_alloc | apply pw_below_drewN | apply below_drew1) | exact HB.out)) hb); clear HO121; clear HO129; clear HB; have HO121 := n0_; have HO129 := n1_; have HB := n2_; clear n0_ n1_ n2_; (try clear hb); (try clear hb2); (try clear hk); (try clear hi); obtain ⟨Ao27, co27, eo27⟩ := Kd.R_slice HO129.out; subst eo27; have p132 : 0 ≤ (1 : Int) := (by omega); have q132 : 1 < (t126.length : Int) := of_decide_eq_true (by first | (with_reducible assumption) | assumption); obtain ⟨ad132, e132, hx132_0⟩ := Kd.at_int (Kd.R_reads' HO129.out).2.2 1 p132 q132; cases e132; (try simp only [show (1 : Int).toNat = 1 from rfl, Nat.reduceMul, Nat.reduceEqDiff, Go.Addr.add, ↓reduceIte] at hx132_0); have qi132 : (1 < t126.length) = True := eq_true (by omega); (try rw [show ((1 : Int)).toNat = 1 from rfl] at hx132_0); replace p132 := eq_true p132; replace q132 := eq_true q132; have p133 : 0 ≤ (5 : Int) := (by omega); have q133 : 5 < (t126.length : Int) := of_decide_eq_true (by first | (with_reducible assumption) | assumption); obtain ⟨ad133, e133, hx133_0⟩ := Kd.at_int (Kd.R_reads' HO129.out).2.2 5 p133 q133; obtain rfl : ad132 = ad133 := (by injection e133); (try simp only [show (5 : Int).toNat = 5 from rfl, Nat.reduceMul, Nat.reduceEqDiff, Go.Addr.add, ↓reduceIte] at hx133_0); have qi133 : (5 < t126.length) = True := eq_true (by omega); (try rw [show ((5 : Int)).toNat = 5 from rfl] at hx133_0); replace p133 := eq_true p133; replace q133 := eq_true q133; have p134 : 0 ≤ (6 : Int) := (by omega); have q134 : 6 < (t126.length : Int) := of_decide_eq_true (by first | (with_reducible assumption) | assumption); obtain ⟨ad134, e134, hx134_0⟩ := Kd.at_int (Kd.R_reads' HO129.out).2.2 6 p134 q134; obtain rfl : ad132 = ad134 := (by injection e134); (try simp only [show (6 : Int).toNat = 6 from rfl, Nat.reduceMul, Nat.reduceEqDiff, Go.Addr.add, ↓reduceIte] at hx134_0); have qi134 : (6 < t126.length) = True := eq_true (by omega); (try rw [show ((6 : Int)).toNat = 6 from rfl] at hx134_0); replace p134 := eq_true p134; replace q134 := eq_true q134) | ((with_reducible refine gate_dst (N := 85) rfl ?_); (try (refine gate_guard (by rfl) ?_; dsimp only)); refine Kd.R_lit k32 _ 32 ?hg (N := 85) ?hd (xs := ([(⟨0, 7, 100, 0⟩ : S32), (⟨5, 6, 101, 0⟩ : S32)] : List (S32))) (inner := [.int .i64 0, .int .i64 7, .int .i64 100, .int .i64 0, .int .i64 5, .int .i64 6, .int .i64 101, .int .i64 0]) (ok := fun _ => True) (okp := fun _ => True) ?hr ?hp (fun _ hk => hk) trivial (Below.refl _ _) (Nat.le_refl _) (by simp) ?_; (case hd => rfl); (case hg => rfl); (case hr => first | (go_simp; done) | (go_simp; rfl)); (case hp => exact (Reps.c4 (show Kd.M k32 _ _ _ (⟨0, 7, 100, 0⟩ : S32) [.int .i64 0, .int .i64 7, .int .i64 100, .int .i64 0] from (k32_mkM _ _ _ (⟨0, 7, 100, 0⟩ : S32) )) (Reps.c4 (show Kd.M k32 _ _ _ (⟨5, 6, 101, 0⟩ : S32) [.int .i64 5, .int .i64 6, .int .i64 101, .int .i64 0] from (k32_mkM _ _ _ (⟨5, 6, 101, 0⟩ : S32) )) (Reps.none _ _)))); intro v136 w28 ho29 hb hg_ hnew_; clear hg_ hnew_; (first | rw [← Ny135.out] at ho29 | (simp only [Int.reduceToNat] at ho29; rw [← Ny135.out] at ho29)); have n0_ := Aside0.mk (Kd.R_elder' (by (with_reducible repeat (first | apply Kd.R_alloc | apply Kd.R_drewN | apply Kd.R_drew)); exact HO121.out) (Kd.R_base ho29) hb); have n1_ := Aside0.mk (Kd.R_below (by (with_reducible repeat (first | apply Kd.R_alloc | apply Kd.R_drewN | apply Kd.R_drew)); exact HO129.out) hb); have n2_ := Aside0.mk (Kd.R_lower (Kd.R_new' ho29 (Kd.R_lt (by (with_reducible repeat (first | apply Kd.R_alloc | apply Kd.R_drewN | apply Kd.R_drew)); exact HO121.out))) (below_size (by repeat (first | (with_reducible first | exact HB.out | apply below_alloc | apply pw_below_drewN | apply below_drew1) | exact HB.out)))); have n3_ := Aside0.mk (below_step (by repeat (first | (with_reducible first | exact HB.out | apply below_alloc | apply pw_below_drewN | apply below_drew1) | exact HB.out)) hb); clear HO121; clear HO129; clear HB; have HO121 := n0_; have HO129 := n1_; have HO137 := n2_; have HB := n3_; clear n0_ n1_ n2_ n3_; clear hb ho29; obtain ⟨Ao30, co30, eo30⟩ := Kd.R_slice HO137.out; subst eo30) | (go_at_call 9; (with_reducible refine (broke_Check.calls k _ _ y135 1000 t138 _ ?side1 ?side2 A19.out).mono ?_); (case side1 => repeat (first | exact (Kd.R_reads' HO137.out).2.2 | (with_reducible refine Kd.C_alloc ?_ _) | (with_reducible refine Kd.C_drewN ?_ _) | (with_reducible refine Kd.C_drew ?_))); (case side2 => exact (Kd.R_reads' HO137.out).2.1); rintro e w31 ⟨rfl, hb⟩; have n0_ := Aside0.mk (Kd.R_below (by (with_reducible repeat (first | apply Kd.R_alloc | apply Kd.R_drewN | apply Kd.R_drew)); exact HO121.out) hb); have n1_ := Aside0.mk (Kd.R_below (by (with_reducible repeat (first | apply Kd.R_alloc | apply Kd.R_drewN | apply Kd.R_drew)); exact HO129.out) hb); have n2_ := Aside0.mk (Kd.R_below (by (with_reducible repeat (first | apply Kd.R_alloc | apply Kd.R_drewN | apply Kd.R_drew)); exact HO137.out) hb); have n3_ := Aside0.mk (below_step (by repeat (first | (with_reducible first | exact HB.out | apply below_alloc | apply pw_below_drewN | apply below_drew1) | exact HB.out)) hb); clear HO121; clear HO129; clear HO137; clear HB; have HO121 := n0_; have HO129 := n1_; have HO137 := n2_; have HB := n3_; clear n0_ n1_ n2_ n3_; (try clear hb); (try clear hb2); (try clear hk); (try clear hi)))
                                   go_ret
                                   exact ⟨by first | rfl | (simp [errW_none, errW_some] <;> rfl) | (simp [*, errW_none, errW_some] <;> rfl), by repeat (first | (with_reducible first | exact HB.out | apply below_alloc | apply pw_below_drewN | apply below_drew1) | exact HB.out)⟩)
                            · rw [if_neg c18] at H
                              have c18b0 : (t130 == 2) = false := beq_eq_false_iff_ne.mpr c18
                              have c18b1 : (t130 != 2) = true := bne_iff_ne.mpr c18
                              exact absurd ((Option.some.inj H).trans hr_.out) (by decide)
                          · rw [if_neg c17] at H
                            have c17b0 : ((rd t126 6) == 100) = false := beq_eq_false_iff_ne.mpr c17
                            have c17b1 : ((rd t126 6) != 100) = true := bne_iff_ne.mpr c17
                            exact absurd ((Option.some.inj H).trans hr_.out) (by decide)
                        · rw [if_neg c16] at H
                          exact absurd H (by simp)
                      · rw [if_neg c15] at H
                        have c15b0 : ((rd t126 5) == 50) = false := beq_eq_false_iff_ne.mpr c15
                        have c15b1 : ((rd t126 5) != 50) = true := bne_iff_ne.mpr c15
                        exact absurd ((Option.some.inj H).trans hr_.out) (by decide)
                    · rw [if_neg c14] at H
                      exact absurd H (by simp)
                  · rw [if_neg c13] at H
                    have c13b0 : ((rd t126 1) == 30) = false := beq_eq_false_iff_ne.mpr c13
                    have c13b1 : ((rd t126 1) != 30) = true := bne_iff_ne.mpr c13
                    exact absurd ((Option.some.inj H).trans hr_.out) (by decide)
                · rw [if_neg c12] at H
                  exact absurd H (by simp)
              · rw [if_neg c11] at H
                have c11b0 : ((t126.length : Int) == 7) = false := beq_eq_false_iff_ne.mpr c11
                have c11b1 : ((t126.length : Int) != 7) = true := bne_iff_ne.mpr c11
                exact absurd ((Option.some.inj H).trans hr_.out) (by decide)
            · rw [if_neg c10] at H
              have c10b0 : (t124 == 80) = false := beq_eq_false_iff_ne.mpr c10
              have c10b1 : (t124 != 80) = true := bne_iff_ne.mpr c10
              exact absurd ((Option.some.inj H).trans hr_.out) (by decide)
          · rw [if_neg c9] at H
            have c9b0 : (t122 == 100) = false := beq_eq_false_iff_ne.mpr c9
            have c9b1 : (t122 != 100) = true := bne_iff_ne.mpr c9
            exact absurd ((Option.some.inj H).trans hr_.out) (by decide)
        · rw [if_neg c8] at H
          have c8b0 : (t131 == 0) = false := beq_eq_false_iff_ne.mpr c8
          have c8b1 : (t131 != 0) = true := bne_iff_ne.mpr c8
          exact absurd ((Option.some.inj H).trans hr_.out) (by decide)
      · rw [if_neg c7] at H
        have c7b0 : (t127 == 0) = false := beq_eq_false_iff_ne.mpr c7
        have c7b1 : (t127 != 0) = true := bne_iff_ne.mpr c7
        exact absurd ((Option.some.inj H).trans hr_.out) (by decide)
    · rw [if_neg c6] at H
      have c6b0 : (t125 == 0) = false := beq_eq_false_iff_ne.mpr c6
      have c6b1 : (t125 != 0) = true := bne_iff_ne.mpr c6
      exact absurd ((Option.some.inj H).trans hr_.out) (by decide)
  · rw [if_neg c5] at H
    have c5b0 : (t123 == 0) = false := beq_eq_false_iff_ne.mpr c5
    have c5b1 : (t123 != 0) = true := bne_iff_ne.mpr c5
    exact absurd ((Option.some.inj H).trans hr_.out) (by decide)

def papermilllaw22_awake.f (k : Nat) : Option Bool := (papermilllaw22_awake.g k ).bind fun b => if b = true then some b else none
theorem papermilllaw22_awake.mono : ∀ k, LeO (papermilllaw22_awake.f k) (papermilllaw22_awake.f (k + 1)) := fun k => LeO.bind (papermilllaw22_awake.gmono k) (fun _ => LeO.refl _)
theorem papermilllaw22_awake.calls (k : Nat) (r : Bool) (w : World) (h : papermilllaw22_awake.f k = some r) :
    Calls Try.prog 10 #[] w fun e w' => e = .returned (.bool r) ∧ Below w.heap.size w w' := by
  obtain ⟨b, hb, h2⟩ := Option.bind_eq_some_iff.mp h
  have e : b = true ∧ r = true := by
    cases b with
    | true => exact ⟨rfl, (Option.some.inj h2).symm⟩
    | false => simp at h2
  obtain ⟨rfl, rfl⟩ := e
  exact papermilllaw22_awake.gcalls k true w ⟨rfl⟩ hb

end Go.Proofs.Ythbpjiembjapdaa.P
