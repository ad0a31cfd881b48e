-- Written by a program (wip/prog/pp.py) over the kit's print; some of its functions are proved by hand. Not trusted: Lean checks it.
import Derived.Test.YtnjcedkgnjohfaaPx0
import Derived.Test.YtnjcedkgnjohfaaPx6
import Derived.Test.YtnjcedkgnjohfaaHandDia
namespace Go.Proofs.Ytnjcedkgnjohfaa.P
open Go.RowKit Go.Proofs.YtnjcedkgnjohfaaW.PrintWords Go.Proofs.YtnjcedkgnjohfaaW.PrintLast Go.Proofs.YtnjcedkgnjohfaaW.PrintMore
attribute [local go_sem] max2_int min2_int max_two min_two max_three min_three max_four min_four   -- for this text's walks alone
set_option linter.unusedVariables false
set_option linter.unusedSimpArgs false

/-! ### diameter_Length: function 15 -/
def diameter_Length.f (k : Nat) (a0 : Int) (a1 : Int) (a2 : Int) : Option (Int × Int) := (diameter_check.f k a0 a1 a2).bind fun t108 => (if t108 = 0 then ((diameter_wound.f a0 a1 a2).bind fun t109 => (some (t109, 0))) else (some (0, t108)))
theorem diameter_Length.mono : ∀ a0 a1 a2 k, LeO (diameter_Length.f k a0 a1 a2) (diameter_Length.f (k + 1) a0 a1 a2) := by
  intro a0 a1 a2 k
  unfold diameter_Length.f
  repeat' first
      | (with_reducible exact diameter_check.mono _ _ _ _)
      | (with_reducible exact LeO.refl _)
      | (with_reducible exact LeO.none _)
      | (with_reducible refine LeO.ite ?_ ?_)
      | (with_reducible refine LeO.bind ?_ (fun _ => ?_))
      | exact diameter_check.mono _ _ _ _
      | exact LeO.none _
      | refine LeO.ite ?_ ?_
      | refine LeO.bind ?_ (fun _ => ?_)
set_option maxHeartbeats 8000000 in
set_option maxRecDepth 100000 in
theorem diameter_Length.calls (k : Nat) (a0 : Int) (a1 : Int) (a2 : Int) (r1 : Int) (r2 : Int) (w : World) (h : diameter_Length.f k a0 a1 a2 = some (r1, r2)) :
    Calls Try.prog 15 #[.int .i64 a0, .int .i64 a1, .int .i64 a2] w fun e w' => e = .returned (.tuple #[.int .i64 r1, .int .i64 r2]) ∧ Drawn0 w w' := by
  have H : ((diameter_check.f k a0 a1 a2).bind fun t108 => (if t108 = 0 then ((diameter_wound.f a0 a1 a2).bind fun t109 => (some (t109, 0))) else (some (0, t108)))) = some (r1, r2) := h
  clear h
  replace H := Option.bind_eq_some_iff.mp H
  obtain ⟨t108, A40, H⟩ := H
  replace H : (if t108 = 0 then ((diameter_wound.f a0 a1 a2).bind fun t109 => (some (t109, 0))) else (some (0, t108))) = some (r1, r2) := H
  have A4 := Aside0.mk A40
  clear A40
  by_cases c5 : t108 = 0
  · rw [if_pos c5] at H
    have c5b0 : (t108 == 0) = true := beq_iff_eq.mpr c5
    have c5b1 : (t108 != 0) = false := bne_eq_false_iff_eq.mpr c5
    clear c5
    replace H := Option.bind_eq_some_iff.mp H
    obtain ⟨t109, A60, H⟩ := H
    replace H : (some (t109, 0)) = some (r1, r2) := H
    have A6 := Aside0.mk A60
    clear A60
    simp only [Option.some.injEq, Prod.mk.injEq] at H
    obtain ⟨rfl, rfl⟩ := H
    go_enter Try.func15, Try.ntmps15
    go_wp2_with (first | ((with_reducible refine gate_callee (f := 27) rfl ?_); refine goesL_ (some 12) rfl rfl Try.func27 (by kernel_rfl) rfl #[.int .i64 a0, .int .i64 a1, .int .i64 a2] rfl (by (try simp only [List.map_toArray, List.map_cons, List.map_nil]); first | done | rfl | (simp only [List.length_drop, List.length_take]; rfl)) ?_; (with_reducible refine (diameter_check.calls k a0 a1 a2 t108 _ A4.out).mono ?_); rintro e w' ⟨rfl, ⟨nd, rfl⟩⟩; refine ⟨_, rfl, ?_⟩) | ((with_reducible refine gate_callee (f := 24) rfl ?_); refine goesL_ (some 19) rfl rfl Try.func24 (by kernel_rfl) rfl #[.int .i64 a0, .int .i64 a1, .int .i64 a2] rfl (by (try simp only [List.map_toArray, List.map_cons, List.map_nil]); first | done | rfl | (simp only [List.length_drop, List.length_take]; rfl)) ?_; (with_reducible refine (diameter_wound.calls a0 a1 a2 t109 _ A6.out).mono ?_); rintro e w' ⟨rfl, ⟨nd, rfl⟩⟩; refine ⟨_, rfl, ?_⟩))
    go_ret2
    exact ⟨by first | rfl | (simp; done) | (simp [*]; done), by repeat (first | exact Drawn0.refl _ | apply Drawn0.step)⟩
  · rw [if_neg c5] at H
    have c5b0 : (t108 == 0) = false := beq_eq_false_iff_ne.mpr c5
    have c5b1 : (t108 != 0) = true := bne_iff_ne.mpr c5
    simp only [Option.some.injEq, Prod.mk.injEq] at H
    obtain ⟨rfl, rfl⟩ := H
    go_enter Try.func15, Try.ntmps15
    go_wp2_with (first | ((with_reducible refine gate_callee (f := 27) rfl ?_); refine goesL_ (some 12) rfl rfl Try.func27 (by kernel_rfl) rfl #[.int .i64 a0, .int .i64 a1, .int .i64 a2] rfl (by (try simp only [List.map_toArray, List.map_cons, List.map_nil]); first | done | rfl | (simp only [List.length_drop, List.length_take]; rfl)) ?_; (with_reducible refine (diameter_check.calls k a0 a1 a2 t108 _ A4.out).mono ?_); rintro e w' ⟨rfl, ⟨nd, rfl⟩⟩; refine ⟨_, rfl, ?_⟩))
    go_ret2
    exact ⟨by first | rfl | (simp; done) | (simp [*]; done), by repeat (first | exact Drawn0.refl _ | apply Drawn0.step)⟩

/-! ### diameter_Turns: function 17 -/
def diameter_Turns.f (k : Nat) (a0 : Int) (a1 : Int) (a2 : Int) : Option (Int × Int) := (diameter_check.f k a0 a1 a2).bind fun t110 => (if t110 = 0 then (if a2 = 0 then (none) else (some (wrap64 (Int.tdiv (wrap64 ((wrap64 (a1 - a0)) * 500)) a2), 0))) else (some (0, t110)))
theorem diameter_Turns.mono : ∀ a0 a1 a2 k, LeO (diameter_Turns.f k a0 a1 a2) (diameter_Turns.f (k + 1) a0 a1 a2) := by
  intro a0 a1 a2 k
  unfold diameter_Turns.f
  repeat' first
      | (with_reducible exact diameter_check.mono _ _ _ _)
      | (with_reducible exact LeO.refl _)
      | (with_reducible exact LeO.none _)
      | (with_reducible refine LeO.ite ?_ ?_)
      | (with_reducible refine LeO.bind ?_ (fun _ => ?_))
      | exact diameter_check.mono _ _ _ _
      | exact LeO.none _
      | refine LeO.ite ?_ ?_
      | refine LeO.bind ?_ (fun _ => ?_)
set_option maxHeartbeats 8000000 in
set_option maxRecDepth 100000 in
theorem diameter_Turns.calls (k : Nat) (a0 : Int) (a1 : Int) (a2 : Int) (r1 : Int) (r2 : Int) (w : World) (h : diameter_Turns.f k a0 a1 a2 = some (r1, r2)) :
    Calls Try.prog 17 #[.int .i64 a0, .int .i64 a1, .int .i64 a2] w fun e w' => e = .returned (.tuple #[.int .i64 r1, .int .i64 r2]) ∧ Drawn0 w w' := by
  have H : ((diameter_check.f k a0 a1 a2).bind fun t110 => (if t110 = 0 then (if a2 = 0 then (none) else (some (wrap64 (Int.tdiv (wrap64 ((wrap64 (a1 - a0)) * 500)) a2), 0))) else (some (0, t110)))) = some (r1, r2) := h
  clear h
  replace H := Option.bind_eq_some_iff.mp H
  obtain ⟨t110, A40, H⟩ := H
  replace H : (if t110 = 0 then (if a2 = 0 then (none) else (some (wrap64 (Int.tdiv (wrap64 ((wrap64 (a1 - a0)) * 500)) a2), 0))) else (some (0, t110))) = some (r1, r2) := H
  have A4 := Aside0.mk A40
  clear A40
  by_cases c5 : t110 = 0
  · rw [if_pos c5] at H
    have c5b0 : (t110 == 0) = true := beq_iff_eq.mpr c5
    have c5b1 : (t110 != 0) = false := bne_eq_false_iff_eq.mpr c5
    clear c5
    by_cases c6 : a2 = 0
    · rw [if_pos c6] at H
      exact absurd H (by simp)
    · rw [if_neg c6] at H
      have c6b0 : (a2 == 0) = false := beq_eq_false_iff_ne.mpr c6
      have c6b1 : (a2 != 0) = true := bne_iff_ne.mpr c6
      simp only [Option.some.injEq, Prod.mk.injEq] at H
      obtain ⟨rfl, rfl⟩ := H
      go_enter Try.func17, Try.ntmps17
      go_wp2_with (first | ((with_reducible refine gate_callee (f := 27) rfl ?_); refine goesL_ (some 12) rfl rfl Try.func27 (by kernel_rfl) rfl #[.int .i64 a0, .int .i64 a1, .int .i64 a2] rfl (by (try simp only [List.map_toArray, List.map_cons, List.map_nil]); first | done | rfl | (simp only [List.length_drop, List.length_take]; rfl)) ?_; (with_reducible refine (diameter_check.calls k a0 a1 a2 t110 _ A4.out).mono ?_); rintro e w' ⟨rfl, ⟨nd, rfl⟩⟩; refine ⟨_, rfl, ?_⟩))
      go_ret2
      exact ⟨by first | rfl | (simp; done) | (simp [*]; done), by repeat (first | exact Drawn0.refl _ | apply Drawn0.step)⟩
  · rw [if_neg c5] at H
    have c5b0 : (t110 == 0) = false := beq_eq_false_iff_ne.mpr c5
    have c5b1 : (t110 != 0) = true := bne_iff_ne.mpr c5
    simp only [Option.some.injEq, Prod.mk.injEq] at H
    obtain ⟨rfl, rfl⟩ := H
    go_enter Try.func17, Try.ntmps17
    go_wp2_with (first | ((with_reducible refine gate_callee (f := 27) rfl ?_); refine goesL_ (some 12) rfl rfl Try.func27 (by kernel_rfl) rfl #[.int .i64 a0, .int .i64 a1, .int .i64 a2] rfl (by (try simp only [List.map_toArray, List.map_cons, List.map_nil]); first | done | rfl | (simp only [List.length_drop, List.length_take]; rfl)) ?_; (with_reducible refine (diameter_check.calls k a0 a1 a2 t110 _ A4.out).mono ?_); rintro e w' ⟨rfl, ⟨nd, rfl⟩⟩; refine ⟨_, rfl, ?_⟩))
    go_ret2
    exact ⟨by first | rfl | (simp; done) | (simp [*]; done), by repeat (first | exact Drawn0.refl _ | apply Drawn0.step)⟩

/-! ### papermilllaw37_awake: function 12 -/
def papermilllaw37_awake.g (k : Nat)  : Option (Bool) := (diameter_Length.f k 100 200 100).bind fun bt111 => ((diameter_Dia.f 100 235619 100).bind fun bt113 => ((diameter_Dia.f 100 235620 100).bind fun bt115 => ((diameter_Turns.f k 100 200 300).bind fun bt117 => ((diameter_Mass.f 1000 1000 80500).bind fun bt119 => ((diameter_Length.f k 100 99 1).bind fun bt121 => ((diameter_Dia.f 100 17179869184 5000).bind fun bt123 => (if bt111.1 = 235619 then (if bt111.2 = 0 then (if bt113.1 = 200 then (if bt113.2 = 0 then (if bt115.1 = 201 then (if bt115.2 = 0 then (if bt117.1 = 166 then (if bt117.2 = 0 then (if bt119.1 = 80 then (if bt119.2 = 0 then (if bt121.2 = 9 then (if bt123.2 = 32 then (some true) else (some false)) else (some false)) else (some false)) else (some false)) else (some false)) else (some false)) else (some false)) else (some false)) else (some false)) else (some false)) else (some false)) else (some false))))))))
theorem papermilllaw37_awake.gmono : ∀ k, LeO (papermilllaw37_awake.g k ) (papermilllaw37_awake.g (k + 1) ) := by
  intro  k
  unfold papermilllaw37_awake.g
  repeat' first
      | (with_reducible exact diameter_Length.mono _ _ _ _)
      | (with_reducible exact diameter_Turns.mono _ _ _ _)
      | (with_reducible exact LeO.refl _)
      | (with_reducible exact LeO.none _)
      | (with_reducible refine LeO.ite ?_ ?_)
      | (with_reducible refine LeO.bind ?_ (fun _ => ?_))
      | exact diameter_Length.mono _ _ _ _
      | exact diameter_Turns.mono _ _ _ _
      | exact LeO.none _
      | refine LeO.ite ?_ ?_
      | refine LeO.bind ?_ (fun _ => ?_)
set_option maxHeartbeats 8000000 in
set_option maxRecDepth 100000 in
theorem papermilllaw37_awake.gcalls (k : Nat)  (r : Bool) (w : World) (hr_ : Aside0 (r = true)) (h : papermilllaw37_awake.g k  = some r) :
    Calls Try.prog 12 #[] w fun e w' => e = .returned (.bool r) ∧ Below w.heap.size w w' := by
  have HB := Aside0.mk (Below.refl w.heap.size w)
  have H : ((diameter_Length.f k 100 200 100).bind fun bt111 => ((diameter_Dia.f 100 235619 100).bind fun bt113 => ((diameter_Dia.f 100 235620 100).bind fun bt115 => ((diameter_Turns.f k 100 200 300).bind fun bt117 => ((diameter_Mass.f 1000 1000 80500).bind fun bt119 => ((diameter_Length.f k 100 99 1).bind fun bt121 => ((diameter_Dia.f 100 17179869184 5000).bind fun bt123 => (if bt111.1 = 235619 then (if bt111.2 = 0 then (if bt113.1 = 200 then (if bt113.2 = 0 then (if bt115.1 = 201 then (if bt115.2 = 0 then (if bt117.1 = 166 then (if bt117.2 = 0 then (if bt119.1 = 80 then (if bt119.2 = 0 then (if bt121.2 = 9 then (if bt123.2 = 32 then (some true) else (some false)) else (some false)) else (some false)) else (some false)) else (some false)) else (some false)) else (some false)) else (some false)) else (some false)) else (some false)) else (some false)) else (some false))))))))) = some r := h
  clear h
  replace H := Option.bind_eq_some_iff.mp H
  obtain ⟨⟨t111, t112⟩, A10, H⟩ := H
  replace H : ((diameter_Dia.f 100 235619 100).bind fun bt113 => ((diameter_Dia.f 100 235620 100).bind fun bt115 => ((diameter_Turns.f k 100 200 300).bind fun bt117 => ((diameter_Mass.f 1000 1000 80500).bind fun bt119 => ((diameter_Length.f k 100 99 1).bind fun bt121 => ((diameter_Dia.f 100 17179869184 5000).bind fun bt123 => (if t111 = 235619 then (if t112 = 0 then (if bt113.1 = 200 then (if bt113.2 = 0 then (if bt115.1 = 201 then (if bt115.2 = 0 then (if bt117.1 = 166 then (if bt117.2 = 0 then (if bt119.1 = 80 then (if bt119.2 = 0 then (if bt121.2 = 9 then (if bt123.2 = 32 then (some true) else (some false)) else (some false)) else (some false)) else (some false)) else (some false)) else (some false)) else (some false)) else (some false)) else (some false)) else (some false)) else (some false)) else (some false)))))))) = some r := H
  have A1 := Aside0.mk A10
  clear A10
  replace H := Option.bind_eq_some_iff.mp H
  obtain ⟨⟨t113, t114⟩, A20, H⟩ := H
  replace H : ((diameter_Dia.f 100 235620 100).bind fun bt115 => ((diameter_Turns.f k 100 200 300).bind fun bt117 => ((diameter_Mass.f 1000 1000 80500).bind fun bt119 => ((diameter_Length.f k 100 99 1).bind fun bt121 => ((diameter_Dia.f 100 17179869184 5000).bind fun bt123 => (if t111 = 235619 then (if t112 = 0 then (if t113 = 200 then (if t114 = 0 then (if bt115.1 = 201 then (if bt115.2 = 0 then (if bt117.1 = 166 then (if bt117.2 = 0 then (if bt119.1 = 80 then (if bt119.2 = 0 then (if bt121.2 = 9 then (if bt123.2 = 32 then (some true) else (some false)) else (some false)) else (some false)) else (some false)) else (some false)) else (some false)) else (some false)) else (some false)) else (some false)) else (some false)) else (some false)) else (some false))))))) = some r := H
  have A2 := Aside0.mk A20
  clear A20
  replace H := Option.bind_eq_some_iff.mp H
  obtain ⟨⟨t115, t116⟩, A30, H⟩ := H
  replace H : ((diameter_Turns.f k 100 200 300).bind fun bt117 => ((diameter_Mass.f 1000 1000 80500).bind fun bt119 => ((diameter_Length.f k 100 99 1).bind fun bt121 => ((diameter_Dia.f 100 17179869184 5000).bind fun bt123 => (if t111 = 235619 then (if t112 = 0 then (if t113 = 200 then (if t114 = 0 then (if t115 = 201 then (if t116 = 0 then (if bt117.1 = 166 then (if bt117.2 = 0 then (if bt119.1 = 80 then (if bt119.2 = 0 then (if bt121.2 = 9 then (if bt123.2 = 32 then (some true) else (some false)) else (some false)) else (some false)) else (some false)) else (some false)) else (some false)) else (some false)) else (some false)) else (some false)) else (some false)) else (some false)) else (some false)))))) = some r := H
  have A3 := Aside0.mk A30
  clear A30
  replace H := Option.bind_eq_some_iff.mp H
  obtain ⟨⟨t117, t118⟩, A40, H⟩ := H
  replace H : ((diameter_Mass.f 1000 1000 80500).bind fun bt119 => ((diameter_Length.f k 100 99 1).bind fun bt121 => ((diameter_Dia.f 100 17179869184 5000).bind fun bt123 => (if t111 = 235619 then (if t112 = 0 then (if t113 = 200 then (if t114 = 0 then (if t115 = 201 then (if t116 = 0 then (if t117 = 166 then (if t118 = 0 then (if bt119.1 = 80 then (if bt119.2 = 0 then (if bt121.2 = 9 then (if bt123.2 = 32 then (some true) else (some false)) else (some false)) else (some false)) else (some false)) else (some false)) else (some false)) else (some false)) else (some false)) else (some false)) else (some false)) else (some false)) else (some false))))) = some r := H
  have A4 := Aside0.mk A40
  clear A40
  replace H := Option.bind_eq_some_iff.mp H
  obtain ⟨⟨t119, t120⟩, A50, H⟩ := H
  replace H : ((diameter_Length.f k 100 99 1).bind fun bt121 => ((diameter_Dia.f 100 17179869184 5000).bind fun bt123 => (if t111 = 235619 then (if t112 = 0 then (if t113 = 200 then (if t114 = 0 then (if t115 = 201 then (if t116 = 0 then (if t117 = 166 then (if t118 = 0 then (if t119 = 80 then (if t120 = 0 then (if bt121.2 = 9 then (if bt123.2 = 32 then (some true) else (some false)) else (some false)) else (some false)) else (some false)) else (some false)) else (some false)) else (some false)) else (some false)) else (some false)) else (some false)) else (some false)) else (some false)))) = some r := H
  have A5 := Aside0.mk A50
  clear A50
  replace H := Option.bind_eq_some_iff.mp H
  obtain ⟨⟨t121, t122⟩, A60, H⟩ := H
  replace H : ((diameter_Dia.f 100 17179869184 5000).bind fun bt123 => (if t111 = 235619 then (if t112 = 0 then (if t113 = 200 then (if t114 = 0 then (if t115 = 201 then (if t116 = 0 then (if t117 = 166 then (if t118 = 0 then (if t119 = 80 then (if t120 = 0 then (if t122 = 9 then (if bt123.2 = 32 then (some true) else (some false)) else (some false)) else (some false)) else (some false)) else (some false)) else (some false)) else (some false)) else (some false)) else (some false)) else (some false)) else (some false)) else (some false))) = some r := H
  have A6 := Aside0.mk A60
  clear A60
  replace H := Option.bind_eq_some_iff.mp H
  obtain ⟨⟨t123, t124⟩, A70, H⟩ := H
  replace H : (if t111 = 235619 then (if t112 = 0 then (if t113 = 200 then (if t114 = 0 then (if t115 = 201 then (if t116 = 0 then (if t117 = 166 then (if t118 = 0 then (if t119 = 80 then (if t120 = 0 then (if t122 = 9 then (if t124 = 32 then (some true) else (some false)) else (some false)) else (some false)) else (some false)) else (some false)) else (some false)) else (some false)) else (some false)) else (some false)) else (some false)) else (some false)) else (some false)) = some r := H
  have A7 := Aside0.mk A70
  clear A70
  by_cases c8 : t111 = 235619
  · rw [if_pos c8] at H
    have c8b0 : (t111 == 235619) = true := beq_iff_eq.mpr c8
    have c8b1 : (t111 != 235619) = false := bne_eq_false_iff_eq.mpr c8
    clear c8
    by_cases c9 : t112 = 0
    · rw [if_pos c9] at H
      have c9b0 : (t112 == 0) = true := beq_iff_eq.mpr c9
      have c9b1 : (t112 != 0) = false := bne_eq_false_iff_eq.mpr c9
      clear c9
      by_cases c10 : t113 = 200
      · rw [if_pos c10] at H
        have c10b0 : (t113 == 200) = true := beq_iff_eq.mpr c10
        have c10b1 : (t113 != 200) = false := bne_eq_false_iff_eq.mpr c10
        clear c10
        by_cases c11 : t114 = 0
        · rw [if_pos c11] at H
          have c11b0 : (t114 == 0) = true := beq_iff_eq.mpr c11
          have c11b1 : (t114 != 0) = false := bne_eq_false_iff_eq.mpr c11
          clear c11
          by_cases c12 : t115 = 201
          · rw [if_pos c12] at H
            have c12b0 : (t115 == 201) = true := beq_iff_eq.mpr c12
            have c12b1 : (t115 != 201) = false := bne_eq_false_iff_eq.mpr c12
            clear c12
            by_cases c13 : t116 = 0
            · rw [if_pos c13] at H
              have c13b0 : (t116 == 0) = true := beq_iff_eq.mpr c13
              have c13b1 : (t116 != 0) = false := bne_eq_false_iff_eq.mpr c13
              clear c13
              by_cases c14 : t117 = 166
              · rw [if_pos c14] at H
                have c14b0 : (t117 == 166) = true := beq_iff_eq.mpr c14
                have c14b1 : (t117 != 166) = false := bne_eq_false_iff_eq.mpr c14
                clear c14
                by_cases c15 : t118 = 0
                · rw [if_pos c15] at H
                  have c15b0 : (t118 == 0) = true := beq_iff_eq.mpr c15
                  have c15b1 : (t118 != 0) = false := bne_eq_false_iff_eq.mpr c15
                  clear c15
                  by_cases c16 : t119 = 80
                  · rw [if_pos c16] at H
                    have c16b0 : (t119 == 80) = true := beq_iff_eq.mpr c16
                    have c16b1 : (t119 != 80) = false := bne_eq_false_iff_eq.mpr c16
                    clear c16
                    by_cases c17 : t120 = 0
                    · rw [if_pos c17] at H
                      have c17b0 : (t120 == 0) = true := beq_iff_eq.mpr c17
                      have c17b1 : (t120 != 0) = false := bne_eq_false_iff_eq.mpr c17
                      clear c17
                      by_cases c18 : t122 = 9
                      · rw [if_pos c18] at H
                        have c18b0 : (t122 == 9) = true := beq_iff_eq.mpr c18
                        have c18b1 : (t122 != 9) = false := bne_eq_false_iff_eq.mpr c18
                        clear c18
                        by_cases c19 : t124 = 32
                        · rw [if_pos c19] at H
                          have c19b0 : (t124 == 32) = true := beq_iff_eq.mpr c19
                          have c19b1 : (t124 != 32) = false := bne_eq_false_iff_eq.mpr c19
                          clear c19
                          obtain rfl := Option.some.inj H
                          go_enter Try.func12, Try.ntmps12
                          go_wp2_with (first | ((with_reducible refine gate_callee (f := 15) rfl ?_); refine goesL_ (some 16) rfl rfl Try.func15 (by kernel_rfl) rfl #[.int .i64 100, .int .i64 200, .int .i64 100] rfl (by (try simp only [List.map_toArray, List.map_cons, List.map_nil]); first | done | rfl | (simp only [List.length_drop, List.length_take]; rfl)) ?_; (with_reducible refine (diameter_Length.calls k 100 200 100 t111 t112 _ A1.out).mono ?_); rintro e w' ⟨rfl, ⟨nd, rfl⟩⟩; refine ⟨_, rfl, ?_⟩) | ((with_reducible refine gate_callee (f := 10) rfl ?_); refine goesL_ (some 20) rfl rfl Try.func10 (by kernel_rfl) rfl #[.int .i64 100, .int .i64 235619, .int .i64 100] rfl (by (try simp only [List.map_toArray, List.map_cons, List.map_nil]); first | done | rfl | (simp only [List.length_drop, List.length_take]; rfl)) ?_; (with_reducible refine (diameter_Dia.calls 100 235619 100 t113 t114 _ A2.out).mono ?_); rintro e w20 ⟨rfl, hb⟩; refine ⟨_, rfl, ?_⟩; have n0_ := Aside0.mk (below_step (by repeat (first | (with_reducible first | exact HB.out | apply below_alloc | apply pw_below_drewN | apply below_drew1) | exact HB.out)) hb); clear HB; have HB := n0_; clear n0_; (try clear hb); (try clear hb2); (try clear hk); (try clear hi)) | ((with_reducible refine gate_callee (f := 10) rfl ?_); refine goesL_ (some 24) rfl rfl Try.func10 (by kernel_rfl) rfl #[.int .i64 100, .int .i64 235620, .int .i64 100] rfl (by (try simp only [List.map_toArray, List.map_cons, List.map_nil]); first | done | rfl | (simp only [List.length_drop, List.length_take]; rfl)) ?_; (with_reducible refine (diameter_Dia.calls 100 235620 100 t115 t116 _ A3.out).mono ?_); rintro e w21 ⟨rfl, hb⟩; refine ⟨_, rfl, ?_⟩; have n0_ := Aside0.mk (below_step (by repeat (first | (with_reducible first | exact HB.out | apply below_alloc | apply pw_below_drewN | apply below_drew1) | exact HB.out)) hb); clear HB; have HB := n0_; clear n0_; (try clear hb); (try clear hb2); (try clear hk); (try clear hi)) | ((with_reducible refine gate_callee (f := 17) rfl ?_); refine goesL_ (some 28) rfl rfl Try.func17 (by kernel_rfl) rfl #[.int .i64 100, .int .i64 200, .int .i64 300] rfl (by (try simp only [List.map_toArray, List.map_cons, List.map_nil]); first | done | rfl | (simp only [List.length_drop, List.length_take]; rfl)) ?_; (with_reducible refine (diameter_Turns.calls k 100 200 300 t117 t118 _ A4.out).mono ?_); rintro e w' ⟨rfl, ⟨nd, rfl⟩⟩; refine ⟨_, rfl, ?_⟩) | ((with_reducible refine gate_callee (f := 13) rfl ?_); refine goesL_ (some 32) rfl rfl Try.func13 (by kernel_rfl) rfl #[.int .i64 1000, .int .i64 1000, .int .i64 80500] rfl (by (try simp only [List.map_toArray, List.map_cons, List.map_nil]); first | done | rfl | (simp only [List.length_drop, List.length_take]; rfl)) ?_; (with_reducible refine (diameter_Mass.calls 1000 1000 80500 t119 t120 _ A5.out).mono ?_); rintro e w22 ⟨rfl, hb⟩; refine ⟨_, rfl, ?_⟩; have n0_ := Aside0.mk (below_step (by repeat (first | (with_reducible first | exact HB.out | apply below_alloc | apply pw_below_drewN | apply below_drew1) | exact HB.out)) hb); clear HB; have HB := n0_; clear n0_; (try clear hb); (try clear hb2); (try clear hk); (try clear hi)) | ((with_reducible refine gate_callee (f := 15) rfl ?_); refine goesL_ (some 36) rfl rfl Try.func15 (by kernel_rfl) rfl #[.int .i64 100, .int .i64 99, .int .i64 1] rfl (by (try simp only [List.map_toArray, List.map_cons, List.map_nil]); first | done | rfl | (simp only [List.length_drop, List.length_take]; rfl)) ?_; (with_reducible refine (diameter_Length.calls k 100 99 1 t121 t122 _ A6.out).mono ?_); rintro e w' ⟨rfl, ⟨nd, rfl⟩⟩; refine ⟨_, rfl, ?_⟩) | ((with_reducible refine gate_callee (f := 10) rfl ?_); refine goesL_ (some 40) rfl rfl Try.func10 (by kernel_rfl) rfl #[.int .i64 100, .int .i64 17179869184, .int .i64 5000] rfl (by (try simp only [List.map_toArray, List.map_cons, List.map_nil]); first | done | rfl | (simp only [List.length_drop, List.length_take]; rfl)) ?_; (with_reducible refine (diameter_Dia.calls 100 17179869184 5000 t123 t124 _ A7.out).mono ?_); rintro e w23 ⟨rfl, hb⟩; refine ⟨_, rfl, ?_⟩; have n0_ := Aside0.mk (below_step (by repeat (first | (with_reducible first | exact HB.out | apply below_alloc | apply pw_below_drewN | apply below_drew1) | exact HB.out)) hb); clear HB; have HB := n0_; clear n0_; (try clear hb); (try clear hb2); (try clear hk); (try clear hi)))
                          go_ret
                          exact ⟨by first | rfl | (simp [errW_none, errW_some] <;> rfl) | (simp [*, errW_none, errW_some] <;> rfl), by repeat (first | (with_reducible first | exact HB.out | apply below_alloc | apply pw_below_drewN | apply below_drew1) | exact HB.out)⟩
                        · rw [if_neg c19] at H
                          have c19b0 : (t124 == 32) = false := beq_eq_false_iff_ne.mpr c19
                          have c19b1 : (t124 != 32) = true := bne_iff_ne.mpr c19
                          exact absurd ((Option.some.inj H).trans hr_.out) (by decide)
                      · rw [if_neg c18] at H
                        have c18b0 : (t122 == 9) = false := beq_eq_false_iff_ne.mpr c18
                        have c18b1 : (t122 != 9) = true := bne_iff_ne.mpr c18
                        exact absurd ((Option.some.inj H).trans hr_.out) (by decide)
                    · rw [if_neg c17] at H
                      have c17b0 : (t120 == 0) = false := beq_eq_false_iff_ne.mpr c17
                      have c17b1 : (t120 != 0) = true := bne_iff_ne.mpr c17
                      exact absurd ((Option.some.inj H).trans hr_.out) (by decide)
                  · rw [if_neg c16] at H
                    have c16b0 : (t119 == 80) = false := beq_eq_false_iff_ne.mpr c16
                    have c16b1 : (t119 != 80) = true := bne_iff_ne.mpr c16
                    exact absurd ((Option.some.inj H).trans hr_.out) (by decide)
                · rw [if_neg c15] at H
                  have c15b0 : (t118 == 0) = false := beq_eq_false_iff_ne.mpr c15
                  have c15b1 : (t118 != 0) = true := bne_iff_ne.mpr c15
                  exact absurd ((Option.some.inj H).trans hr_.out) (by decide)
              · rw [if_neg c14] at H
                have c14b0 : (t117 == 166) = false := beq_eq_false_iff_ne.mpr c14
                have c14b1 : (t117 != 166) = true := bne_iff_ne.mpr c14
                exact absurd ((Option.some.inj H).trans hr_.out) (by decide)
            · rw [if_neg c13] at H
              have c13b0 : (t116 == 0) = false := beq_eq_false_iff_ne.mpr c13
              have c13b1 : (t116 != 0) = true := bne_iff_ne.mpr c13
              exact absurd ((Option.some.inj H).trans hr_.out) (by decide)
          · rw [if_neg c12] at H
            have c12b0 : (t115 == 201) = false := beq_eq_false_iff_ne.mpr c12
            have c12b1 : (t115 != 201) = true := bne_iff_ne.mpr c12
            exact absurd ((Option.some.inj H).trans hr_.out) (by decide)
        · rw [if_neg c11] at H
          have c11b0 : (t114 == 0) = false := beq_eq_false_iff_ne.mpr c11
          have c11b1 : (t114 != 0) = true := bne_iff_ne.mpr c11
          exact absurd ((Option.some.inj H).trans hr_.out) (by decide)
      · rw [if_neg c10] at H
        have c10b0 : (t113 == 200) = false := beq_eq_false_iff_ne.mpr c10
        have c10b1 : (t113 != 200) = true := bne_iff_ne.mpr c10
        exact absurd ((Option.some.inj H).trans hr_.out) (by decide)
    · rw [if_neg c9] at H
      have c9b0 : (t112 == 0) = false := beq_eq_false_iff_ne.mpr c9
      have c9b1 : (t112 != 0) = true := bne_iff_ne.mpr c9
      exact absurd ((Option.some.inj H).trans hr_.out) (by decide)
  · rw [if_neg c8] at H
    have c8b0 : (t111 == 235619) = false := beq_eq_false_iff_ne.mpr c8
    have c8b1 : (t111 != 235619) = true := bne_iff_ne.mpr c8
    exact absurd ((Option.some.inj H).trans hr_.out) (by decide)

def papermilllaw37_awake.f (k : Nat) : Option Bool := (papermilllaw37_awake.g k ).bind fun b => if b = true then some b else none
theorem papermilllaw37_awake.mono : ∀ k, LeO (papermilllaw37_awake.f k) (papermilllaw37_awake.f (k + 1)) := fun k => LeO.bind (papermilllaw37_awake.gmono k) (fun _ => LeO.refl _)
theorem papermilllaw37_awake.calls (k : Nat) (r : Bool) (w : World) (h : papermilllaw37_awake.f k = some r) :
    Calls Try.prog 12 #[] w fun e w' => e = .returned (.bool r) ∧ Below w.heap.size w w' := by
  obtain ⟨b, hb, h2⟩ := Option.bind_eq_some_iff.mp h
  have e : b = true ∧ r = true := by
    cases b with
    | true => exact ⟨rfl, (Option.some.inj h2).symm⟩
    | false => simp at h2
  obtain ⟨rfl, rfl⟩ := e
  exact papermilllaw37_awake.gcalls k true w ⟨rfl⟩ hb

end Go.Proofs.Ytnjcedkgnjohfaa.P
