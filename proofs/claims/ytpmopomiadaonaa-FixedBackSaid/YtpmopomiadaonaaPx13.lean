-- Written by a program (wip/prog/pp.py) over the kit's print; some of its functions are proved by hand. Not trusted: Lean checks it.
import Derived.Test.YtpmopomiadaonaaPx0
import Derived.Test.YtpmopomiadaonaaPx8
import Derived.Test.YtpmopomiadaonaaPx9
import Derived.Test.YtpmopomiadaonaaPx12
namespace Go.Proofs.Ytpmopomiadaonaa.P
open Go.RowKit Go.Proofs.YtpmopomiadaonaaW.PrintWords Go.Proofs.YtpmopomiadaonaaW.PrintLast Go.Proofs.YtpmopomiadaonaaW.PrintMore
attribute [local go_sem] max2_int min2_int max_two min_two max_three min_three max_four min_four   -- for this text's walks alone
set_option linter.unusedVariables false
set_option linter.unusedSimpArgs false

/-! ### papermilllaw23_FixedMuls: function 5 -/
def papermilllaw23_FixedMuls.f (k : Nat) (a0 : Int) (a1 : Int) : Option (Bool) := (fixed_Mul.f k a0 a1).bind fun bt201 => ((papermillref23_Mul.f k a0 a1).bind fun bt203 => ((fixed_Div.f k a0 a1).bind fun bt205 => ((papermillref23_Div.f k a0 a1).bind fun bt207 => (if bt201.1 = bt203.1 then (if bt201.2 = bt203.2 then (if bt205.1 = bt207.1 then (if bt205.2 = bt207.2 then ((papermilllaw23_awake.f k).bind fun t209 => (some t209)) else (some false)) else (some false)) else (some false)) else (some false)))))
theorem papermilllaw23_FixedMuls.mono : ∀ a0 a1 k, LeO (papermilllaw23_FixedMuls.f k a0 a1) (papermilllaw23_FixedMuls.f (k + 1) a0 a1) := by
  intro a0 a1 k
  unfold papermilllaw23_FixedMuls.f
  repeat' first
      | (with_reducible exact fixed_Div.mono _ _ _)
      | (with_reducible exact fixed_Mul.mono _ _ _)
      | (with_reducible exact papermilllaw23_awake.mono _)
      | (with_reducible exact papermillref23_Div.mono _ _ _)
      | (with_reducible exact papermillref23_Mul.mono _ _ _)
      | (with_reducible exact LeO.refl _)
      | (with_reducible exact LeO.none _)
      | (with_reducible refine LeO.ite ?_ ?_)
      | (with_reducible refine LeO.bind ?_ (fun _ => ?_))
      | exact fixed_Div.mono _ _ _
      | exact fixed_Mul.mono _ _ _
      | exact papermilllaw23_awake.mono _
      | exact papermillref23_Div.mono _ _ _
      | exact papermillref23_Mul.mono _ _ _
      | exact LeO.none _
      | refine LeO.ite ?_ ?_
      | refine LeO.bind ?_ (fun _ => ?_)
set_option maxHeartbeats 8000000 in
set_option maxRecDepth 100000 in
theorem papermilllaw23_FixedMuls.calls (k : Nat) (a0 : Int) (a1 : Int) (r : Bool) (w : World) (hr_ : Aside0 (r = true)) (h : papermilllaw23_FixedMuls.f k a0 a1 = some r) :
    Calls Try.prog 5 #[.int .i64 a0, .int .i64 a1] w fun e w' => e = .returned (.bool r) ∧ Below w.heap.size w w' := by
  have HB := Aside0.mk (Below.refl w.heap.size w)
  have H : ((fixed_Mul.f k a0 a1).bind fun bt201 => ((papermillref23_Mul.f k a0 a1).bind fun bt203 => ((fixed_Div.f k a0 a1).bind fun bt205 => ((papermillref23_Div.f k a0 a1).bind fun bt207 => (if bt201.1 = bt203.1 then (if bt201.2 = bt203.2 then (if bt205.1 = bt207.1 then (if bt205.2 = bt207.2 then ((papermilllaw23_awake.f k).bind fun t209 => (some t209)) else (some false)) else (some false)) else (some false)) else (some false)))))) = some r := h
  clear h
  replace H := Option.bind_eq_some_iff.mp H
  obtain ⟨⟨t201, t202⟩, A30, H⟩ := H
  replace H : ((papermillref23_Mul.f k a0 a1).bind fun bt203 => ((fixed_Div.f k a0 a1).bind fun bt205 => ((papermillref23_Div.f k a0 a1).bind fun bt207 => (if t201 = bt203.1 then (if t202 = bt203.2 then (if bt205.1 = bt207.1 then (if bt205.2 = bt207.2 then ((papermilllaw23_awake.f k).bind fun t209 => (some t209)) else (some false)) else (some false)) else (some false)) else (some false))))) = some r := H
  have A3 := Aside0.mk A30
  clear A30
  replace H := Option.bind_eq_some_iff.mp H
  obtain ⟨⟨t203, t204⟩, A40, H⟩ := H
  replace H : ((fixed_Div.f k a0 a1).bind fun bt205 => ((papermillref23_Div.f k a0 a1).bind fun bt207 => (if t201 = t203 then (if t202 = t204 then (if bt205.1 = bt207.1 then (if bt205.2 = bt207.2 then ((papermilllaw23_awake.f k).bind fun t209 => (some t209)) else (some false)) else (some false)) else (some false)) else (some false)))) = some r := H
  have A4 := Aside0.mk A40
  clear A40
  replace H := Option.bind_eq_some_iff.mp H
  obtain ⟨⟨t205, t206⟩, A50, H⟩ := H
  replace H : ((papermillref23_Div.f k a0 a1).bind fun bt207 => (if t201 = t203 then (if t202 = t204 then (if t205 = bt207.1 then (if t206 = bt207.2 then ((papermilllaw23_awake.f k).bind fun t209 => (some t209)) else (some false)) else (some false)) else (some false)) else (some false))) = some r := H
  have A5 := Aside0.mk A50
  clear A50
  replace H := Option.bind_eq_some_iff.mp H
  obtain ⟨⟨t207, t208⟩, A60, H⟩ := H
  replace H : (if t201 = t203 then (if t202 = t204 then (if t205 = t207 then (if t206 = t208 then ((papermilllaw23_awake.f k).bind fun t209 => (some t209)) else (some false)) else (some false)) else (some false)) else (some false)) = some r := H
  have A6 := Aside0.mk A60
  clear A60
  by_cases c7 : t201 = t203
  · rw [if_pos c7] at H
    have c7b0 : (t201 == t203) = true := beq_iff_eq.mpr c7
    have c7b1 : (t201 != t203) = false := bne_eq_false_iff_eq.mpr c7
    clear c7
    by_cases c8 : t202 = t204
    · rw [if_pos c8] at H
      have c8b0 : (t202 == t204) = true := beq_iff_eq.mpr c8
      have c8b1 : (t202 != t204) = false := bne_eq_false_iff_eq.mpr c8
      clear c8
      by_cases c9 : t205 = t207
      · rw [if_pos c9] at H
        have c9b0 : (t205 == t207) = true := beq_iff_eq.mpr c9
        have c9b1 : (t205 != t207) = false := bne_eq_false_iff_eq.mpr c9
        clear c9
        by_cases c10 : t206 = t208
        · rw [if_pos c10] at H
          have c10b0 : (t206 == t208) = true := beq_iff_eq.mpr c10
          have c10b1 : (t206 != t208) = false := bne_eq_false_iff_eq.mpr c10
          clear c10
          replace H := Option.bind_eq_some_iff.mp H
          obtain ⟨t209, A110, H⟩ := H
          replace H : (some t209) = some r := H
          have A11 := Aside0.mk A110
          clear A110
          first
            | exact absurd ((Option.some.inj H).trans hr_.out) (by decide)
            | (skip
               obtain rfl := Option.some.inj H
               go_enter Try.func5, Try.ntmps5
               go_wp2_with (first | ((with_reducible refine gate_callee (f := 19) rfl ?_); refine goesL_ (some 16) rfl rfl Try.func19 (by kernel_rfl) rfl #[.int .i64 a0, .int .i64 a1] rfl (by (try simp only [List.map_toArray, List.map_cons, List.map_nil]); first | done | rfl | (simp only [List.length_drop, List.length_take]; rfl)) ?_; (with_reducible refine (fixed_Mul.calls k a0 a1 t201 t202 _ A3.out).mono ?_); rintro e w12 ⟨rfl, hb⟩; refine ⟨_, rfl, ?_⟩; have n0_ := Aside0.mk (below_step (by repeat (first | (with_reducible first | exact HB.out | apply below_alloc | apply pw_below_drewN | apply below_drew1) | exact HB.out)) hb); clear HB; have HB := n0_; clear n0_; (try clear hb); (try clear hb2); (try clear hk); (try clear hi)) | ((with_reducible refine gate_callee (f := 20) rfl ?_); refine goesL_ (some 22) rfl rfl Try.func20 (by kernel_rfl) rfl #[.int .i64 a0, .int .i64 a1] rfl (by (try simp only [List.map_toArray, List.map_cons, List.map_nil]); first | done | rfl | (simp only [List.length_drop, List.length_take]; rfl)) ?_; (with_reducible refine (papermillref23_Mul.calls k a0 a1 t203 t204 _ A4.out).mono ?_); rintro e w13 ⟨rfl, hb⟩; refine ⟨_, rfl, ?_⟩; have n0_ := Aside0.mk (below_step (by repeat (first | (with_reducible first | exact HB.out | apply below_alloc | apply pw_below_drewN | apply below_drew1) | exact HB.out)) hb); clear HB; have HB := n0_; clear n0_; (try clear hb); (try clear hb2); (try clear hk); (try clear hi)) | ((with_reducible refine gate_callee (f := 21) rfl ?_); refine goesL_ (some 28) rfl rfl Try.func21 (by kernel_rfl) rfl #[.int .i64 a0, .int .i64 a1] rfl (by (try simp only [List.map_toArray, List.map_cons, List.map_nil]); first | done | rfl | (simp only [List.length_drop, List.length_take]; rfl)) ?_; (with_reducible refine (fixed_Div.calls k a0 a1 t205 t206 _ A5.out).mono ?_); rintro e w14 ⟨rfl, hb⟩; refine ⟨_, rfl, ?_⟩; have n0_ := Aside0.mk (below_step (by repeat (first | (with_reducible first | exact HB.out | apply below_alloc | apply pw_below_drewN | apply below_drew1) | exact HB.out)) hb); clear HB; have HB := n0_; clear n0_; (try clear hb); (try clear hb2); (try clear hk); (try clear hi)) | ((with_reducible refine gate_callee (f := 22) rfl ?_); refine goesL_ (some 34) rfl rfl Try.func22 (by kernel_rfl) rfl #[.int .i64 a0, .int .i64 a1] rfl (by (try simp only [List.map_toArray, List.map_cons, List.map_nil]); first | done | rfl | (simp only [List.length_drop, List.length_take]; rfl)) ?_; (with_reducible refine (papermillref23_Div.calls k a0 a1 t207 t208 _ A6.out).mono ?_); rintro e w15 ⟨rfl, hb⟩; refine ⟨_, rfl, ?_⟩; have n0_ := Aside0.mk (below_step (by repeat (first | (with_reducible first | exact HB.out | apply below_alloc | apply pw_below_drewN | apply below_drew1) | exact HB.out)) hb); clear HB; have HB := n0_; clear n0_; (try clear hb); (try clear hb2); (try clear hk); (try clear hi)) | (go_at_call 16; (with_reducible refine (papermilllaw23_awake.calls k  t209 _ A11.out).mono ?_); rintro e w16 ⟨rfl, hb⟩; have n0_ := Aside0.mk (below_step (by repeat (first | (with_reducible first | exact HB.out | apply below_alloc | apply pw_below_drewN | apply below_drew1) | exact HB.out)) hb); clear HB; have HB := n0_; clear n0_; (try clear hb); (try clear hb2); (try clear hk); (try clear hi)))
               go_ret
               exact ⟨by first | rfl | (simp [errW_none, errW_some] <;> rfl) | (simp [*, errW_none, errW_some] <;> rfl), by repeat (first | (with_reducible first | exact HB.out | apply below_alloc | apply pw_below_drewN | apply below_drew1) | exact HB.out)⟩)
        · rw [if_neg c10] at H
          have c10b0 : (t206 == t208) = false := beq_eq_false_iff_ne.mpr c10
          have c10b1 : (t206 != t208) = true := bne_iff_ne.mpr c10
          exact absurd ((Option.some.inj H).trans hr_.out) (by decide)
      · rw [if_neg c9] at H
        have c9b0 : (t205 == t207) = false := beq_eq_false_iff_ne.mpr c9
        have c9b1 : (t205 != t207) = true := bne_iff_ne.mpr c9
        exact absurd ((Option.some.inj H).trans hr_.out) (by decide)
    · rw [if_neg c8] at H
      have c8b0 : (t202 == t204) = false := beq_eq_false_iff_ne.mpr c8
      have c8b1 : (t202 != t204) = true := bne_iff_ne.mpr c8
      exact absurd ((Option.some.inj H).trans hr_.out) (by decide)
  · rw [if_neg c7] at H
    have c7b0 : (t201 == t203) = false := beq_eq_false_iff_ne.mpr c7
    have c7b1 : (t201 != t203) = true := bne_iff_ne.mpr c7
    exact absurd ((Option.some.inj H).trans hr_.out) (by decide)

/-- THE ONE PURE STATEMENT of papermilllaw23_FixedMuls: yours. -/
def papermilllaw23_FixedMuls.Pure : Prop := ∀ (a0 : Int) (a1 : Int), (Lit.int .i64 a0).wf = true → (Lit.int .i64 a1).wf = true → ∃ k, papermilllaw23_FixedMuls.f k a0 a1 = some true
theorem papermilllaw23_FixedMuls.walk (P : papermilllaw23_FixedMuls.Pure) (a0 : Int) (a1 : Int) (w : World) (w0 : (Lit.int .i64 a0).wf = true) (w1 : (Lit.int .i64 a1).wf = true) :
    Calls Try.prog 5 #[.int .i64 a0, .int .i64 a1] w fun e w' => e = .returned (.bool true) ∧ Below w.heap.size w w' := by
  obtain ⟨k, h⟩ := P a0 a1 w0 w1
  refine (papermilllaw23_FixedMuls.calls k a0 a1 true w ⟨rfl⟩ h).mono ?_
  rintro e w' ⟨rfl, hd⟩
  exact ⟨rfl, hd⟩

/-! ### papermilllaw23_half: function 23 -/
def papermilllaw23_half.f (a0 : Int) (a1 : Int) (a2 : Int) : Option (Bool) := if (wrap64 (2 * (wrap64 (a0 - (wrap64 (a2 * a1)))))) < a1 then (if (wrap64 (2 * (wrap64 (a0 - (wrap64 (a2 * a1)))))) > (wrap64 (-a1)) then (some true) else (if (wrap64 (2 * (wrap64 (a0 - (wrap64 (a2 * a1)))))) = a1 then (some ((Int.tmod a2 2) == 0)) else (if (wrap64 (2 * (wrap64 (a0 - (wrap64 (a2 * a1)))))) = (wrap64 (-a1)) then (some ((Int.tmod a2 2) == 0)) else (some false)))) else (if (wrap64 (2 * (wrap64 (a0 - (wrap64 (a2 * a1)))))) = a1 then (some ((Int.tmod a2 2) == 0)) else (if (wrap64 (2 * (wrap64 (a0 - (wrap64 (a2 * a1)))))) = (wrap64 (-a1)) then (some ((Int.tmod a2 2) == 0)) else (some false)))
set_option maxHeartbeats 8000000 in
set_option maxRecDepth 100000 in
theorem papermilllaw23_half.calls (a0 : Int) (a1 : Int) (a2 : Int) (r : Bool) (w : World) (h : papermilllaw23_half.f a0 a1 a2 = some r) :
    Calls Try.prog 23 #[.int .i64 a0, .int .i64 a1, .int .i64 a2] w fun e w' => e = .returned (.bool r) ∧ Drawn0 w w' := by
  have H : (if (wrap64 (2 * (wrap64 (a0 - (wrap64 (a2 * a1)))))) < a1 then (if (wrap64 (2 * (wrap64 (a0 - (wrap64 (a2 * a1)))))) > (wrap64 (-a1)) then (some true) else (if (wrap64 (2 * (wrap64 (a0 - (wrap64 (a2 * a1)))))) = a1 then (some ((Int.tmod a2 2) == 0)) else (if (wrap64 (2 * (wrap64 (a0 - (wrap64 (a2 * a1)))))) = (wrap64 (-a1)) then (some ((Int.tmod a2 2) == 0)) else (some false)))) else (if (wrap64 (2 * (wrap64 (a0 - (wrap64 (a2 * a1)))))) = a1 then (some ((Int.tmod a2 2) == 0)) else (if (wrap64 (2 * (wrap64 (a0 - (wrap64 (a2 * a1)))))) = (wrap64 (-a1)) then (some ((Int.tmod a2 2) == 0)) else (some false)))) = some r := h
  clear h
  by_cases c4 : (wrap64 (2 * (wrap64 (a0 - (wrap64 (a2 * a1)))))) < a1
  · rw [if_pos c4] at H
    have c4b0 : decide ((wrap64 (2 * (wrap64 (a0 - (wrap64 (a2 * a1)))))) < a1) = true := decide_eq_true c4
    clear c4
    by_cases c5 : (wrap64 (2 * (wrap64 (a0 - (wrap64 (a2 * a1)))))) > (wrap64 (-a1))
    · rw [if_pos c5] at H
      have c5b0 : decide ((wrap64 (-a1)) < (wrap64 (2 * (wrap64 (a0 - (wrap64 (a2 * a1))))))) = true := decide_eq_true c5
      clear c5
      obtain rfl := Option.some.inj H
      go_enter Try.func23, Try.ntmps23
      go_wp2
      go_ret
      exact ⟨by first | rfl | (simp; done) | (simp [*]; done), by repeat (first | exact Drawn0.refl _ | apply Drawn0.step)⟩
    · rw [if_neg c5] at H
      have c5b0 : decide ((wrap64 (-a1)) < (wrap64 (2 * (wrap64 (a0 - (wrap64 (a2 * a1))))))) = false := decide_eq_false c5
      clear c5
      by_cases c6 : (wrap64 (2 * (wrap64 (a0 - (wrap64 (a2 * a1)))))) = a1
      · rw [if_pos c6] at H
        have c6b0 : ((wrap64 (2 * (wrap64 (a0 - (wrap64 (a2 * a1)))))) == a1) = true := beq_iff_eq.mpr c6
        have c6b1 : ((wrap64 (2 * (wrap64 (a0 - (wrap64 (a2 * a1)))))) != a1) = false := bne_eq_false_iff_eq.mpr c6
        clear c6
        obtain rfl := Option.some.inj H
        go_enter Try.func23, Try.ntmps23
        go_wp2
        go_ret
        exact ⟨by first | rfl | (simp; done) | (simp [*]; done), by repeat (first | exact Drawn0.refl _ | apply Drawn0.step)⟩
      · rw [if_neg c6] at H
        have c6b0 : ((wrap64 (2 * (wrap64 (a0 - (wrap64 (a2 * a1)))))) == a1) = false := beq_eq_false_iff_ne.mpr c6
        have c6b1 : ((wrap64 (2 * (wrap64 (a0 - (wrap64 (a2 * a1)))))) != a1) = true := bne_iff_ne.mpr c6
        by_cases c7 : (wrap64 (2 * (wrap64 (a0 - (wrap64 (a2 * a1)))))) = (wrap64 (-a1))
        · rw [if_pos c7] at H
          have c7b0 : ((wrap64 (2 * (wrap64 (a0 - (wrap64 (a2 * a1)))))) == (wrap64 (-a1))) = true := beq_iff_eq.mpr c7
          have c7b1 : ((wrap64 (2 * (wrap64 (a0 - (wrap64 (a2 * a1)))))) != (wrap64 (-a1))) = false := bne_eq_false_iff_eq.mpr c7
          clear c7
          obtain rfl := Option.some.inj H
          go_enter Try.func23, Try.ntmps23
          go_wp2
          go_ret
          exact ⟨by first | rfl | (simp; done) | (simp [*]; done), by repeat (first | exact Drawn0.refl _ | apply Drawn0.step)⟩
        · rw [if_neg c7] at H
          have c7b0 : ((wrap64 (2 * (wrap64 (a0 - (wrap64 (a2 * a1)))))) == (wrap64 (-a1))) = false := beq_eq_false_iff_ne.mpr c7
          have c7b1 : ((wrap64 (2 * (wrap64 (a0 - (wrap64 (a2 * a1)))))) != (wrap64 (-a1))) = true := bne_iff_ne.mpr c7
          obtain rfl := Option.some.inj H
          go_enter Try.func23, Try.ntmps23
          go_wp2
          go_ret
          exact ⟨by first | rfl | (simp; done) | (simp [*]; done), by repeat (first | exact Drawn0.refl _ | apply Drawn0.step)⟩
  · rw [if_neg c4] at H
    have c4b0 : decide ((wrap64 (2 * (wrap64 (a0 - (wrap64 (a2 * a1)))))) < a1) = false := decide_eq_false c4
    clear c4
    by_cases c8 : (wrap64 (2 * (wrap64 (a0 - (wrap64 (a2 * a1)))))) = a1
    · rw [if_pos c8] at H
      have c8b0 : ((wrap64 (2 * (wrap64 (a0 - (wrap64 (a2 * a1)))))) == a1) = true := beq_iff_eq.mpr c8
      have c8b1 : ((wrap64 (2 * (wrap64 (a0 - (wrap64 (a2 * a1)))))) != a1) = false := bne_eq_false_iff_eq.mpr c8
      clear c8
      obtain rfl := Option.some.inj H
      go_enter Try.func23, Try.ntmps23
      go_wp2
      go_ret
      exact ⟨by first | rfl | (simp; done) | (simp [*]; done), by repeat (first | exact Drawn0.refl _ | apply Drawn0.step)⟩
    · rw [if_neg c8] at H
      have c8b0 : ((wrap64 (2 * (wrap64 (a0 - (wrap64 (a2 * a1)))))) == a1) = false := beq_eq_false_iff_ne.mpr c8
      have c8b1 : ((wrap64 (2 * (wrap64 (a0 - (wrap64 (a2 * a1)))))) != a1) = true := bne_iff_ne.mpr c8
      by_cases c9 : (wrap64 (2 * (wrap64 (a0 - (wrap64 (a2 * a1)))))) = (wrap64 (-a1))
      · rw [if_pos c9] at H
        have c9b0 : ((wrap64 (2 * (wrap64 (a0 - (wrap64 (a2 * a1)))))) == (wrap64 (-a1))) = true := beq_iff_eq.mpr c9
        have c9b1 : ((wrap64 (2 * (wrap64 (a0 - (wrap64 (a2 * a1)))))) != (wrap64 (-a1))) = false := bne_eq_false_iff_eq.mpr c9
        clear c9
        obtain rfl := Option.some.inj H
        go_enter Try.func23, Try.ntmps23
        go_wp2
        go_ret
        exact ⟨by first | rfl | (simp; done) | (simp [*]; done), by repeat (first | exact Drawn0.refl _ | apply Drawn0.step)⟩
      · rw [if_neg c9] at H
        have c9b0 : ((wrap64 (2 * (wrap64 (a0 - (wrap64 (a2 * a1)))))) == (wrap64 (-a1))) = false := beq_eq_false_iff_ne.mpr c9
        have c9b1 : ((wrap64 (2 * (wrap64 (a0 - (wrap64 (a2 * a1)))))) != (wrap64 (-a1))) = true := bne_iff_ne.mpr c9
        obtain rfl := Option.some.inj H
        go_enter Try.func23, Try.ntmps23
        go_wp2
        go_ret
        exact ⟨by first | rfl | (simp; done) | (simp [*]; done), by repeat (first | exact Drawn0.refl _ | apply Drawn0.step)⟩

end Go.Proofs.Ytpmopomiadaonaa.P
