-- Written by a program (wip/prog/pp.py) over the kit's print; some of its functions are proved by hand. Not trusted: Lean checks it.
import Derived.Test.YtpmopomiadaonaaPx0
import Derived.Test.YtpmopomiadaonaaPx1
import Derived.Test.YtpmopomiadaonaaPx8
import Derived.Test.YtpmopomiadaonaaPx9
import Derived.Test.YtpmopomiadaonaaPx12
namespace Go.Proofs.Ytpmopomiadaonaa.P
open Go.RowKit Go.Proofs.YtpmopomiadaonaaW.PrintWords Go.Proofs.YtpmopomiadaonaaW.PrintLast Go.Proofs.YtpmopomiadaonaaW.PrintMore
attribute [local go_sem] max2_int min2_int max_two min_two max_three min_three max_four min_four   -- for this text's walks alone
set_option linter.unusedVariables false
set_option linter.unusedSimpArgs false

/-! ### papermilllaw23_FixedInverse: function 7 -/
def papermilllaw23_FixedInverse.f (k : Nat) (a0 : Int) (a1 : Int) : Option (Bool) := (fixed_Of.f (Int.tmod (wrap64 (a0)) 16777217)).bind fun bt222 => ((fixed_Round.f k bt222.1).bind fun bt224 => ((fixed_Mul.f k (Int.tmod a1 1099511627777) 65536).bind fun bt226 => ((fixed_Div.f k (Int.tmod a1 1099511627777) 65536).bind fun bt228 => (if bt222.2 = 0 then (if bt224.2 = 0 then (if bt224.1 = (Int.tmod (wrap64 (a0)) 16777217) then (if bt222.1 = (wrap64 ((Int.tmod (wrap64 (a0)) 16777217) * 65536)) then (if bt226.2 = 0 then (if bt228.2 = 0 then (if bt226.1 = (Int.tmod a1 1099511627777) then (if bt228.1 = (Int.tmod a1 1099511627777) then ((papermilllaw23_awake.f k).bind fun t230 => (some t230)) else (some false)) else (some false)) else (some false)) else (some false)) else (some false)) else (some false)) else (some false)) else (some false)))))
theorem papermilllaw23_FixedInverse.mono : ∀ a0 a1 k, LeO (papermilllaw23_FixedInverse.f k a0 a1) (papermilllaw23_FixedInverse.f (k + 1) a0 a1) := by
  intro a0 a1 k
  unfold papermilllaw23_FixedInverse.f
  repeat' first
      | (with_reducible exact fixed_Div.mono _ _ _)
      | (with_reducible exact fixed_Mul.mono _ _ _)
      | (with_reducible exact fixed_Round.mono _ _)
      | (with_reducible exact papermilllaw23_awake.mono _)
      | (with_reducible exact LeO.refl _)
      | (with_reducible exact LeO.none _)
      | (with_reducible refine LeO.ite ?_ ?_)
      | (with_reducible refine LeO.bind ?_ (fun _ => ?_))
      | exact fixed_Div.mono _ _ _
      | exact fixed_Mul.mono _ _ _
      | exact fixed_Round.mono _ _
      | exact papermilllaw23_awake.mono _
      | exact LeO.none _
      | refine LeO.ite ?_ ?_
      | refine LeO.bind ?_ (fun _ => ?_)
set_option maxHeartbeats 8000000 in
set_option maxRecDepth 100000 in
theorem papermilllaw23_FixedInverse.calls (k : Nat) (a0 : Int) (a1 : Int) (r : Bool) (w : World) (hr_ : Aside0 (r = true)) (h : papermilllaw23_FixedInverse.f k a0 a1 = some r) :
    Calls Try.prog 7 #[.int .i32 a0, .int .i64 a1] w fun e w' => e = .returned (.bool r) ∧ Below w.heap.size w w' := by
  have HB := Aside0.mk (Below.refl w.heap.size w)
  have H : ((fixed_Of.f (Int.tmod (wrap64 (a0)) 16777217)).bind fun bt222 => ((fixed_Round.f k bt222.1).bind fun bt224 => ((fixed_Mul.f k (Int.tmod a1 1099511627777) 65536).bind fun bt226 => ((fixed_Div.f k (Int.tmod a1 1099511627777) 65536).bind fun bt228 => (if bt222.2 = 0 then (if bt224.2 = 0 then (if bt224.1 = (Int.tmod (wrap64 (a0)) 16777217) then (if bt222.1 = (wrap64 ((Int.tmod (wrap64 (a0)) 16777217) * 65536)) then (if bt226.2 = 0 then (if bt228.2 = 0 then (if bt226.1 = (Int.tmod a1 1099511627777) then (if bt228.1 = (Int.tmod a1 1099511627777) then ((papermilllaw23_awake.f k).bind fun t230 => (some t230)) else (some false)) else (some false)) else (some false)) else (some false)) else (some false)) else (some false)) else (some false)) else (some false)))))) = some r := h
  clear h
  replace H := Option.bind_eq_some_iff.mp H
  obtain ⟨⟨t222, t223⟩, A30, H⟩ := H
  replace H : ((fixed_Round.f k t222).bind fun bt224 => ((fixed_Mul.f k (Int.tmod a1 1099511627777) 65536).bind fun bt226 => ((fixed_Div.f k (Int.tmod a1 1099511627777) 65536).bind fun bt228 => (if t223 = 0 then (if bt224.2 = 0 then (if bt224.1 = (Int.tmod (wrap64 (a0)) 16777217) then (if t222 = (wrap64 ((Int.tmod (wrap64 (a0)) 16777217) * 65536)) then (if bt226.2 = 0 then (if bt228.2 = 0 then (if bt226.1 = (Int.tmod a1 1099511627777) then (if bt228.1 = (Int.tmod a1 1099511627777) then ((papermilllaw23_awake.f k).bind fun t230 => (some t230)) else (some false)) else (some false)) else (some false)) else (some false)) else (some false)) else (some false)) else (some false)) else (some false))))) = some r := H
  have A3 := Aside0.mk A30
  clear A30
  replace H := Option.bind_eq_some_iff.mp H
  obtain ⟨⟨t224, t225⟩, A40, H⟩ := H
  replace H : ((fixed_Mul.f k (Int.tmod a1 1099511627777) 65536).bind fun bt226 => ((fixed_Div.f k (Int.tmod a1 1099511627777) 65536).bind fun bt228 => (if t223 = 0 then (if t225 = 0 then (if t224 = (Int.tmod (wrap64 (a0)) 16777217) then (if t222 = (wrap64 ((Int.tmod (wrap64 (a0)) 16777217) * 65536)) then (if bt226.2 = 0 then (if bt228.2 = 0 then (if bt226.1 = (Int.tmod a1 1099511627777) then (if bt228.1 = (Int.tmod a1 1099511627777) then ((papermilllaw23_awake.f k).bind fun t230 => (some t230)) else (some false)) else (some false)) else (some false)) else (some false)) else (some false)) else (some false)) else (some false)) else (some false)))) = some r := H
  have A4 := Aside0.mk A40
  clear A40
  replace H := Option.bind_eq_some_iff.mp H
  obtain ⟨⟨t226, t227⟩, A50, H⟩ := H
  replace H : ((fixed_Div.f k (Int.tmod a1 1099511627777) 65536).bind fun bt228 => (if t223 = 0 then (if t225 = 0 then (if t224 = (Int.tmod (wrap64 (a0)) 16777217) then (if t222 = (wrap64 ((Int.tmod (wrap64 (a0)) 16777217) * 65536)) then (if t227 = 0 then (if bt228.2 = 0 then (if t226 = (Int.tmod a1 1099511627777) then (if bt228.1 = (Int.tmod a1 1099511627777) then ((papermilllaw23_awake.f k).bind fun t230 => (some t230)) else (some false)) else (some false)) else (some false)) else (some false)) else (some false)) else (some false)) else (some false)) else (some false))) = some r := H
  have A5 := Aside0.mk A50
  clear A50
  replace H := Option.bind_eq_some_iff.mp H
  obtain ⟨⟨t228, t229⟩, A60, H⟩ := H
  replace H : (if t223 = 0 then (if t225 = 0 then (if t224 = (Int.tmod (wrap64 (a0)) 16777217) then (if t222 = (wrap64 ((Int.tmod (wrap64 (a0)) 16777217) * 65536)) then (if t227 = 0 then (if t229 = 0 then (if t226 = (Int.tmod a1 1099511627777) then (if t228 = (Int.tmod a1 1099511627777) then ((papermilllaw23_awake.f k).bind fun t230 => (some t230)) else (some false)) else (some false)) else (some false)) else (some false)) else (some false)) else (some false)) else (some false)) else (some false)) = some r := H
  have A6 := Aside0.mk A60
  clear A60
  by_cases c7 : t223 = 0
  · rw [if_pos c7] at H
    have c7b0 : (t223 == 0) = true := beq_iff_eq.mpr c7
    have c7b1 : (t223 != 0) = false := bne_eq_false_iff_eq.mpr c7
    clear c7
    by_cases c8 : t225 = 0
    · rw [if_pos c8] at H
      have c8b0 : (t225 == 0) = true := beq_iff_eq.mpr c8
      have c8b1 : (t225 != 0) = false := bne_eq_false_iff_eq.mpr c8
      clear c8
      by_cases c9 : t224 = (Int.tmod (wrap64 (a0)) 16777217)
      · rw [if_pos c9] at H
        have c9b0 : (t224 == (Int.tmod (wrap64 (a0)) 16777217)) = true := beq_iff_eq.mpr c9
        have c9b1 : (t224 != (Int.tmod (wrap64 (a0)) 16777217)) = false := bne_eq_false_iff_eq.mpr c9
        clear c9
        by_cases c10 : t222 = (wrap64 ((Int.tmod (wrap64 (a0)) 16777217) * 65536))
        · rw [if_pos c10] at H
          have c10b0 : (t222 == (wrap64 ((Int.tmod (wrap64 (a0)) 16777217) * 65536))) = true := beq_iff_eq.mpr c10
          have c10b1 : (t222 != (wrap64 ((Int.tmod (wrap64 (a0)) 16777217) * 65536))) = false := bne_eq_false_iff_eq.mpr c10
          clear c10
          by_cases c11 : t227 = 0
          · rw [if_pos c11] at H
            have c11b0 : (t227 == 0) = true := beq_iff_eq.mpr c11
            have c11b1 : (t227 != 0) = false := bne_eq_false_iff_eq.mpr c11
            clear c11
            by_cases c12 : t229 = 0
            · rw [if_pos c12] at H
              have c12b0 : (t229 == 0) = true := beq_iff_eq.mpr c12
              have c12b1 : (t229 != 0) = false := bne_eq_false_iff_eq.mpr c12
              clear c12
              by_cases c13 : t226 = (Int.tmod a1 1099511627777)
              · rw [if_pos c13] at H
                have c13b0 : (t226 == (Int.tmod a1 1099511627777)) = true := beq_iff_eq.mpr c13
                have c13b1 : (t226 != (Int.tmod a1 1099511627777)) = false := bne_eq_false_iff_eq.mpr c13
                clear c13
                by_cases c14 : t228 = (Int.tmod a1 1099511627777)
                · rw [if_pos c14] at H
                  have c14b0 : (t228 == (Int.tmod a1 1099511627777)) = true := beq_iff_eq.mpr c14
                  have c14b1 : (t228 != (Int.tmod a1 1099511627777)) = false := bne_eq_false_iff_eq.mpr c14
                  clear c14
                  replace H := Option.bind_eq_some_iff.mp H
                  obtain ⟨t230, A150, H⟩ := H
                  replace H : (some t230) = some r := H
                  have A15 := Aside0.mk A150
                  clear A150
                  first
                    | exact absurd ((Option.some.inj H).trans hr_.out) (by decide)
                    | (skip
                       obtain rfl := Option.some.inj H
                       go_enter Try.func7, Try.ntmps7
                       go_wp2_with (first | ((with_reducible refine gate_callee (f := 12) rfl ?_); refine goesL_ (some 20) rfl rfl Try.func12 (by kernel_rfl) rfl #[.int .i64 (Int.tmod (wrap64 (a0)) 16777217)] rfl (by (try simp only [List.map_toArray, List.map_cons, List.map_nil]); first | done | rfl | (simp only [List.length_drop, List.length_take]; rfl)) ?_; (with_reducible refine (fixed_Of.calls (Int.tmod (wrap64 (a0)) 16777217) t222 t223 _ A3.out).mono ?_); rintro e w' ⟨rfl, ⟨nd, rfl⟩⟩; refine ⟨_, rfl, ?_⟩) | ((with_reducible refine gate_callee (f := 24) rfl ?_); refine goesL_ (some 25) rfl rfl Try.func24 (by kernel_rfl) rfl #[.int .i64 t222] rfl (by (try simp only [List.map_toArray, List.map_cons, List.map_nil]); first | done | rfl | (simp only [List.length_drop, List.length_take]; rfl)) ?_; (with_reducible refine (fixed_Round.calls k t222 t224 t225 _ A4.out).mono ?_); rintro e w16 ⟨rfl, hb⟩; refine ⟨_, rfl, ?_⟩; have n0_ := Aside0.mk (below_step (by repeat (first | (with_reducible first | exact HB.out | apply below_alloc | apply pw_below_drewN | apply below_drew1) | exact HB.out)) hb); clear HB; have HB := n0_; clear n0_; (try clear hb); (try clear hb2); (try clear hk); (try clear hi)) | ((with_reducible refine gate_callee (f := 19) rfl ?_); refine goesL_ (some 32) rfl rfl Try.func19 (by kernel_rfl) rfl #[.int .i64 (Int.tmod a1 1099511627777), .int .i64 65536] rfl (by (try simp only [List.map_toArray, List.map_cons, List.map_nil]); first | done | rfl | (simp only [List.length_drop, List.length_take]; rfl)) ?_; (with_reducible refine (fixed_Mul.calls k (Int.tmod a1 1099511627777) 65536 t226 t227 _ A5.out).mono ?_); rintro e w17 ⟨rfl, hb⟩; refine ⟨_, rfl, ?_⟩; have n0_ := Aside0.mk (below_step (by repeat (first | (with_reducible first | exact HB.out | apply below_alloc | apply pw_below_drewN | apply below_drew1) | exact HB.out)) hb); clear HB; have HB := n0_; clear n0_; (try clear hb); (try clear hb2); (try clear hk); (try clear hi)) | ((with_reducible refine gate_callee (f := 21) rfl ?_); refine goesL_ (some 37) rfl rfl Try.func21 (by kernel_rfl) rfl #[.int .i64 (Int.tmod a1 1099511627777), .int .i64 65536] rfl (by (try simp only [List.map_toArray, List.map_cons, List.map_nil]); first | done | rfl | (simp only [List.length_drop, List.length_take]; rfl)) ?_; (with_reducible refine (fixed_Div.calls k (Int.tmod a1 1099511627777) 65536 t228 t229 _ A6.out).mono ?_); rintro e w18 ⟨rfl, hb⟩; refine ⟨_, rfl, ?_⟩; have n0_ := Aside0.mk (below_step (by repeat (first | (with_reducible first | exact HB.out | apply below_alloc | apply pw_below_drewN | apply below_drew1) | exact HB.out)) hb); clear HB; have HB := n0_; clear n0_; (try clear hb); (try clear hb2); (try clear hk); (try clear hi)) | (go_at_call 16; (with_reducible refine (papermilllaw23_awake.calls k  t230 _ A15.out).mono ?_); rintro e w19 ⟨rfl, hb⟩; have n0_ := Aside0.mk (below_step (by repeat (first | (with_reducible first | exact HB.out | apply below_alloc | apply pw_below_drewN | apply below_drew1) | exact HB.out)) hb); clear HB; have HB := n0_; clear n0_; (try clear hb); (try clear hb2); (try clear hk); (try clear hi)))
                       go_ret
                       exact ⟨by first | rfl | (simp [errW_none, errW_some] <;> rfl) | (simp [*, errW_none, errW_some] <;> rfl), by repeat (first | (with_reducible first | exact HB.out | apply below_alloc | apply pw_below_drewN | apply below_drew1) | exact HB.out)⟩)
                · rw [if_neg c14] at H
                  have c14b0 : (t228 == (Int.tmod a1 1099511627777)) = false := beq_eq_false_iff_ne.mpr c14
                  have c14b1 : (t228 != (Int.tmod a1 1099511627777)) = true := bne_iff_ne.mpr c14
                  exact absurd ((Option.some.inj H).trans hr_.out) (by decide)
              · rw [if_neg c13] at H
                have c13b0 : (t226 == (Int.tmod a1 1099511627777)) = false := beq_eq_false_iff_ne.mpr c13
                have c13b1 : (t226 != (Int.tmod a1 1099511627777)) = true := bne_iff_ne.mpr c13
                exact absurd ((Option.some.inj H).trans hr_.out) (by decide)
            · rw [if_neg c12] at H
              have c12b0 : (t229 == 0) = false := beq_eq_false_iff_ne.mpr c12
              have c12b1 : (t229 != 0) = true := bne_iff_ne.mpr c12
              exact absurd ((Option.some.inj H).trans hr_.out) (by decide)
          · rw [if_neg c11] at H
            have c11b0 : (t227 == 0) = false := beq_eq_false_iff_ne.mpr c11
            have c11b1 : (t227 != 0) = true := bne_iff_ne.mpr c11
            exact absurd ((Option.some.inj H).trans hr_.out) (by decide)
        · rw [if_neg c10] at H
          have c10b0 : (t222 == (wrap64 ((Int.tmod (wrap64 (a0)) 16777217) * 65536))) = false := beq_eq_false_iff_ne.mpr c10
          have c10b1 : (t222 != (wrap64 ((Int.tmod (wrap64 (a0)) 16777217) * 65536))) = true := bne_iff_ne.mpr c10
          exact absurd ((Option.some.inj H).trans hr_.out) (by decide)
      · rw [if_neg c9] at H
        have c9b0 : (t224 == (Int.tmod (wrap64 (a0)) 16777217)) = false := beq_eq_false_iff_ne.mpr c9
        have c9b1 : (t224 != (Int.tmod (wrap64 (a0)) 16777217)) = true := bne_iff_ne.mpr c9
        exact absurd ((Option.some.inj H).trans hr_.out) (by decide)
    · rw [if_neg c8] at H
      have c8b0 : (t225 == 0) = false := beq_eq_false_iff_ne.mpr c8
      have c8b1 : (t225 != 0) = true := bne_iff_ne.mpr c8
      exact absurd ((Option.some.inj H).trans hr_.out) (by decide)
  · rw [if_neg c7] at H
    have c7b0 : (t223 == 0) = false := beq_eq_false_iff_ne.mpr c7
    have c7b1 : (t223 != 0) = true := bne_iff_ne.mpr c7
    exact absurd ((Option.some.inj H).trans hr_.out) (by decide)

/-- THE ONE PURE STATEMENT of papermilllaw23_FixedInverse: yours. -/
def papermilllaw23_FixedInverse.Pure : Prop := ∀ (a0 : Int) (a1 : Int), (Lit.int .i32 a0).wf = true → (Lit.int .i64 a1).wf = true → ∃ k, papermilllaw23_FixedInverse.f k a0 a1 = some true
theorem papermilllaw23_FixedInverse.walk (P : papermilllaw23_FixedInverse.Pure) (a0 : Int) (a1 : Int) (w : World) (w0 : (Lit.int .i32 a0).wf = true) (w1 : (Lit.int .i64 a1).wf = true) :
    Calls Try.prog 7 #[.int .i32 a0, .int .i64 a1] w fun e w' => e = .returned (.bool true) ∧ Below w.heap.size w w' := by
  obtain ⟨k, h⟩ := P a0 a1 w0 w1
  refine (papermilllaw23_FixedInverse.calls k a0 a1 true w ⟨rfl⟩ h).mono ?_
  rintro e w' ⟨rfl, hd⟩
  exact ⟨rfl, hd⟩

end Go.Proofs.Ytpmopomiadaonaa.P
