-- Written by a program (wip/prog/pp.py) over the kit's print; some of its functions are proved by hand. Not trusted: Lean checks it.
import Derived.Test.YtpmopomiadaonaaPx0
import Derived.Test.YtpmopomiadaonaaPx8
import Derived.Test.YtpmopomiadaonaaPx9
import Derived.Test.YtpmopomiadaonaaPx18
namespace Go.Proofs.Ytpmopomiadaonaa.P
open Go.RowKit Go.Proofs.YtpmopomiadaonaaW.PrintWords Go.Proofs.YtpmopomiadaonaaW.PrintLast Go.Proofs.YtpmopomiadaonaaW.PrintMore
attribute [local go_sem] max2_int min2_int max_two min_two max_three min_three max_four min_four   -- for this text's walks alone
set_option linter.unusedVariables false
set_option linter.unusedSimpArgs false

/-! ### papermilllaw23_FixedRounds: function 10 -/
def papermilllaw23_FixedRounds.f (k : Nat) (a0 : Int) (a1 : Int) (a2 : Int) : Option (Bool) := (fixed_Round.f k a0).bind fun bt263 => ((papermillref23_Round.f k a0).bind fun bt265 => ((fixed_Clamp.f k a0 a1 a2).bind fun bt267 => ((papermillref23_Clamp.f k a0 a1 a2).bind fun bt269 => (if bt263.1 = bt265.1 then (if bt263.2 = bt265.2 then (if bt267.1 = bt269.1 then (if bt267.2 = bt269.2 then ((papermilllaw23_awake.f k).bind fun t271 => (some t271)) else (some false)) else (some false)) else (some false)) else (some false)))))
theorem papermilllaw23_FixedRounds.mono : ∀ a0 a1 a2 k, LeO (papermilllaw23_FixedRounds.f k a0 a1 a2) (papermilllaw23_FixedRounds.f (k + 1) a0 a1 a2) := by
  intro a0 a1 a2 k
  unfold papermilllaw23_FixedRounds.f
  repeat' first
      | (with_reducible exact fixed_Clamp.mono _ _ _ _)
      | (with_reducible exact fixed_Round.mono _ _)
      | (with_reducible exact papermilllaw23_awake.mono _)
      | (with_reducible exact papermillref23_Clamp.mono _ _ _ _)
      | (with_reducible exact papermillref23_Round.mono _ _)
      | (with_reducible exact LeO.refl _)
      | (with_reducible exact LeO.none _)
      | (with_reducible refine LeO.ite ?_ ?_)
      | (with_reducible refine LeO.bind ?_ (fun _ => ?_))
      | exact fixed_Clamp.mono _ _ _ _
      | exact fixed_Round.mono _ _
      | exact papermilllaw23_awake.mono _
      | exact papermillref23_Clamp.mono _ _ _ _
      | exact papermillref23_Round.mono _ _
      | exact LeO.none _
      | refine LeO.ite ?_ ?_
      | refine LeO.bind ?_ (fun _ => ?_)
set_option maxHeartbeats 8000000 in
set_option maxRecDepth 100000 in
theorem papermilllaw23_FixedRounds.calls (k : Nat) (a0 : Int) (a1 : Int) (a2 : Int) (r : Bool) (w : World) (hr_ : Aside0 (r = true)) (h : papermilllaw23_FixedRounds.f k a0 a1 a2 = some r) :
    Calls Try.prog 10 #[.int .i64 a0, .int .i64 a1, .int .i64 a2] w fun e w' => e = .returned (.bool r) ∧ Below w.heap.size w w' := by
  have HB := Aside0.mk (Below.refl w.heap.size w)
  have H : ((fixed_Round.f k a0).bind fun bt263 => ((papermillref23_Round.f k a0).bind fun bt265 => ((fixed_Clamp.f k a0 a1 a2).bind fun bt267 => ((papermillref23_Clamp.f k a0 a1 a2).bind fun bt269 => (if bt263.1 = bt265.1 then (if bt263.2 = bt265.2 then (if bt267.1 = bt269.1 then (if bt267.2 = bt269.2 then ((papermilllaw23_awake.f k).bind fun t271 => (some t271)) else (some false)) else (some false)) else (some false)) else (some false)))))) = some r := h
  clear h
  replace H := Option.bind_eq_some_iff.mp H
  obtain ⟨⟨t263, t264⟩, A40, H⟩ := H
  replace H : ((papermillref23_Round.f k a0).bind fun bt265 => ((fixed_Clamp.f k a0 a1 a2).bind fun bt267 => ((papermillref23_Clamp.f k a0 a1 a2).bind fun bt269 => (if t263 = bt265.1 then (if t264 = bt265.2 then (if bt267.1 = bt269.1 then (if bt267.2 = bt269.2 then ((papermilllaw23_awake.f k).bind fun t271 => (some t271)) else (some false)) else (some false)) else (some false)) else (some false))))) = some r := H
  have A4 := Aside0.mk A40
  clear A40
  replace H := Option.bind_eq_some_iff.mp H
  obtain ⟨⟨t265, t266⟩, A50, H⟩ := H
  replace H : ((fixed_Clamp.f k a0 a1 a2).bind fun bt267 => ((papermillref23_Clamp.f k a0 a1 a2).bind fun bt269 => (if t263 = t265 then (if t264 = t266 then (if bt267.1 = bt269.1 then (if bt267.2 = bt269.2 then ((papermilllaw23_awake.f k).bind fun t271 => (some t271)) else (some false)) else (some false)) else (some false)) else (some false)))) = some r := H
  have A5 := Aside0.mk A50
  clear A50
  replace H := Option.bind_eq_some_iff.mp H
  obtain ⟨⟨t267, t268⟩, A60, H⟩ := H
  replace H : ((papermillref23_Clamp.f k a0 a1 a2).bind fun bt269 => (if t263 = t265 then (if t264 = t266 then (if t267 = bt269.1 then (if t268 = bt269.2 then ((papermilllaw23_awake.f k).bind fun t271 => (some t271)) else (some false)) else (some false)) else (some false)) else (some false))) = some r := H
  have A6 := Aside0.mk A60
  clear A60
  replace H := Option.bind_eq_some_iff.mp H
  obtain ⟨⟨t269, t270⟩, A70, H⟩ := H
  replace H : (if t263 = t265 then (if t264 = t266 then (if t267 = t269 then (if t268 = t270 then ((papermilllaw23_awake.f k).bind fun t271 => (some t271)) else (some false)) else (some false)) else (some false)) else (some false)) = some r := H
  have A7 := Aside0.mk A70
  clear A70
  by_cases c8 : t263 = t265
  · rw [if_pos c8] at H
    have c8b0 : (t263 == t265) = true := beq_iff_eq.mpr c8
    have c8b1 : (t263 != t265) = false := bne_eq_false_iff_eq.mpr c8
    clear c8
    by_cases c9 : t264 = t266
    · rw [if_pos c9] at H
      have c9b0 : (t264 == t266) = true := beq_iff_eq.mpr c9
      have c9b1 : (t264 != t266) = false := bne_eq_false_iff_eq.mpr c9
      clear c9
      by_cases c10 : t267 = t269
      · rw [if_pos c10] at H
        have c10b0 : (t267 == t269) = true := beq_iff_eq.mpr c10
        have c10b1 : (t267 != t269) = false := bne_eq_false_iff_eq.mpr c10
        clear c10
        by_cases c11 : t268 = t270
        · rw [if_pos c11] at H
          have c11b0 : (t268 == t270) = true := beq_iff_eq.mpr c11
          have c11b1 : (t268 != t270) = false := bne_eq_false_iff_eq.mpr c11
          clear c11
          replace H := Option.bind_eq_some_iff.mp H
          obtain ⟨t271, A120, H⟩ := H
          replace H : (some t271) = some r := H
          have A12 := Aside0.mk A120
          clear A120
          first
            | exact absurd ((Option.some.inj H).trans hr_.out) (by decide)
            | (skip
               obtain rfl := Option.some.inj H
               go_enter Try.func10, Try.ntmps10
               go_wp2_with (first | ((with_reducible refine gate_callee (f := 24) rfl ?_); refine goesL_ (some 17) rfl rfl Try.func24 (by kernel_rfl) rfl #[.int .i64 a0] rfl (by (try simp only [List.map_toArray, List.map_cons, List.map_nil]); first | done | rfl | (simp only [List.length_drop, List.length_take]; rfl)) ?_; (with_reducible refine (fixed_Round.calls k a0 t263 t264 _ A4.out).mono ?_); rintro e w13 ⟨rfl, hb⟩; refine ⟨_, rfl, ?_⟩; have n0_ := Aside0.mk (below_step (by repeat (first | (with_reducible first | exact HB.out | apply below_alloc | apply pw_below_drewN | apply below_drew1) | exact HB.out)) hb); clear HB; have HB := n0_; clear n0_; (try clear hb); (try clear hb2); (try clear hk); (try clear hi)) | ((with_reducible refine gate_callee (f := 25) rfl ?_); refine goesL_ (some 22) rfl rfl Try.func25 (by kernel_rfl) rfl #[.int .i64 a0] rfl (by (try simp only [List.map_toArray, List.map_cons, List.map_nil]); first | done | rfl | (simp only [List.length_drop, List.length_take]; rfl)) ?_; (with_reducible refine (papermillref23_Round.calls k a0 t265 t266 _ A5.out).mono ?_); rintro e w14 ⟨rfl, hb⟩; refine ⟨_, rfl, ?_⟩; have n0_ := Aside0.mk (below_step (by repeat (first | (with_reducible first | exact HB.out | apply below_alloc | apply pw_below_drewN | apply below_drew1) | exact HB.out)) hb); clear HB; have HB := n0_; clear n0_; (try clear hb); (try clear hb2); (try clear hk); (try clear hi)) | ((with_reducible refine gate_callee (f := 26) rfl ?_); refine goesL_ (some 29) rfl rfl Try.func26 (by kernel_rfl) rfl #[.int .i64 a0, .int .i64 a1, .int .i64 a2] rfl (by (try simp only [List.map_toArray, List.map_cons, List.map_nil]); first | done | rfl | (simp only [List.length_drop, List.length_take]; rfl)) ?_; (with_reducible refine (fixed_Clamp.calls k a0 a1 a2 t267 t268 _ A6.out).mono ?_); rintro e w15 ⟨rfl, hb⟩; refine ⟨_, rfl, ?_⟩; have n0_ := Aside0.mk (below_step (by repeat (first | (with_reducible first | exact HB.out | apply below_alloc | apply pw_below_drewN | apply below_drew1) | exact HB.out)) hb); clear HB; have HB := n0_; clear n0_; (try clear hb); (try clear hb2); (try clear hk); (try clear hi)) | ((with_reducible refine gate_callee (f := 27) rfl ?_); refine goesL_ (some 36) rfl rfl Try.func27 (by kernel_rfl) rfl #[.int .i64 a0, .int .i64 a1, .int .i64 a2] rfl (by (try simp only [List.map_toArray, List.map_cons, List.map_nil]); first | done | rfl | (simp only [List.length_drop, List.length_take]; rfl)) ?_; (with_reducible refine (papermillref23_Clamp.calls k a0 a1 a2 t269 t270 _ A7.out).mono ?_); rintro e w16 ⟨rfl, hb⟩; refine ⟨_, rfl, ?_⟩; have n0_ := Aside0.mk (below_step (by repeat (first | (with_reducible first | exact HB.out | apply below_alloc | apply pw_below_drewN | apply below_drew1) | exact HB.out)) hb); clear HB; have HB := n0_; clear n0_; (try clear hb); (try clear hb2); (try clear hk); (try clear hi)) | (go_at_call 16; (with_reducible refine (papermilllaw23_awake.calls k  t271 _ A12.out).mono ?_); rintro e w17 ⟨rfl, hb⟩; have n0_ := Aside0.mk (below_step (by repeat (first | (with_reducible first | exact HB.out | apply below_alloc | apply pw_below_drewN | apply below_drew1) | exact HB.out)) hb); clear HB; have HB := n0_; clear n0_; (try clear hb); (try clear hb2); (try clear hk); (try clear hi)))
               go_ret
               exact ⟨by first | rfl | (simp [errW_none, errW_some] <;> rfl) | (simp [*, errW_none, errW_some] <;> rfl), by repeat (first | (with_reducible first | exact HB.out | apply below_alloc | apply pw_below_drewN | apply below_drew1) | exact HB.out)⟩)
        · rw [if_neg c11] at H
          have c11b0 : (t268 == t270) = false := beq_eq_false_iff_ne.mpr c11
          have c11b1 : (t268 != t270) = true := bne_iff_ne.mpr c11
          exact absurd ((Option.some.inj H).trans hr_.out) (by decide)
      · rw [if_neg c10] at H
        have c10b0 : (t267 == t269) = false := beq_eq_false_iff_ne.mpr c10
        have c10b1 : (t267 != t269) = true := bne_iff_ne.mpr c10
        exact absurd ((Option.some.inj H).trans hr_.out) (by decide)
    · rw [if_neg c9] at H
      have c9b0 : (t264 == t266) = false := beq_eq_false_iff_ne.mpr c9
      have c9b1 : (t264 != t266) = true := bne_iff_ne.mpr c9
      exact absurd ((Option.some.inj H).trans hr_.out) (by decide)
  · rw [if_neg c8] at H
    have c8b0 : (t263 == t265) = false := beq_eq_false_iff_ne.mpr c8
    have c8b1 : (t263 != t265) = true := bne_iff_ne.mpr c8
    exact absurd ((Option.some.inj H).trans hr_.out) (by decide)

/-- THE ONE PURE STATEMENT of papermilllaw23_FixedRounds: yours. -/
def papermilllaw23_FixedRounds.Pure : Prop := ∀ (a0 : Int) (a1 : Int) (a2 : Int), (Lit.int .i64 a0).wf = true → (Lit.int .i64 a1).wf = true → (Lit.int .i64 a2).wf = true → ∃ k, papermilllaw23_FixedRounds.f k a0 a1 a2 = some true
theorem papermilllaw23_FixedRounds.walk (P : papermilllaw23_FixedRounds.Pure) (a0 : Int) (a1 : Int) (a2 : Int) (w : World) (w0 : (Lit.int .i64 a0).wf = true) (w1 : (Lit.int .i64 a1).wf = true) (w2 : (Lit.int .i64 a2).wf = true) :
    Calls Try.prog 10 #[.int .i64 a0, .int .i64 a1, .int .i64 a2] w fun e w' => e = .returned (.bool true) ∧ Below w.heap.size w w' := by
  obtain ⟨k, h⟩ := P a0 a1 a2 w0 w1 w2
  refine (papermilllaw23_FixedRounds.calls k a0 a1 a2 true w ⟨rfl⟩ h).mono ?_
  rintro e w' ⟨rfl, hd⟩
  exact ⟨rfl, hd⟩

end Go.Proofs.Ytpmopomiadaonaa.P
