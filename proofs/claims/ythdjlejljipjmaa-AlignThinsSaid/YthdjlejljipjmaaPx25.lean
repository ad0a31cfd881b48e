-- Written by a program (wip/prog/pp.py) over the kit's print; some of its functions are proved by hand. Not trusted: Lean checks it.
import Derived.Test.YthdjlejljipjmaaPx0
import Derived.Test.YthdjlejljipjmaaPx3
import Derived.Test.YthdjlejljipjmaaPx10
import Derived.Test.YthdjlejljipjmaaPx11
import Derived.Test.YthdjlejljipjmaaPx12
import Derived.Test.YthdjlejljipjmaaPx13
import Derived.Test.YthdjlejljipjmaaPx23
import Derived.Test.YthdjlejljipjmaaPx24
namespace Go.Proofs.Ythdjlejljipjmaa.P
open Go.RowKit Go.Proofs.YthdjlejljipjmaaW.PrintWords Go.Proofs.YthdjlejljipjmaaW.PrintLast Go.Proofs.YthdjlejljipjmaaW.PrintMore
attribute [local go_sem] max2_int min2_int max_two min_two max_three min_three max_four min_four   -- for this text's walks alone
set_option linter.unusedVariables false
set_option linter.unusedSimpArgs false

/-! ### papermilllaw14_AlignThins: function 7 -/
def papermilllaw14_AlignThins.f (k : Nat) (l0 : List (S41)) : Option (Bool) := (papermilllaw14_few.f l0).bind fun t294 => (if t294 = true then ((align_Thin.f k l0).bind fun bt296 => ((papermillref14_Thin.f k l0).bind fun bt300 => ((align_Slip.f k l0).bind fun bt304 => ((papermillref14_Slip.f k l0).bind fun bt307 => ((papermillref14_Same.f k bt296.1 bt300.1).bind fun t310 => (if t310 = true then (if bt296.2 = bt300.2 then (if bt304.1 = bt307.1 then (if bt304.2.1 = bt307.2.1 then (if bt304.2.2 = bt307.2.2 then ((papermilllaw14_awake.f k).bind fun t311 => (some t311)) else (some false)) else (some false)) else (some false)) else (some false)) else (some false))))))) else ((papermilllaw14_awake.f k).bind fun t295 => (some t295)))
theorem papermilllaw14_AlignThins.mono : ∀ a0 k, LeO (papermilllaw14_AlignThins.f k a0) (papermilllaw14_AlignThins.f (k + 1) a0) := by
  intro a0 k
  unfold papermilllaw14_AlignThins.f
  repeat' first
      | (with_reducible exact align_Slip.mono _ _)
      | (with_reducible exact align_Thin.mono _ _)
      | (with_reducible exact papermilllaw14_awake.mono _)
      | (with_reducible exact papermillref14_Same.mono _ _ _)
      | (with_reducible exact papermillref14_Slip.mono _ _)
      | (with_reducible exact papermillref14_Thin.mono _ _)
      | (with_reducible exact LeO.refl _)
      | (with_reducible exact LeO.none _)
      | (with_reducible refine LeO.ite ?_ ?_)
      | (with_reducible refine LeO.bind ?_ (fun _ => ?_))
      | exact align_Slip.mono _ _
      | exact align_Thin.mono _ _
      | exact papermilllaw14_awake.mono _
      | exact papermillref14_Same.mono _ _ _
      | exact papermillref14_Slip.mono _ _
      | exact papermillref14_Thin.mono _ _
      | exact LeO.none _
      | refine LeO.ite ?_ ?_
      | refine LeO.bind ?_ (fun _ => ?_)
set_option maxHeartbeats 8000000 in
set_option maxRecDepth 100000 in
theorem papermilllaw14_AlignThins.calls (k : Nat) (A0 : Option Addr) (c0 : Nat) (l0 : List (S41)) (r : Bool) (w : World) (hr0 : Kd.C k41 w A0 l0.length l0) (hc0 : l0.length ≤ c0) (hr_ : Aside0 (r = true)) (h : papermilllaw14_AlignThins.f k l0 = some r) :
    Calls Try.prog 7 #[.slice A0 l0.length c0] w fun e w' => e = .returned (.bool r) ∧ Below w.heap.size w w' := by
  have HR0 := Aside0.mk hr0
  have HC0 := Aside0.mk hc0
  clear hr0 hc0
  have HB := Aside0.mk (Below.refl w.heap.size w)
  have H : ((papermilllaw14_few.f l0).bind fun t294 => (if t294 = true then ((align_Thin.f k l0).bind fun bt296 => ((papermillref14_Thin.f k l0).bind fun bt300 => ((align_Slip.f k l0).bind fun bt304 => ((papermillref14_Slip.f k l0).bind fun bt307 => ((papermillref14_Same.f k bt296.1 bt300.1).bind fun t310 => (if t310 = true then (if bt296.2 = bt300.2 then (if bt304.1 = bt307.1 then (if bt304.2.1 = bt307.2.1 then (if bt304.2.2 = bt307.2.2 then ((papermilllaw14_awake.f k).bind fun t311 => (some t311)) else (some false)) else (some false)) else (some false)) else (some false)) else (some false))))))) else ((papermilllaw14_awake.f k).bind fun t295 => (some t295)))) = some r := h
  clear h
  replace H := Option.bind_eq_some_iff.mp H
  obtain ⟨t294, A20, H⟩ := H
  replace H : (if t294 = true then ((align_Thin.f k l0).bind fun bt296 => ((papermillref14_Thin.f k l0).bind fun bt300 => ((align_Slip.f k l0).bind fun bt304 => ((papermillref14_Slip.f k l0).bind fun bt307 => ((papermillref14_Same.f k bt296.1 bt300.1).bind fun t310 => (if t310 = true then (if bt296.2 = bt300.2 then (if bt304.1 = bt307.1 then (if bt304.2.1 = bt307.2.1 then (if bt304.2.2 = bt307.2.2 then ((papermilllaw14_awake.f k).bind fun t311 => (some t311)) else (some false)) else (some false)) else (some false)) else (some false)) else (some false))))))) else ((papermilllaw14_awake.f k).bind fun t295 => (some t295))) = some r := H
  have A2 := Aside0.mk A20
  clear A20
  by_cases c3 : t294 = true
  · subst c3
    have H1 : ((align_Thin.f k l0).bind fun bt296 => ((papermillref14_Thin.f k l0).bind fun bt300 => ((align_Slip.f k l0).bind fun bt304 => ((papermillref14_Slip.f k l0).bind fun bt307 => ((papermillref14_Same.f k bt296.1 bt300.1).bind fun t310 => (if t310 = true then (if bt296.2 = bt300.2 then (if bt304.1 = bt307.1 then (if bt304.2.1 = bt307.2.1 then (if bt304.2.2 = bt307.2.2 then ((papermilllaw14_awake.f k).bind fun t311 => (some t311)) else (some false)) else (some false)) else (some false)) else (some false)) else (some false))))))) = some r := by rw [if_pos rfl] at H; exact H
    clear H
    have H := H1
    clear H1
    replace H := Option.bind_eq_some_iff.mp H
    obtain ⟨⟨t296, t297⟩, A40, H⟩ := H
    replace H : ((papermillref14_Thin.f k l0).bind fun bt300 => ((align_Slip.f k l0).bind fun bt304 => ((papermillref14_Slip.f k l0).bind fun bt307 => ((papermillref14_Same.f k t296 bt300.1).bind fun t310 => (if t310 = true then (if t297 = bt300.2 then (if bt304.1 = bt307.1 then (if bt304.2.1 = bt307.2.1 then (if bt304.2.2 = bt307.2.2 then ((papermilllaw14_awake.f k).bind fun t311 => (some t311)) else (some false)) else (some false)) else (some false)) else (some false)) else (some false)))))) = some r := H
    have A4 := Aside0.mk A40
    clear A40
    replace H := Option.bind_eq_some_iff.mp H
    obtain ⟨⟨t300, t301⟩, A50, H⟩ := H
    replace H : ((align_Slip.f k l0).bind fun bt304 => ((papermillref14_Slip.f k l0).bind fun bt307 => ((papermillref14_Same.f k t296 t300).bind fun t310 => (if t310 = true then (if t297 = t301 then (if bt304.1 = bt307.1 then (if bt304.2.1 = bt307.2.1 then (if bt304.2.2 = bt307.2.2 then ((papermilllaw14_awake.f k).bind fun t311 => (some t311)) else (some false)) else (some false)) else (some false)) else (some false)) else (some false))))) = some r := H
    have A5 := Aside0.mk A50
    clear A50
    replace H := Option.bind_eq_some_iff.mp H
    obtain ⟨⟨t304, t305, t306⟩, A60, H⟩ := H
    replace H : ((papermillref14_Slip.f k l0).bind fun bt307 => ((papermillref14_Same.f k t296 t300).bind fun t310 => (if t310 = true then (if t297 = t301 then (if t304 = bt307.1 then (if t305 = bt307.2.1 then (if t306 = bt307.2.2 then ((papermilllaw14_awake.f k).bind fun t311 => (some t311)) else (some false)) else (some false)) else (some false)) else (some false)) else (some false)))) = some r := H
    have A6 := Aside0.mk A60
    clear A60
    replace H := Option.bind_eq_some_iff.mp H
    obtain ⟨⟨t307, t308, t309⟩, A70, H⟩ := H
    replace H : ((papermillref14_Same.f k t296 t300).bind fun t310 => (if t310 = true then (if t297 = t301 then (if t304 = t307 then (if t305 = t308 then (if t306 = t309 then ((papermilllaw14_awake.f k).bind fun t311 => (some t311)) else (some false)) else (some false)) else (some false)) else (some false)) else (some false))) = some r := H
    have A7 := Aside0.mk A70
    clear A70
    replace H := Option.bind_eq_some_iff.mp H
    obtain ⟨t310, A80, H⟩ := H
    replace H : (if t310 = true then (if t297 = t301 then (if t304 = t307 then (if t305 = t308 then (if t306 = t309 then ((papermilllaw14_awake.f k).bind fun t311 => (some t311)) else (some false)) else (some false)) else (some false)) else (some false)) else (some false)) = some r := H
    have A8 := Aside0.mk A80
    clear A80
    by_cases c9 : t310 = true
    · subst c9
      have H1 : (if t297 = t301 then (if t304 = t307 then (if t305 = t308 then (if t306 = t309 then ((papermilllaw14_awake.f k).bind fun t311 => (some t311)) else (some false)) else (some false)) else (some false)) else (some false)) = some r := by rw [if_pos rfl] at H; exact H
      clear H
      have H := H1
      clear H1
      by_cases c10 : t297 = t301
      · rw [if_pos c10] at H
        have c10b0 : (t297 == t301) = true := beq_iff_eq.mpr c10
        have c10b1 : (t297 != t301) = false := bne_eq_false_iff_eq.mpr c10
        clear c10
        by_cases c11 : t304 = t307
        · rw [if_pos c11] at H
          have c11b0 : (t304 == t307) = true := beq_iff_eq.mpr c11
          have c11b1 : (t304 != t307) = false := bne_eq_false_iff_eq.mpr c11
          clear c11
          by_cases c12 : t305 = t308
          · rw [if_pos c12] at H
            have c12b0 : (t305 == t308) = true := beq_iff_eq.mpr c12
            have c12b1 : (t305 != t308) = false := bne_eq_false_iff_eq.mpr c12
            clear c12
            by_cases c13 : t306 = t309
            · rw [if_pos c13] at H
              have c13b0 : (t306 == t309) = true := beq_iff_eq.mpr c13
              have c13b1 : (t306 != t309) = false := bne_eq_false_iff_eq.mpr c13
              clear c13
              replace H := Option.bind_eq_some_iff.mp H
              obtain ⟨t311, A140, H⟩ := H
              replace H : (some t311) = some r := H
              have A14 := Aside0.mk A140
              clear A140
              first
                | exact absurd ((Option.some.inj H).trans hr_.out) (by decide)
                | (skip
                   obtain rfl := Option.some.inj H
                   go_enter Try.func7, Try.ntmps7
                   go_wp2_with (first | ((with_reducible refine gate_callee (f := 11) rfl ?_); refine goesL_ (some 14) rfl rfl Try.func11 (by kernel_rfl) rfl #[.slice A0 l0.length c0] rfl (by (try simp only [List.map_toArray, List.map_cons, List.map_nil]); first | done | rfl | (simp only [List.length_drop, List.length_take]; rfl)) ?_; (with_reducible refine (papermilllaw14_few.calls _ _ l0 true _ ?side1 ?side2 A2.out).mono ?_); (case side1 => repeat (first | exact HR0.out | (with_reducible refine Kd.C_alloc ?_ _) | (with_reducible refine Kd.C_drewN ?_ _) | (with_reducible refine Kd.C_drew ?_))); (case side2 => exact HC0.out); rintro e w' ⟨rfl, ⟨nd, rfl⟩⟩; refine ⟨_, rfl, ?_⟩) | ((with_reducible refine gate_callee (f := 21) rfl ?_); refine goesL_ (some 19) rfl rfl Try.func21 (by kernel_rfl) rfl #[.slice A0 l0.length c0] rfl (by (try simp only [List.map_toArray, List.map_cons, List.map_nil]); first | done | rfl | (simp only [List.length_drop, List.length_take]; rfl)) ?_; (with_reducible refine (align_Thin.calls k _ _ l0 t296 t297 _ ?side1 ?side2 A4.out).mono ?_); (case side1 => repeat (first | exact HR0.out | (with_reducible refine Kd.C_alloc ?_ _) | (with_reducible refine Kd.C_drewN ?_ _) | (with_reducible refine Kd.C_drew ?_))); (case side2 => exact HC0.out); rintro e w15 ⟨v298, rfl, ho0, hb⟩; refine ⟨_, rfl, ?_⟩; have n0_ := Aside0.mk (Kd.R_lower ho0 (below_size (by repeat (first | (with_reducible first | exact HB.out | apply below_alloc | apply pw_below_drewN | apply below_drew1) | exact HB.out)))); have n1_ := Aside0.mk (below_step (by repeat (first | (with_reducible first | exact HB.out | apply below_alloc | apply pw_below_drewN | apply below_drew1) | exact HB.out)) hb); clear HB; have HO299 := n0_; have HB := n1_; clear n0_ n1_; (try clear hb); (try clear hb2); (try clear hk); (try clear hi); (try clear ho0)) | ((with_reducible refine gate_callee (f := 22) rfl ?_); refine goesL_ (some 24) rfl rfl Try.func22 (by kernel_rfl) rfl #[.slice A0 l0.length c0] rfl (by (try simp only [List.map_toArray, List.map_cons, List.map_nil]); first | done | rfl | (simp only [List.length_drop, List.length_take]; rfl)) ?_; (with_reducible refine (papermillref14_Thin.calls k _ _ l0 t300 t301 _ ?side1 ?side2 A5.out).mono ?_); (case side1 => repeat (first | exact (Kd.C_below HR0.out HB.out) | (with_reducible refine Kd.C_alloc ?_ _) | (with_reducible refine Kd.C_drewN ?_ _) | (with_reducible refine Kd.C_drew ?_))); (case side2 => exact HC0.out); rintro e w16 ⟨v302, rfl, ho0, hb⟩; refine ⟨_, rfl, ?_⟩; have n0_ := Aside0.mk (Kd.R_elder' (by (with_reducible repeat (first | apply Kd.R_alloc | apply Kd.R_drewN | apply Kd.R_drew)); exact HO299.out) (Kd.R_base ho0) hb); have n1_ := Aside0.mk (Kd.R_lower (Kd.R_new' ho0 (Kd.R_lt (by (with_reducible repeat (first | apply Kd.R_alloc | apply Kd.R_drewN | apply Kd.R_drew)); exact HO299.out))) (below_size (by repeat (first | (with_reducible first | exact HB.out | apply below_alloc | apply pw_below_drewN | apply below_drew1) | exact HB.out)))); have n2_ := Aside0.mk (below_step (by repeat (first | (with_reducible first | exact HB.out | apply below_alloc | apply pw_below_drewN | apply below_drew1) | exact HB.out)) hb); clear HO299; clear HB; have HO299 := n0_; have HO303 := n1_; have HB := n2_; clear n0_ n1_ n2_; (try clear hb); (try clear hb2); (try clear hk); (try clear hi); (try clear ho0)) | ((with_reducible refine gate_callee (f := 23) rfl ?_); refine goesL_ (some 29) rfl rfl Try.func23 (by kernel_rfl) rfl #[.slice A0 l0.length c0] rfl (by (try simp only [List.map_toArray, List.map_cons, List.map_nil]); first | done | rfl | (simp only [List.length_drop, List.length_take]; rfl)) ?_; (with_reducible refine (align_Slip.calls k _ _ l0 t304 t305 t306 _ ?side1 ?side2 A6.out).mono ?_); (case side1 => repeat (first | exact (Kd.C_below HR0.out HB.out) | (with_reducible refine Kd.C_alloc ?_ _) | (with_reducible refine Kd.C_drewN ?_ _) | (with_reducible refine Kd.C_drew ?_))); (case side2 => exact HC0.out); rintro e w17 ⟨rfl, hb⟩; refine ⟨_, rfl, ?_⟩; have n0_ := Aside0.mk (Kd.R_below (by (with_reducible repeat (first | apply Kd.R_alloc | apply Kd.R_drewN | apply Kd.R_drew)); exact HO299.out) hb); have n1_ := Aside0.mk (Kd.R_below (by (with_reducible repeat (first | apply Kd.R_alloc | apply Kd.R_drewN | apply Kd.R_drew)); exact HO303.out) hb); have n2_ := Aside0.mk (below_step (by repeat (first | (with_reducible first | exact HB.out | apply below_alloc | apply pw_below_drewN | apply below_drew1) | exact HB.out)) hb); clear HO299; clear HO303; clear HB; have HO299 := n0_; have HO303 := n1_; have HB := n2_; clear n0_ n1_ n2_; (try clear hb); (try clear hb2); (try clear hk); (try clear hi)) | ((with_reducible refine gate_callee (f := 24) rfl ?_); refine goesL_ (some 35) rfl rfl Try.func24 (by kernel_rfl) rfl #[.slice A0 l0.length c0] rfl (by (try simp only [List.map_toArray, List.map_cons, List.map_nil]); first | done | rfl | (simp only [List.length_drop, List.length_take]; rfl)) ?_; (with_reducible refine (papermillref14_Slip.calls k _ _ l0 t307 t308 t309 _ ?side1 ?side2 A7.out).mono ?_); (case side1 => repeat (first | exact (Kd.C_below HR0.out HB.out) | (with_reducible refine Kd.C_alloc ?_ _) | (with_reducible refine Kd.C_drewN ?_ _) | (with_reducible refine Kd.C_drew ?_))); (case side2 => exact HC0.out); rintro e w18 ⟨rfl, hb⟩; refine ⟨_, rfl, ?_⟩; have n0_ := Aside0.mk (Kd.R_below (by (with_reducible repeat (first | apply Kd.R_alloc | apply Kd.R_drewN | apply Kd.R_drew)); exact HO299.out) hb); have n1_ := Aside0.mk (Kd.R_below (by (with_reducible repeat (first | apply Kd.R_alloc | apply Kd.R_drewN | apply Kd.R_drew)); exact HO303.out) hb); have n2_ := Aside0.mk (below_step (by repeat (first | (with_reducible first | exact HB.out | apply below_alloc | apply pw_below_drewN | apply below_drew1) | exact HB.out)) hb); clear HO299; clear HO303; clear HB; have HO299 := n0_; have HO303 := n1_; have HB := n2_; clear n0_ n1_ n2_; (try clear hb); (try clear hb2); (try clear hk); (try clear hi); obtain ⟨Ao19, co19, eo19⟩ := Kd.R_slice HO299.out; subst eo19; obtain ⟨Ao20, co20, eo20⟩ := Kd.R_slice HO303.out; subst eo20) | ((with_reducible refine gate_callee (f := 25) rfl ?_); refine goesL_ (some 41) rfl rfl Try.func25 (by kernel_rfl) rfl #[.slice Ao19 t296.length co19, .slice Ao20 t300.length co20] rfl (by (try simp only [List.map_toArray, List.map_cons, List.map_nil]); first | done | rfl | (simp only [List.length_drop, List.length_take]; rfl)) ?_; (with_reducible refine (papermillref14_Same.calls k _ _ t296 _ _ t300 true _ ?side1 ?side2 ?side3 ?side4 A8.out).mono ?_); (case side1 => repeat (first | exact (Kd.R_reads' HO299.out).2.2 | (with_reducible refine Kd.C_alloc ?_ _) | (with_reducible refine Kd.C_drewN ?_ _) | (with_reducible refine Kd.C_drew ?_))); (case side2 => exact (Kd.R_reads' HO299.out).2.1); (case side3 => repeat (first | exact (Kd.R_reads' HO303.out).2.2 | (with_reducible refine Kd.C_alloc ?_ _) | (with_reducible refine Kd.C_drewN ?_ _) | (with_reducible refine Kd.C_drew ?_))); (case side4 => exact (Kd.R_reads' HO303.out).2.1); rintro e w' ⟨rfl, ⟨nd, rfl⟩⟩; refine ⟨_, rfl, ?_⟩) | (go_at_call 12; (with_reducible refine (papermilllaw14_awake.calls k  t311 _ A14.out).mono ?_); rintro e w21 ⟨rfl, hb⟩; have n0_ := Aside0.mk (Kd.R_below (by (with_reducible repeat (first | apply Kd.R_alloc | apply Kd.R_drewN | apply Kd.R_drew)); exact HO299.out) hb); have n1_ := Aside0.mk (Kd.R_below (by (with_reducible repeat (first | apply Kd.R_alloc | apply Kd.R_drewN | apply Kd.R_drew)); exact HO303.out) hb); have n2_ := Aside0.mk (below_step (by repeat (first | (with_reducible first | exact HB.out | apply below_alloc | apply pw_below_drewN | apply below_drew1) | exact HB.out)) hb); clear HO299; clear HO303; clear HB; have HO299 := n0_; have HO303 := n1_; have HB := n2_; clear n0_ n1_ n2_; (try clear hb); (try clear hb2); (try clear hk); (try clear hi)))
                   go_ret
                   exact ⟨by first | rfl | (simp [errW_none, errW_some] <;> rfl) | (simp [*, errW_none, errW_some] <;> rfl), by repeat (first | (with_reducible first | exact HB.out | apply below_alloc | apply pw_below_drewN | apply below_drew1) | exact HB.out)⟩)
            · rw [if_neg c13] at H
              have c13b0 : (t306 == t309) = false := beq_eq_false_iff_ne.mpr c13
              have c13b1 : (t306 != t309) = true := bne_iff_ne.mpr c13
              exact absurd ((Option.some.inj H).trans hr_.out) (by decide)
          · rw [if_neg c12] at H
            have c12b0 : (t305 == t308) = false := beq_eq_false_iff_ne.mpr c12
            have c12b1 : (t305 != t308) = true := bne_iff_ne.mpr c12
            exact absurd ((Option.some.inj H).trans hr_.out) (by decide)
        · rw [if_neg c11] at H
          have c11b0 : (t304 == t307) = false := beq_eq_false_iff_ne.mpr c11
          have c11b1 : (t304 != t307) = true := bne_iff_ne.mpr c11
          exact absurd ((Option.some.inj H).trans hr_.out) (by decide)
      · rw [if_neg c10] at H
        have c10b0 : (t297 == t301) = false := beq_eq_false_iff_ne.mpr c10
        have c10b1 : (t297 != t301) = true := bne_iff_ne.mpr c10
        exact absurd ((Option.some.inj H).trans hr_.out) (by decide)
    · replace c9 := Bool.eq_false_iff.mpr c9
      subst c9
      have H1 : (some false) = some r := by rw [if_neg (show ¬ (false = true) by decide)] at H; exact H
      clear H
      have H := H1
      clear H1
      exact absurd ((Option.some.inj H).trans hr_.out) (by decide)
  · replace c3 := Bool.eq_false_iff.mpr c3
    subst c3
    have H1 : ((papermilllaw14_awake.f k).bind fun t295 => (some t295)) = some r := by rw [if_neg (show ¬ (false = true) by decide)] at H; exact H
    clear H
    have H := H1
    clear H1
    replace H := Option.bind_eq_some_iff.mp H
    obtain ⟨t295, A520, H⟩ := H
    replace H : (some t295) = some r := H
    have A52 := Aside0.mk A520
    clear A520
    first
      | exact absurd ((Option.some.inj H).trans hr_.out) (by decide)
      | (skip
         obtain rfl := Option.some.inj H
         go_enter Try.func7, Try.ntmps7
         go_wp2_with (first | ((with_reducible refine gate_callee (f := 11) rfl ?_); refine goesL_ (some 14) rfl rfl Try.func11 (by kernel_rfl) rfl #[.slice A0 l0.length c0] rfl (by (try simp only [List.map_toArray, List.map_cons, List.map_nil]); first | done | rfl | (simp only [List.length_drop, List.length_take]; rfl)) ?_; (with_reducible refine (papermilllaw14_few.calls _ _ l0 false _ ?side1 ?side2 A2.out).mono ?_); (case side1 => repeat (first | exact HR0.out | (with_reducible refine Kd.C_alloc ?_ _) | (with_reducible refine Kd.C_drewN ?_ _) | (with_reducible refine Kd.C_drew ?_))); (case side2 => exact HC0.out); rintro e w' ⟨rfl, ⟨nd, rfl⟩⟩; refine ⟨_, rfl, ?_⟩) | ((with_reducible refine gate_callee (f := 12) rfl ?_); refine goesL_ (some 16) rfl rfl Try.func12 (by kernel_rfl) rfl #[] rfl (by (try simp only [List.map_toArray, List.map_cons, List.map_nil]); first | done | rfl | (simp only [List.length_drop, List.length_take]; rfl)) ?_; (with_reducible refine (papermilllaw14_awake.calls k  t295 _ A52.out).mono ?_); rintro e w53 ⟨rfl, hb⟩; refine ⟨_, rfl, ?_⟩; have n0_ := Aside0.mk (below_step (by repeat (first | (with_reducible first | exact HB.out | apply below_alloc | apply pw_below_drewN | apply below_drew1) | exact HB.out)) hb); clear HB; have HB := n0_; clear n0_; (try clear hb); (try clear hb2); (try clear hk); (try clear hi)))
         go_ret
         exact ⟨by first | rfl | (simp [errW_none, errW_some] <;> rfl) | (simp [*, errW_none, errW_some] <;> rfl), by repeat (first | (with_reducible first | exact HB.out | apply below_alloc | apply pw_below_drewN | apply below_drew1) | exact HB.out)⟩)

end Go.Proofs.Ythdjlejljipjmaa.P
