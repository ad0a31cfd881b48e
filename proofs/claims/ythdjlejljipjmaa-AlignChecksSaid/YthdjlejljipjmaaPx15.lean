-- Written by a program (wip/prog/pp.py) over the kit's print; some of its functions are proved by hand. Not trusted: Lean checks it.
import Derived.Test.YthdjlejljipjmaaPx0
import Derived.Test.YthdjlejljipjmaaPx3
import Derived.Test.YthdjlejljipjmaaPx4
import Derived.Test.YthdjlejljipjmaaPx13
import Derived.Test.YthdjlejljipjmaaPx14
namespace Go.Proofs.Ythdjlejljipjmaa.P
open Go.RowKit Go.Proofs.YthdjlejljipjmaaW.PrintWords Go.Proofs.YthdjlejljipjmaaW.PrintLast Go.Proofs.YthdjlejljipjmaaW.PrintMore
attribute [local go_sem] max2_int min2_int max_two min_two max_three min_three max_four min_four   -- for this text's walks alone
set_option linter.unusedVariables false
set_option linter.unusedSimpArgs false

/-! ### papermilllaw14_AlignChecks: function 3 -/
def papermilllaw14_AlignChecks.f (k : Nat) (l0 : List (S41)) : Option (Bool) := (papermilllaw14_few.f l0).bind fun t200 => (if t200 = true then ((papermilllaw14_few.f l0).bind fun t201 => (if t201 = true then ((align_Check.f k l0).bind fun t202 => ((papermillref14_Check.f k l0).bind fun t203 => (if t202 = t203 then ((papermilllaw14_awake.f k).bind fun t204 => (some t204)) else (some false)))) else (some false))) else ((papermilllaw14_awake.f k).bind fun t205 => (if t205 = true then (some true) else ((papermilllaw14_few.f l0).bind fun t206 => (if t206 = true then ((align_Check.f k l0).bind fun t207 => ((papermillref14_Check.f k l0).bind fun t208 => (if t207 = t208 then ((papermilllaw14_awake.f k).bind fun t209 => (some t209)) else (some false)))) else (some false))))))
theorem papermilllaw14_AlignChecks.mono : ∀ a0 k, LeO (papermilllaw14_AlignChecks.f k a0) (papermilllaw14_AlignChecks.f (k + 1) a0) := by
  intro a0 k
  unfold papermilllaw14_AlignChecks.f
  repeat' first
      | (with_reducible exact align_Check.mono _ _)
      | (with_reducible exact papermilllaw14_awake.mono _)
      | (with_reducible exact papermillref14_Check.mono _ _)
      | (with_reducible exact LeO.refl _)
      | (with_reducible exact LeO.none _)
      | (with_reducible refine LeO.ite ?_ ?_)
      | (with_reducible refine LeO.bind ?_ (fun _ => ?_))
      | exact align_Check.mono _ _
      | exact papermilllaw14_awake.mono _
      | exact papermillref14_Check.mono _ _
      | exact LeO.none _
      | refine LeO.ite ?_ ?_
      | refine LeO.bind ?_ (fun _ => ?_)
theorem awake_only (k : Nat) (r : Bool) (h : papermilllaw14_awake.f k = some r) : r = true := by
  unfold papermilllaw14_awake.f at h
  obtain ⟨b, hb, h2⟩ := Option.bind_eq_some_iff.mp h
  cases b with
  | true => exact (Option.some.inj h2).symm
  | false => simp at h2
set_option maxHeartbeats 8000000 in
set_option maxRecDepth 100000 in
theorem papermilllaw14_AlignChecks.calls (k : Nat) (A0 : Option Addr) (c0 : Nat) (l0 : List (S41)) (r : Bool) (w : World) (hr0 : Kd.C k41 w A0 l0.length l0) (hc0 : l0.length ≤ c0) (hr_ : Aside0 (r = true)) (h : papermilllaw14_AlignChecks.f k l0 = some r) :
    Calls Try.prog 3 #[.slice A0 l0.length c0] w fun e w' => e = .returned (.bool r) ∧ Below w.heap.size w w' := by
  have HR0 := Aside0.mk hr0
  have HC0 := Aside0.mk hc0
  clear hr0 hc0
  have HB := Aside0.mk (Below.refl w.heap.size w)
  have H : ((papermilllaw14_few.f l0).bind fun t200 => (if t200 = true then ((papermilllaw14_few.f l0).bind fun t201 => (if t201 = true then ((align_Check.f k l0).bind fun t202 => ((papermillref14_Check.f k l0).bind fun t203 => (if t202 = t203 then ((papermilllaw14_awake.f k).bind fun t204 => (some t204)) else (some false)))) else (some false))) else ((papermilllaw14_awake.f k).bind fun t205 => (if t205 = true then (some true) else ((papermilllaw14_few.f l0).bind fun t206 => (if t206 = true then ((align_Check.f k l0).bind fun t207 => ((papermillref14_Check.f k l0).bind fun t208 => (if t207 = t208 then ((papermilllaw14_awake.f k).bind fun t209 => (some t209)) else (some false)))) else (some false))))))) = some r := h
  clear h
  replace H := Option.bind_eq_some_iff.mp H
  obtain ⟨t200, A20, H⟩ := H
  replace H : (if t200 = true then ((papermilllaw14_few.f l0).bind fun t201 => (if t201 = true then ((align_Check.f k l0).bind fun t202 => ((papermillref14_Check.f k l0).bind fun t203 => (if t202 = t203 then ((papermilllaw14_awake.f k).bind fun t204 => (some t204)) else (some false)))) else (some false))) else ((papermilllaw14_awake.f k).bind fun t205 => (if t205 = true then (some true) else ((papermilllaw14_few.f l0).bind fun t206 => (if t206 = true then ((align_Check.f k l0).bind fun t207 => ((papermillref14_Check.f k l0).bind fun t208 => (if t207 = t208 then ((papermilllaw14_awake.f k).bind fun t209 => (some t209)) else (some false)))) else (some false)))))) = some r := H
  have A2 := Aside0.mk A20
  clear A20
  by_cases c3 : t200 = true
  · subst c3
    have H1 : ((papermilllaw14_few.f l0).bind fun t201 => (if t201 = true then ((align_Check.f k l0).bind fun t202 => ((papermillref14_Check.f k l0).bind fun t203 => (if t202 = t203 then ((papermilllaw14_awake.f k).bind fun t204 => (some t204)) else (some false)))) else (some false))) = some r := by rw [if_pos rfl] at H; exact H
    clear H
    have H := H1
    clear H1
    replace H := Option.bind_eq_some_iff.mp H
    obtain ⟨t201, A40, H⟩ := H
    replace H : (if t201 = true then ((align_Check.f k l0).bind fun t202 => ((papermillref14_Check.f k l0).bind fun t203 => (if t202 = t203 then ((papermilllaw14_awake.f k).bind fun t204 => (some t204)) else (some false)))) else (some false)) = some r := H
    have A4 := Aside0.mk A40
    clear A40
    by_cases c5 : t201 = true
    · subst c5
      have H1 : ((align_Check.f k l0).bind fun t202 => ((papermillref14_Check.f k l0).bind fun t203 => (if t202 = t203 then ((papermilllaw14_awake.f k).bind fun t204 => (some t204)) else (some false)))) = some r := by rw [if_pos rfl] at H; exact H
      clear H
      have H := H1
      clear H1
      replace H := Option.bind_eq_some_iff.mp H
      obtain ⟨t202, A60, H⟩ := H
      replace H : ((papermillref14_Check.f k l0).bind fun t203 => (if t202 = t203 then ((papermilllaw14_awake.f k).bind fun t204 => (some t204)) else (some false))) = some r := H
      have A6 := Aside0.mk A60
      clear A60
      replace H := Option.bind_eq_some_iff.mp H
      obtain ⟨t203, A70, H⟩ := H
      replace H : (if t202 = t203 then ((papermilllaw14_awake.f k).bind fun t204 => (some t204)) else (some false)) = some r := H
      have A7 := Aside0.mk A70
      clear A70
      by_cases c8 : t202 = t203
      · rw [if_pos c8] at H
        have c8b0 : (t202 == t203) = true := beq_iff_eq.mpr c8
        have c8b1 : (t202 != t203) = false := bne_eq_false_iff_eq.mpr c8
        clear c8
        replace H := Option.bind_eq_some_iff.mp H
        obtain ⟨t204, A90, H⟩ := H
        replace H : (some t204) = some r := H
        have A9 := Aside0.mk A90
        clear A90
        first
          | exact absurd ((Option.some.inj H).trans hr_.out) (by decide)
          | (skip
             obtain rfl := Option.some.inj H
             go_enter Try.func3, Try.ntmps3
             go_wp2_with (first | ((with_reducible refine gate_callee (f := 11) rfl ?_); refine goesL_ (some 4) rfl rfl Try.func11 (by kernel_rfl) rfl #[.slice A0 l0.length c0] rfl (by (try simp only [List.map_toArray, List.map_cons, List.map_nil]); first | done | rfl | (simp only [List.length_drop, List.length_take]; rfl)) ?_; (with_reducible refine (papermilllaw14_few.calls _ _ l0 true _ ?side1 ?side2 A2.out).mono ?_); (case side1 => repeat (first | exact HR0.out | (with_reducible refine Kd.C_alloc ?_ _) | (with_reducible refine Kd.C_drewN ?_ _) | (with_reducible refine Kd.C_drew ?_))); (case side2 => exact HC0.out); rintro e w' ⟨rfl, ⟨nd, rfl⟩⟩; refine ⟨_, rfl, ?_⟩) | (go_at_call 11; (with_reducible refine (papermilllaw14_few.calls _ _ l0 true _ ?side1 ?side2 A4.out).mono ?_); (case side1 => repeat (first | exact HR0.out | (with_reducible refine Kd.C_alloc ?_ _) | (with_reducible refine Kd.C_drewN ?_ _) | (with_reducible refine Kd.C_drew ?_))); (case side2 => exact HC0.out); rintro e w' ⟨rfl, ⟨nd, rfl⟩⟩) | (go_at_call 13; (with_reducible refine (align_Check.calls k _ _ l0 t202 _ ?side1 ?side2 A6.out).mono ?_); (case side1 => repeat (first | exact HR0.out | (with_reducible refine Kd.C_alloc ?_ _) | (with_reducible refine Kd.C_drewN ?_ _) | (with_reducible refine Kd.C_drew ?_))); (case side2 => exact HC0.out); rintro e w10 ⟨rfl, hb⟩; have n0_ := Aside0.mk (below_step (by repeat (first | (with_reducible first | exact HB.out | apply below_alloc | apply pw_below_drewN | apply below_drew1) | exact HB.out)) hb); clear HB; have HB := n0_; clear n0_; (try clear hb); (try clear hb2); (try clear hk); (try clear hi)) | (go_at_call 14; (with_reducible refine (papermillref14_Check.calls k _ _ l0 t203 _ ?side1 ?side2 A7.out).mono ?_); (case side1 => repeat (first | exact (Kd.C_below HR0.out HB.out) | (with_reducible refine Kd.C_alloc ?_ _) | (with_reducible refine Kd.C_drewN ?_ _) | (with_reducible refine Kd.C_drew ?_))); (case side2 => exact HC0.out); rintro e w' ⟨rfl, ⟨nd, rfl⟩⟩) | (go_at_call 12; (with_reducible refine (papermilllaw14_awake.calls k  t204 _ A9.out).mono ?_); rintro e w11 ⟨rfl, hb⟩; have n0_ := Aside0.mk (below_step (by repeat (first | (with_reducible first | exact HB.out | apply below_alloc | apply pw_below_drewN | apply below_drew1) | exact HB.out)) hb); clear HB; have HB := n0_; clear n0_; (try clear hb); (try clear hb2); (try clear hk); (try clear hi)))
             go_ret
             exact ⟨by first | rfl | (simp [errW_none, errW_some] <;> rfl) | (simp [*, errW_none, errW_some] <;> rfl), by repeat (first | (with_reducible first | exact HB.out | apply below_alloc | apply pw_below_drewN | apply below_drew1) | exact HB.out)⟩)
      · rw [if_neg c8] at H
        have c8b0 : (t202 == t203) = false := beq_eq_false_iff_ne.mpr c8
        have c8b1 : (t202 != t203) = true := bne_iff_ne.mpr c8
        exact absurd ((Option.some.inj H).trans hr_.out) (by decide)
    · replace c5 := Bool.eq_false_iff.mpr c5
      subst c5
      have H1 : (some false) = some r := by rw [if_neg (show ¬ (false = true) by decide)] at H; exact H
      clear H
      have H := H1
      clear H1
      exact absurd ((Option.some.inj H).trans hr_.out) (by decide)
  · replace c3 := Bool.eq_false_iff.mpr c3
    subst c3
    have H1 : ((papermilllaw14_awake.f k).bind fun t205 => (if t205 = true then (some true) else ((papermilllaw14_few.f l0).bind fun t206 => (if t206 = true then ((align_Check.f k l0).bind fun t207 => ((papermillref14_Check.f k l0).bind fun t208 => (if t207 = t208 then ((papermilllaw14_awake.f k).bind fun t209 => (some t209)) else (some false)))) else (some false))))) = some r := by rw [if_neg (show ¬ (false = true) by decide)] at H; exact H
    clear H
    have H := H1
    clear H1
    replace H := Option.bind_eq_some_iff.mp H
    obtain ⟨t205, A130, H⟩ := H
    replace H : (if t205 = true then (some true) else ((papermilllaw14_few.f l0).bind fun t206 => (if t206 = true then ((align_Check.f k l0).bind fun t207 => ((papermillref14_Check.f k l0).bind fun t208 => (if t207 = t208 then ((papermilllaw14_awake.f k).bind fun t209 => (some t209)) else (some false)))) else (some false)))) = some r := H
    have A13 := Aside0.mk A130
    clear A130
    by_cases c14 : t205 = true
    · subst c14
      have H1 : (some true) = some r := by rw [if_pos rfl] at H; exact H
      clear H
      have H := H1
      clear H1
      obtain rfl := Option.some.inj H
      go_enter Try.func3, Try.ntmps3
      go_wp2_with (first | ((with_reducible refine gate_callee (f := 11) rfl ?_); refine goesL_ (some 4) rfl rfl Try.func11 (by kernel_rfl) rfl #[.slice A0 l0.length c0] rfl (by (try simp only [List.map_toArray, List.map_cons, List.map_nil]); first | done | rfl | (simp only [List.length_drop, List.length_take]; rfl)) ?_; (with_reducible refine (papermilllaw14_few.calls _ _ l0 false _ ?side1 ?side2 A2.out).mono ?_); (case side1 => repeat (first | exact HR0.out | (with_reducible refine Kd.C_alloc ?_ _) | (with_reducible refine Kd.C_drewN ?_ _) | (with_reducible refine Kd.C_drew ?_))); (case side2 => exact HC0.out); rintro e w' ⟨rfl, ⟨nd, rfl⟩⟩; refine ⟨_, rfl, ?_⟩) | (go_at_call 12; (with_reducible refine (papermilllaw14_awake.calls k  true _ A13.out).mono ?_); rintro e w15 ⟨rfl, hb⟩; have n0_ := Aside0.mk (below_step (by repeat (first | (with_reducible first | exact HB.out | apply below_alloc | apply pw_below_drewN | apply below_drew1) | exact HB.out)) hb); clear HB; have HB := n0_; clear n0_; (try clear hb); (try clear hb2); (try clear hk); (try clear hi)))
      go_ret
      exact ⟨by first | rfl | (simp [errW_none, errW_some] <;> rfl) | (simp [*, errW_none, errW_some] <;> rfl), by repeat (first | (with_reducible first | exact HB.out | apply below_alloc | apply pw_below_drewN | apply below_drew1) | exact HB.out)⟩
    · replace c14 := Bool.eq_false_iff.mpr c14
      subst c14
      exact absurd (awake_only k false A13.out) (by decide)
end Go.Proofs.Ythdjlejljipjmaa.P
