-- Written by a program (wip/prog/pp.py) over the kit's print; some of its functions are proved by hand. Not trusted: Lean checks it.
import Derived.Test.YteibjgfeaimaiaaPx0
import Derived.Test.YteibjgfeaimaiaaPx5
import Derived.Test.YteibjgfeaimaiaaPx6
import Derived.Test.YteibjgfeaimaiaaPx15
import Derived.Test.YteibjgfeaimaiaaPx16
import Derived.Test.YteibjgfeaimaiaaHandRefMul
namespace Go.Proofs.Yteibjgfeaimaiaa.P
open Go.RowKit Go.Proofs.YteibjgfeaimaiaaW.PrintWords Go.Proofs.YteibjgfeaimaiaaW.PrintLast Go.Proofs.YteibjgfeaimaiaaW.PrintMore
attribute [local go_sem] max2_int min2_int max_two min_two max_three min_three max_four min_four   -- for this text's walks alone
set_option linter.unusedVariables false
set_option linter.unusedSimpArgs false

/-! ### papermilllaw01_NumAdds: function 10 -/
def papermilllaw01_NumAdds.f (k : Nat) (a0 : Int) (a1 : Int) : Option (Bool) := (num_Add.f k a0 a1).bind fun bt254 => ((papermillref01_Add.f a0 a1).bind fun bt256 => ((num_Sub.f k a0 a1).bind fun bt258 => ((papermillref01_Sub.f a0 a1).bind fun bt260 => ((num_Mul.f a0 a1).bind fun bt262 => ((papermillref01_Mul.f a0 a1).bind fun bt264 => (if bt254.1 = bt256.1 then (if bt254.2 = bt256.2 then (if bt258.1 = bt260.1 then (if bt258.2 = bt260.2 then (if bt262.1 = bt264.1 then (if bt262.2 = bt264.2 then ((papermilllaw01_awake.f k).bind fun t266 => (some t266)) else (some false)) else (some false)) else (some false)) else (some false)) else (some false)) else (some false)))))))
theorem papermilllaw01_NumAdds.mono : ∀ a0 a1 k, LeO (papermilllaw01_NumAdds.f k a0 a1) (papermilllaw01_NumAdds.f (k + 1) a0 a1) := by
  intro a0 a1 k
  unfold papermilllaw01_NumAdds.f
  repeat' first
      | (with_reducible exact num_Add.mono _ _ _)
      | (with_reducible exact num_Sub.mono _ _ _)
      | (with_reducible exact papermilllaw01_awake.mono _)
      | (with_reducible exact LeO.refl _)
      | (with_reducible exact LeO.none _)
      | (with_reducible refine LeO.ite ?_ ?_)
      | (with_reducible refine LeO.bind ?_ (fun _ => ?_))
      | exact num_Add.mono _ _ _
      | exact num_Sub.mono _ _ _
      | exact papermilllaw01_awake.mono _
      | exact LeO.none _
      | refine LeO.ite ?_ ?_
      | refine LeO.bind ?_ (fun _ => ?_)
set_option maxHeartbeats 8000000 in
set_option maxRecDepth 100000 in
theorem papermilllaw01_NumAdds.calls (k : Nat) (a0 : Int) (a1 : Int) (r : Bool) (w : World) (hr_ : Aside0 (r = true)) (h : papermilllaw01_NumAdds.f k a0 a1 = some r) :
    Calls Try.prog 10 #[.int .i64 a0, .int .i64 a1] w fun e w' => e = .returned (.bool r) ∧ Below w.heap.size w w' := by
  have HB := Aside0.mk (Below.refl w.heap.size w)
  have H : ((num_Add.f k a0 a1).bind fun bt254 => ((papermillref01_Add.f a0 a1).bind fun bt256 => ((num_Sub.f k a0 a1).bind fun bt258 => ((papermillref01_Sub.f a0 a1).bind fun bt260 => ((num_Mul.f a0 a1).bind fun bt262 => ((papermillref01_Mul.f a0 a1).bind fun bt264 => (if bt254.1 = bt256.1 then (if bt254.2 = bt256.2 then (if bt258.1 = bt260.1 then (if bt258.2 = bt260.2 then (if bt262.1 = bt264.1 then (if bt262.2 = bt264.2 then ((papermilllaw01_awake.f k).bind fun t266 => (some t266)) else (some false)) else (some false)) else (some false)) else (some false)) else (some false)) else (some false)))))))) = some r := h
  clear h
  replace H := Option.bind_eq_some_iff.mp H
  obtain ⟨⟨t254, t255⟩, A30, H⟩ := H
  replace H : ((papermillref01_Add.f a0 a1).bind fun bt256 => ((num_Sub.f k a0 a1).bind fun bt258 => ((papermillref01_Sub.f a0 a1).bind fun bt260 => ((num_Mul.f a0 a1).bind fun bt262 => ((papermillref01_Mul.f a0 a1).bind fun bt264 => (if t254 = bt256.1 then (if t255 = bt256.2 then (if bt258.1 = bt260.1 then (if bt258.2 = bt260.2 then (if bt262.1 = bt264.1 then (if bt262.2 = bt264.2 then ((papermilllaw01_awake.f k).bind fun t266 => (some t266)) else (some false)) else (some false)) else (some false)) else (some false)) else (some false)) else (some false))))))) = some r := H
  have A3 := Aside0.mk A30
  clear A30
  replace H := Option.bind_eq_some_iff.mp H
  obtain ⟨⟨t256, t257⟩, A40, H⟩ := H
  replace H : ((num_Sub.f k a0 a1).bind fun bt258 => ((papermillref01_Sub.f a0 a1).bind fun bt260 => ((num_Mul.f a0 a1).bind fun bt262 => ((papermillref01_Mul.f a0 a1).bind fun bt264 => (if t254 = t256 then (if t255 = t257 then (if bt258.1 = bt260.1 then (if bt258.2 = bt260.2 then (if bt262.1 = bt264.1 then (if bt262.2 = bt264.2 then ((papermilllaw01_awake.f k).bind fun t266 => (some t266)) else (some false)) else (some false)) else (some false)) else (some false)) else (some false)) else (some false)))))) = some r := H
  have A4 := Aside0.mk A40
  clear A40
  replace H := Option.bind_eq_some_iff.mp H
  obtain ⟨⟨t258, t259⟩, A50, H⟩ := H
  replace H : ((papermillref01_Sub.f a0 a1).bind fun bt260 => ((num_Mul.f a0 a1).bind fun bt262 => ((papermillref01_Mul.f a0 a1).bind fun bt264 => (if t254 = t256 then (if t255 = t257 then (if t258 = bt260.1 then (if t259 = bt260.2 then (if bt262.1 = bt264.1 then (if bt262.2 = bt264.2 then ((papermilllaw01_awake.f k).bind fun t266 => (some t266)) else (some false)) else (some false)) else (some false)) else (some false)) else (some false)) else (some false))))) = some r := H
  have A5 := Aside0.mk A50
  clear A50
  replace H := Option.bind_eq_some_iff.mp H
  obtain ⟨⟨t260, t261⟩, A60, H⟩ := H
  replace H : ((num_Mul.f a0 a1).bind fun bt262 => ((papermillref01_Mul.f a0 a1).bind fun bt264 => (if t254 = t256 then (if t255 = t257 then (if t258 = t260 then (if t259 = t261 then (if bt262.1 = bt264.1 then (if bt262.2 = bt264.2 then ((papermilllaw01_awake.f k).bind fun t266 => (some t266)) else (some false)) else (some false)) else (some false)) else (some false)) else (some false)) else (some false)))) = some r := H
  have A6 := Aside0.mk A60
  clear A60
  replace H := Option.bind_eq_some_iff.mp H
  obtain ⟨⟨t262, t263⟩, A70, H⟩ := H
  replace H : ((papermillref01_Mul.f a0 a1).bind fun bt264 => (if t254 = t256 then (if t255 = t257 then (if t258 = t260 then (if t259 = t261 then (if t262 = bt264.1 then (if t263 = bt264.2 then ((papermilllaw01_awake.f k).bind fun t266 => (some t266)) else (some false)) else (some false)) else (some false)) else (some false)) else (some false)) else (some false))) = some r := H
  have A7 := Aside0.mk A70
  clear A70
  replace H := Option.bind_eq_some_iff.mp H
  obtain ⟨⟨t264, t265⟩, A80, H⟩ := H
  replace H : (if t254 = t256 then (if t255 = t257 then (if t258 = t260 then (if t259 = t261 then (if t262 = t264 then (if t263 = t265 then ((papermilllaw01_awake.f k).bind fun t266 => (some t266)) else (some false)) else (some false)) else (some false)) else (some false)) else (some false)) else (some false)) = some r := H
  have A8 := Aside0.mk A80
  clear A80
  by_cases c9 : t254 = t256
  · rw [if_pos c9] at H
    have c9b0 : (t254 == t256) = true := beq_iff_eq.mpr c9
    have c9b1 : (t254 != t256) = false := bne_eq_false_iff_eq.mpr c9
    clear c9
    by_cases c10 : t255 = t257
    · rw [if_pos c10] at H
      have c10b0 : (t255 == t257) = true := beq_iff_eq.mpr c10
      have c10b1 : (t255 != t257) = false := bne_eq_false_iff_eq.mpr c10
      clear c10
      by_cases c11 : t258 = t260
      · rw [if_pos c11] at H
        have c11b0 : (t258 == t260) = true := beq_iff_eq.mpr c11
        have c11b1 : (t258 != t260) = false := bne_eq_false_iff_eq.mpr c11
        clear c11
        by_cases c12 : t259 = t261
        · rw [if_pos c12] at H
          have c12b0 : (t259 == t261) = true := beq_iff_eq.mpr c12
          have c12b1 : (t259 != t261) = false := bne_eq_false_iff_eq.mpr c12
          clear c12
          by_cases c13 : t262 = t264
          · rw [if_pos c13] at H
            have c13b0 : (t262 == t264) = true := beq_iff_eq.mpr c13
            have c13b1 : (t262 != t264) = false := bne_eq_false_iff_eq.mpr c13
            clear c13
            by_cases c14 : t263 = t265
            · rw [if_pos c14] at H
              have c14b0 : (t263 == t265) = true := beq_iff_eq.mpr c14
              have c14b1 : (t263 != t265) = false := bne_eq_false_iff_eq.mpr c14
              clear c14
              replace H := Option.bind_eq_some_iff.mp H
              obtain ⟨t266, A150, H⟩ := H
              replace H : (some t266) = some r := H
              have A15 := Aside0.mk A150
              clear A150
              first
                | exact absurd ((Option.some.inj H).trans hr_.out) (by decide)
                | (skip
                   obtain rfl := Option.some.inj H
                   go_enter Try.func10, Try.ntmps10
                   go_wp2_with (first | ((with_reducible refine gate_callee (f := 21) rfl ?_); refine goesL_ (some 20) rfl rfl Try.func21 (by kernel_rfl) rfl #[.int .i64 a0, .int .i64 a1] rfl (by (try simp only [List.map_toArray, List.map_cons, List.map_nil]); first | done | rfl | (simp only [List.length_drop, List.length_take]; rfl)) ?_; (with_reducible refine (num_Add.calls k a0 a1 t254 t255 _ A3.out).mono ?_); rintro e w16 ⟨rfl, hb⟩; refine ⟨_, rfl, ?_⟩; have n0_ := Aside0.mk (below_step (by repeat (first | (with_reducible first | exact HB.out | apply below_alloc | apply pw_below_drewN | apply below_drew1) | exact HB.out)) hb); clear HB; have HB := n0_; clear n0_; (try clear hb); (try clear hb2); (try clear hk); (try clear hi)) | ((with_reducible refine gate_callee (f := 22) rfl ?_); refine goesL_ (some 26) rfl rfl Try.func22 (by kernel_rfl) rfl #[.int .i64 a0, .int .i64 a1] rfl (by (try simp only [List.map_toArray, List.map_cons, List.map_nil]); first | done | rfl | (simp only [List.length_drop, List.length_take]; rfl)) ?_; (with_reducible refine (papermillref01_Add.calls a0 a1 t256 t257 _ A4.out).mono ?_); rintro e w' ⟨rfl, ⟨nd, rfl⟩⟩; refine ⟨_, rfl, ?_⟩) | ((with_reducible refine gate_callee (f := 23) rfl ?_); refine goesL_ (some 32) rfl rfl Try.func23 (by kernel_rfl) rfl #[.int .i64 a0, .int .i64 a1] rfl (by (try simp only [List.map_toArray, List.map_cons, List.map_nil]); first | done | rfl | (simp only [List.length_drop, List.length_take]; rfl)) ?_; (with_reducible refine (num_Sub.calls k a0 a1 t258 t259 _ A5.out).mono ?_); rintro e w17 ⟨rfl, hb⟩; refine ⟨_, rfl, ?_⟩; have n0_ := Aside0.mk (below_step (by repeat (first | (with_reducible first | exact HB.out | apply below_alloc | apply pw_below_drewN | apply below_drew1) | exact HB.out)) hb); clear HB; have HB := n0_; clear n0_; (try clear hb); (try clear hb2); (try clear hk); (try clear hi)) | ((with_reducible refine gate_callee (f := 24) rfl ?_); refine goesL_ (some 38) rfl rfl Try.func24 (by kernel_rfl) rfl #[.int .i64 a0, .int .i64 a1] rfl (by (try simp only [List.map_toArray, List.map_cons, List.map_nil]); first | done | rfl | (simp only [List.length_drop, List.length_take]; rfl)) ?_; (with_reducible refine (papermillref01_Sub.calls a0 a1 t260 t261 _ A6.out).mono ?_); rintro e w' ⟨rfl, ⟨nd, rfl⟩⟩; refine ⟨_, rfl, ?_⟩) | ((with_reducible refine gate_callee (f := 25) rfl ?_); refine goesL_ (some 44) rfl rfl Try.func25 (by kernel_rfl) rfl #[.int .i64 a0, .int .i64 a1] rfl (by (try simp only [List.map_toArray, List.map_cons, List.map_nil]); first | done | rfl | (simp only [List.length_drop, List.length_take]; rfl)) ?_; (with_reducible refine (num_Mul.calls a0 a1 t262 t263 _ A7.out).mono ?_); rintro e w18 ⟨rfl, hb⟩; refine ⟨_, rfl, ?_⟩; have n0_ := Aside0.mk (below_step (by repeat (first | (with_reducible first | exact HB.out | apply below_alloc | apply pw_below_drewN | apply below_drew1) | exact HB.out)) hb); clear HB; have HB := n0_; clear n0_; (try clear hb); (try clear hb2); (try clear hk); (try clear hi)) | ((with_reducible refine gate_callee (f := 26) rfl ?_); refine goesL_ (some 50) rfl rfl Try.func26 (by kernel_rfl) rfl #[.int .i64 a0, .int .i64 a1] rfl (by (try simp only [List.map_toArray, List.map_cons, List.map_nil]); first | done | rfl | (simp only [List.length_drop, List.length_take]; rfl)) ?_; (with_reducible refine (papermillref01_Mul.calls a0 a1 t264 t265 _ A8.out).mono ?_); rintro e w' ⟨rfl, ⟨nd, rfl⟩⟩; refine ⟨_, rfl, ?_⟩) | (go_at_call 12; (with_reducible refine (papermilllaw01_awake.calls k  t266 _ A15.out).mono ?_); rintro e w19 ⟨rfl, hb⟩; have n0_ := Aside0.mk (below_step (by repeat (first | (with_reducible first | exact HB.out | apply below_alloc | apply pw_below_drewN | apply below_drew1) | exact HB.out)) hb); clear HB; have HB := n0_; clear n0_; (try clear hb); (try clear hb2); (try clear hk); (try clear hi)))
                   go_ret
                   exact ⟨by first | rfl | (simp [errW_none, errW_some] <;> rfl) | (simp [*, errW_none, errW_some] <;> rfl), by repeat (first | (with_reducible first | exact HB.out | apply below_alloc | apply pw_below_drewN | apply below_drew1) | exact HB.out)⟩)
            · rw [if_neg c14] at H
              have c14b0 : (t263 == t265) = false := beq_eq_false_iff_ne.mpr c14
              have c14b1 : (t263 != t265) = true := bne_iff_ne.mpr c14
              exact absurd ((Option.some.inj H).trans hr_.out) (by decide)
          · rw [if_neg c13] at H
            have c13b0 : (t262 == t264) = false := beq_eq_false_iff_ne.mpr c13
            have c13b1 : (t262 != t264) = true := bne_iff_ne.mpr c13
            exact absurd ((Option.some.inj H).trans hr_.out) (by decide)
        · rw [if_neg c12] at H
          have c12b0 : (t259 == t261) = false := beq_eq_false_iff_ne.mpr c12
          have c12b1 : (t259 != t261) = true := bne_iff_ne.mpr c12
          exact absurd ((Option.some.inj H).trans hr_.out) (by decide)
      · rw [if_neg c11] at H
        have c11b0 : (t258 == t260) = false := beq_eq_false_iff_ne.mpr c11
        have c11b1 : (t258 != t260) = true := bne_iff_ne.mpr c11
        exact absurd ((Option.some.inj H).trans hr_.out) (by decide)
    · rw [if_neg c10] at H
      have c10b0 : (t255 == t257) = false := beq_eq_false_iff_ne.mpr c10
      have c10b1 : (t255 != t257) = true := bne_iff_ne.mpr c10
      exact absurd ((Option.some.inj H).trans hr_.out) (by decide)
  · rw [if_neg c9] at H
    have c9b0 : (t254 == t256) = false := beq_eq_false_iff_ne.mpr c9
    have c9b1 : (t254 != t256) = true := bne_iff_ne.mpr c9
    exact absurd ((Option.some.inj H).trans hr_.out) (by decide)

/-- THE ONE PURE STATEMENT of papermilllaw01_NumAdds: yours. -/
def papermilllaw01_NumAdds.Pure : Prop := ∀ (a0 : Int) (a1 : Int), (Lit.int .i64 a0).wf = true → (Lit.int .i64 a1).wf = true → ∃ k, papermilllaw01_NumAdds.f k a0 a1 = some true
theorem papermilllaw01_NumAdds.walk (P : papermilllaw01_NumAdds.Pure) (a0 : Int) (a1 : Int) (w : World) (w0 : (Lit.int .i64 a0).wf = true) (w1 : (Lit.int .i64 a1).wf = true) :
    Calls Try.prog 10 #[.int .i64 a0, .int .i64 a1] w fun e w' => e = .returned (.bool true) ∧ Below w.heap.size w w' := by
  obtain ⟨k, h⟩ := P a0 a1 w0 w1
  refine (papermilllaw01_NumAdds.calls k a0 a1 true w ⟨rfl⟩ h).mono ?_
  rintro e w' ⟨rfl, hd⟩
  exact ⟨rfl, hd⟩

end Go.Proofs.Yteibjgfeaimaiaa.P
