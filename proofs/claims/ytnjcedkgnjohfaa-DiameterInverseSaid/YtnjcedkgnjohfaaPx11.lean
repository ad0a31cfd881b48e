-- Written by a program (wip/prog/pp.py) over the kit's print; some of its functions are proved by hand. Not trusted: Lean checks it.
import Derived.Test.YtnjcedkgnjohfaaPx0
import Derived.Test.YtnjcedkgnjohfaaPx7
import Derived.Test.YtnjcedkgnjohfaaHandDia
namespace Go.Proofs.Ytnjcedkgnjohfaa.P
open Go.RowKit Go.Proofs.YtnjcedkgnjohfaaW.PrintWords Go.Proofs.YtnjcedkgnjohfaaW.PrintLast Go.Proofs.YtnjcedkgnjohfaaW.PrintMore
attribute [local go_sem] max2_int min2_int max_two min_two max_three min_three max_four min_four   -- for this text's walks alone
set_option linter.unusedVariables false
set_option linter.unusedSimpArgs false

/-! ### papermilllaw37_DiameterInverse: function 5 -/
mutual
def papermilllaw37_DiameterInverse.j0 : Nat → Int → Int → Int → Int → Bool → Option (Bool)
  | 0, _, _, _, _, _ => none
  | k + 1, x0, x1, x2, x7, x60 => if x60 = true then (some false) else ((diameter_Length.f k x0 x7 x2).bind fun bt162 => (if bt162.2 = 0 then (papermilllaw37_DiameterInverse.j1 k x0 x1 x2 x7 bt162.1 (decide (bt162.1 < x1))) else (papermilllaw37_DiameterInverse.j1 k x0 x1 x2 x7 bt162.1 true)))
def papermilllaw37_DiameterInverse.j1 : Nat → Int → Int → Int → Int → Int → Bool → Option (Bool)
  | 0, _, _, _, _, _, _ => none
  | k + 1, x0, x1, x2, x7, x11, x74 => if x74 = true then (some false) else (if x7 > x0 then ((diameter_Length.f k x0 (wrap64 (x7 - 1)) x2).bind fun bt164 => (if bt164.2 = 0 then (papermilllaw37_DiameterInverse.j2 k x0 x2 x7 x11 (decide (bt164.1 ≥ x1))) else (papermilllaw37_DiameterInverse.j2 k x0 x2 x7 x11 true))) else ((diameter_Dia.f x0 x11 x2).bind fun bt172 => (if bt172.2 = 0 then (if bt172.1 ≤ x7 then (if bt172.1 ≥ x0 then ((papermilllaw37_awake.f k).bind fun t174 => (some t174)) else (if x11 > 17179869184 then ((papermilllaw37_awake.f k).bind fun t175 => (some t175)) else (some false))) else (if x11 > 17179869184 then ((papermilllaw37_awake.f k).bind fun t176 => (some t176)) else (some false))) else (if x11 > 17179869184 then ((papermilllaw37_awake.f k).bind fun t177 => (some t177)) else (some false)))))
def papermilllaw37_DiameterInverse.j2 : Nat → Int → Int → Int → Int → Bool → Option (Bool)
  | 0, _, _, _, _, _ => none
  | k + 1, x0, x2, x7, x11, x92 => if x92 = true then (some false) else ((diameter_Dia.f x0 x11 x2).bind fun bt166 => (if bt166.2 = 0 then (if bt166.1 ≤ x7 then (if bt166.1 ≥ x0 then ((papermilllaw37_awake.f k).bind fun t168 => (some t168)) else (if x11 > 17179869184 then ((papermilllaw37_awake.f k).bind fun t169 => (some t169)) else (some false))) else (if x11 > 17179869184 then ((papermilllaw37_awake.f k).bind fun t170 => (some t170)) else (some false))) else (if x11 > 17179869184 then ((papermilllaw37_awake.f k).bind fun t171 => (some t171)) else (some false))))
end
def papermilllaw37_DiameterInverse.f (k : Nat) (a0 : Int) (a1 : Int) (a2 : Int) : Option (Bool) := (diameter_Dia.f a0 a1 a2).bind fun bt156 => (if bt156.2 = 0 then (if bt156.1 < a0 then (papermilllaw37_DiameterInverse.j0 k a0 a1 a2 bt156.1 true) else (if bt156.1 > 2500 then (papermilllaw37_DiameterInverse.j0 k a0 a1 a2 bt156.1 true) else (papermilllaw37_DiameterInverse.j0 k a0 a1 a2 bt156.1 (decide (bt156.1 < 1))))) else ((diameter_Length.f k a0 2500 a2).bind fun bt158 => (if bt156.1 = 0 then (if bt156.2 = 32 then (if bt158.2 = 0 then (if bt158.1 < a1 then ((papermilllaw37_awake.f k).bind fun t160 => (some t160)) else (some false)) else (some false)) else ((papermilllaw37_awake.f k).bind fun t161 => (some t161))) else (some false))))
theorem papermilllaw37_DiameterInverse.mono_l : ∀ k, (∀ y0 y1 y2 y3 y4, LeO (papermilllaw37_DiameterInverse.j0 k y0 y1 y2 y3 y4) (papermilllaw37_DiameterInverse.j0 (k + 1) y0 y1 y2 y3 y4)) ∧ (∀ y0 y1 y2 y3 y4 y5, LeO (papermilllaw37_DiameterInverse.j1 k y0 y1 y2 y3 y4 y5) (papermilllaw37_DiameterInverse.j1 (k + 1) y0 y1 y2 y3 y4 y5)) ∧ (∀ y0 y1 y2 y3 y4, LeO (papermilllaw37_DiameterInverse.j2 k y0 y1 y2 y3 y4) (papermilllaw37_DiameterInverse.j2 (k + 1) y0 y1 y2 y3 y4))
  | 0 => ⟨fun _ _ _ _ _ r h => by simp [papermilllaw37_DiameterInverse.j0] at h, fun _ _ _ _ _ _ r h => by simp [papermilllaw37_DiameterInverse.j1] at h, fun _ _ _ _ _ r h => by simp [papermilllaw37_DiameterInverse.j2] at h⟩
  | k + 1 => by
    obtain ⟨ih0, ih1, ih2⟩ := papermilllaw37_DiameterInverse.mono_l k
    refine ⟨?_, ?_, ?_⟩
    · intro y0 y1 y2 y3 y4
      unfold papermilllaw37_DiameterInverse.j0
      repeat' first
      | (with_reducible exact ih0 _ _ _ _ _)
      | (with_reducible exact ih1 _ _ _ _ _ _)
      | (with_reducible exact ih2 _ _ _ _ _)
      | (with_reducible exact diameter_Length.mono _ _ _ _)
      | (with_reducible exact papermilllaw37_awake.mono _)
      | (with_reducible exact LeO.refl _)
      | (with_reducible exact LeO.none _)
      | (with_reducible refine LeO.ite ?_ ?_)
      | (with_reducible refine LeO.bind ?_ (fun _ => ?_))
      | exact ih0 _ _ _ _ _
      | exact ih1 _ _ _ _ _ _
      | exact ih2 _ _ _ _ _
      | exact diameter_Length.mono _ _ _ _
      | exact papermilllaw37_awake.mono _
      | exact LeO.none _
      | refine LeO.ite ?_ ?_
      | refine LeO.bind ?_ (fun _ => ?_)
    · intro y0 y1 y2 y3 y4 y5
      unfold papermilllaw37_DiameterInverse.j1
      repeat' first
      | (with_reducible exact ih0 _ _ _ _ _)
      | (with_reducible exact ih1 _ _ _ _ _ _)
      | (with_reducible exact ih2 _ _ _ _ _)
      | (with_reducible exact diameter_Length.mono _ _ _ _)
      | (with_reducible exact papermilllaw37_awake.mono _)
      | (with_reducible exact LeO.refl _)
      | (with_reducible exact LeO.none _)
      | (with_reducible refine LeO.ite ?_ ?_)
      | (with_reducible refine LeO.bind ?_ (fun _ => ?_))
      | exact ih0 _ _ _ _ _
      | exact ih1 _ _ _ _ _ _
      | exact ih2 _ _ _ _ _
      | exact diameter_Length.mono _ _ _ _
      | exact papermilllaw37_awake.mono _
      | exact LeO.none _
      | refine LeO.ite ?_ ?_
      | refine LeO.bind ?_ (fun _ => ?_)
    · intro y0 y1 y2 y3 y4
      unfold papermilllaw37_DiameterInverse.j2
      repeat' first
      | (with_reducible exact ih0 _ _ _ _ _)
      | (with_reducible exact ih1 _ _ _ _ _ _)
      | (with_reducible exact ih2 _ _ _ _ _)
      | (with_reducible exact diameter_Length.mono _ _ _ _)
      | (with_reducible exact papermilllaw37_awake.mono _)
      | (with_reducible exact LeO.refl _)
      | (with_reducible exact LeO.none _)
      | (with_reducible refine LeO.ite ?_ ?_)
      | (with_reducible refine LeO.bind ?_ (fun _ => ?_))
      | exact ih0 _ _ _ _ _
      | exact ih1 _ _ _ _ _ _
      | exact ih2 _ _ _ _ _
      | exact diameter_Length.mono _ _ _ _
      | exact papermilllaw37_awake.mono _
      | exact LeO.none _
      | refine LeO.ite ?_ ?_
      | refine LeO.bind ?_ (fun _ => ?_)
theorem papermilllaw37_DiameterInverse.mono : ∀ a0 a1 a2 k, LeO (papermilllaw37_DiameterInverse.f k a0 a1 a2) (papermilllaw37_DiameterInverse.f (k + 1) a0 a1 a2) := by
  intro a0 a1 a2 k
  obtain ⟨ih0, ih1, ih2⟩ := papermilllaw37_DiameterInverse.mono_l k
  unfold papermilllaw37_DiameterInverse.f
  repeat' first
      | (with_reducible exact ih0 _ _ _ _ _)
      | (with_reducible exact ih1 _ _ _ _ _ _)
      | (with_reducible exact ih2 _ _ _ _ _)
      | (with_reducible exact diameter_Length.mono _ _ _ _)
      | (with_reducible exact papermilllaw37_awake.mono _)
      | (with_reducible exact LeO.refl _)
      | (with_reducible exact LeO.none _)
      | (with_reducible refine LeO.ite ?_ ?_)
      | (with_reducible refine LeO.bind ?_ (fun _ => ?_))
      | exact ih0 _ _ _ _ _
      | exact ih1 _ _ _ _ _ _
      | exact ih2 _ _ _ _ _
      | exact diameter_Length.mono _ _ _ _
      | exact papermilllaw37_awake.mono _
      | exact LeO.none _
      | refine LeO.ite ?_ ?_
      | refine LeO.bind ?_ (fun _ => ?_)
set_option maxHeartbeats 8000000 in
set_option maxRecDepth 100000 in
theorem papermilllaw37_DiameterInverse.calls (k : Nat) (a0 : Int) (a1 : Int) (a2 : Int) (r : Bool) (w : World) (hr_ : Aside0 (r = true)) (h : papermilllaw37_DiameterInverse.f k a0 a1 a2 = some r) :
    Calls Try.prog 5 #[.int .i64 a0, .int .i64 a1, .int .i64 a2] w fun e w' => e = .returned (.bool r) ∧ Below w.heap.size w w' := by
  have HB := Aside0.mk (Below.refl w.heap.size w)
  have H : ((diameter_Dia.f a0 a1 a2).bind fun bt156 => (if bt156.2 = 0 then (if bt156.1 < a0 then (papermilllaw37_DiameterInverse.j0 k a0 a1 a2 bt156.1 true) else (if bt156.1 > 2500 then (papermilllaw37_DiameterInverse.j0 k a0 a1 a2 bt156.1 true) else (papermilllaw37_DiameterInverse.j0 k a0 a1 a2 bt156.1 (decide (bt156.1 < 1))))) else ((diameter_Length.f k a0 2500 a2).bind fun bt158 => (if bt156.1 = 0 then (if bt156.2 = 32 then (if bt158.2 = 0 then (if bt158.1 < a1 then ((papermilllaw37_awake.f k).bind fun t160 => (some t160)) else (some false)) else (some false)) else ((papermilllaw37_awake.f k).bind fun t161 => (some t161))) else (some false))))) = some r := h
  clear h
  replace H := Option.bind_eq_some_iff.mp H
  obtain ⟨⟨t156, t157⟩, A40, H⟩ := H
  replace H : (if t157 = 0 then (if t156 < a0 then (papermilllaw37_DiameterInverse.j0 k a0 a1 a2 t156 true) else (if t156 > 2500 then (papermilllaw37_DiameterInverse.j0 k a0 a1 a2 t156 true) else (papermilllaw37_DiameterInverse.j0 k a0 a1 a2 t156 (decide (t156 < 1))))) else ((diameter_Length.f k a0 2500 a2).bind fun bt158 => (if t156 = 0 then (if t157 = 32 then (if bt158.2 = 0 then (if bt158.1 < a1 then ((papermilllaw37_awake.f k).bind fun t160 => (some t160)) else (some false)) else (some false)) else ((papermilllaw37_awake.f k).bind fun t161 => (some t161))) else (some false)))) = some r := H
  have A4 := Aside0.mk A40
  clear A40
  by_cases c5 : t157 = 0
  · rw [if_pos c5] at H
    have c5b0 : (t157 == 0) = true := beq_iff_eq.mpr c5
    have c5b1 : (t157 != 0) = false := bne_eq_false_iff_eq.mpr c5
    clear c5
    have HC6 := Aside0.mk H
    clear H
    go_enter Try.func5, Try.ntmps5
    go_upto_region 5 with (first | ((with_reducible refine gate_callee (f := 10) rfl ?_); refine goesL_ (some 21) rfl rfl Try.func10 (by kernel_rfl) rfl #[.int .i64 a0, .int .i64 a1, .int .i64 a2] rfl (by (try simp only [List.map_toArray, List.map_cons, List.map_nil]); first | done | rfl | (simp only [List.length_drop, List.length_take]; rfl)) ?_; (with_reducible refine (diameter_Dia.calls a0 a1 a2 t156 t157 _ A4.out).mono ?_); rintro e w7 ⟨rfl, hb⟩; refine ⟨_, rfl, ?_⟩; have n0_ := Aside0.mk (below_step (by repeat (first | (with_reducible first | exact HB.out | apply below_alloc | apply pw_below_drewN | apply below_drew1) | exact HB.out)) hb); clear HB; have HB := n0_; clear n0_; (try clear hb); (try clear hb2); (try clear hk); (try clear hi)))
    (try simp only [Act.put, List.setIfInBounds_toArray, List.set_cons_zero, List.set_cons_succ])
    go_cut [60] (fun v60 wc => ∃ (kq : Nat) (x60_5 : Bool), v60 = .bool x60_5 ∧ Aside0 (papermilllaw37_DiameterInverse.j0 kq a0 a1 a2 t156 x60_5 = some r) ∧ Aside0 (kq ≤ k) ∧ Aside0 (Below w.heap.size w wc))
    case first =>
      have H := HC6.out
      clear HC6
      by_cases c8 : t156 < a0
      · rw [if_pos c8] at H
        have c8b0 : decide (t156 < a0) = true := decide_eq_true c8
        clear c8
        (first | rw [c8b0] | (simp only [i64_w, i32_w]; rw [c8b0]) | skip)
        have H' := Aside0.mk H
        clear H
        go_wp2
        go_meet
        case rel => exact ⟨_, (true), (by first | rfl | (simp; done) | (simp [*]; done)), H', ⟨by first | omega | exact Nat.le_refl _⟩, ⟨by repeat (first | (with_reducible first | exact HB.out | apply below_alloc | apply pw_below_drewN | apply below_drew1) | exact HB.out)⟩⟩
      · rw [if_neg c8] at H
        have c8b0 : decide (t156 < a0) = false := decide_eq_false c8
        clear c8
        (first | rw [c8b0] | (simp only [i64_w, i32_w]; rw [c8b0]) | skip)
        by_cases c9 : t156 > 2500
        · rw [if_pos c9] at H
          have c9b0 : decide (2500 < t156) = true := decide_eq_true c9
          clear c9
          have H' := Aside0.mk H
          clear H
          go_wp2
          go_meet
          case rel => exact ⟨_, (true), (by first | rfl | (simp; done) | (simp [*]; done)), H', ⟨by first | omega | exact Nat.le_refl _⟩, ⟨by repeat (first | (with_reducible first | exact HB.out | apply below_alloc | apply pw_below_drewN | apply below_drew1) | exact HB.out)⟩⟩
        · rw [if_neg c9] at H
          have c9b0 : decide (2500 < t156) = false := decide_eq_false c9
          clear c9
          have H' := Aside0.mk H
          clear H
          go_wp2
          go_meet
          case rel => exact ⟨_, (decide (t156 < 1)), (by first | rfl | (simp; done) | (simp [*]; done)), H', ⟨by first | omega | exact Nat.le_refl _⟩, ⟨by repeat (first | (with_reducible first | exact HB.out | apply below_alloc | apply pw_below_drewN | apply below_drew1) | exact HB.out)⟩⟩
    case rest =>
      clear HC6
      try clear c1
      try clear p2
      try clear c5
      try clear c5b0
      try clear c5b1
      try clear c8
      try clear c8b0
      try clear c9
      try clear c9b0
      obtain ⟨kq, x60_5, rfl, HA, HJ5, HB⟩ := hcut
      cases kq with
      | zero => exact absurd HA.out (by simp [papermilllaw37_DiameterInverse.j0])
      | succ kj5 =>
        have H := HA.out
        clear HA
        simp only [papermilllaw37_DiameterInverse.j0] at H
        by_cases c10 : x60_5 = true
        · subst c10
          have H1 : (some false) = some r := by rw [if_pos rfl] at H; exact H
          clear H
          have H := H1
          clear H1
          exact absurd ((Option.some.inj H).trans hr_.out) (by decide)
        · replace c10 := Bool.eq_false_iff.mpr c10
          subst c10
          have H1 : ((diameter_Length.f kj5 a0 t156 a2).bind fun bt162 => (if bt162.2 = 0 then (papermilllaw37_DiameterInverse.j1 kj5 a0 a1 a2 t156 bt162.1 (decide (bt162.1 < a1))) else (papermilllaw37_DiameterInverse.j1 kj5 a0 a1 a2 t156 bt162.1 true))) = some r := by rw [if_neg (show ¬ (false = true) by decide)] at H; exact H
          clear H
          have H := H1
          clear H1
          replace H := Option.bind_eq_some_iff.mp H
          obtain ⟨⟨t162, t163⟩, A110, H⟩ := H
          replace H : (if t163 = 0 then (papermilllaw37_DiameterInverse.j1 kj5 a0 a1 a2 t156 t162 (decide (t162 < a1))) else (papermilllaw37_DiameterInverse.j1 kj5 a0 a1 a2 t156 t162 true)) = some r := H
          have A11 := Aside0.mk A110
          clear A110
          have HC12 := Aside0.mk H
          clear H
          go_upto_region 8 with (first | ((with_reducible refine gate_callee (f := 15) rfl ?_); refine goesL_ (some 65) rfl rfl Try.func15 (by kernel_rfl) rfl #[.int .i64 a0, .int .i64 t156, .int .i64 a2] rfl (by (try simp only [List.map_toArray, List.map_cons, List.map_nil]); first | done | rfl | (simp only [List.length_drop, List.length_take]; rfl)) ?_; (with_reducible refine (diameter_Length.calls kj5 a0 t156 a2 t162 t163 _ A11.out).mono ?_); rintro e w' ⟨rfl, ⟨nd, rfl⟩⟩; refine ⟨_, rfl, ?_⟩))
          (try simp only [Act.put, List.setIfInBounds_toArray, List.set_cons_zero, List.set_cons_succ])
          go_cut [74] (fun v74 wc => ∃ (kq : Nat) (x74_11 : Bool), v74 = .bool x74_11 ∧ Aside0 (papermilllaw37_DiameterInverse.j1 kq a0 a1 a2 t156 t162 x74_11 = some r) ∧ Aside0 (kq ≤ kj5) ∧ Aside0 (Below w.heap.size w wc))
          case first =>
            have H := HC12.out
            clear HC12
            by_cases c13 : t163 = 0
            · rw [if_pos c13] at H
              have c13b0 : (t163 == 0) = true := beq_iff_eq.mpr c13
              have c13b1 : (t163 != 0) = false := bne_eq_false_iff_eq.mpr c13
              clear c13
              (first | rw [c13b0] | (simp only [i64_w, i32_w]; rw [c13b0]) | skip)
              have H' := Aside0.mk H
              clear H
              go_wp2
              go_meet
              case rel => exact ⟨_, (decide (t162 < a1)), (by first | rfl | (simp; done) | (simp [*]; done)), H', ⟨by have := HJ5.out; first | omega | exact Nat.le_refl _⟩, ⟨by repeat (first | (with_reducible first | exact HB.out | apply below_alloc | apply pw_below_drewN | apply below_drew1) | exact HB.out)⟩⟩
            · rw [if_neg c13] at H
              have c13b0 : (t163 == 0) = false := beq_eq_false_iff_ne.mpr c13
              have c13b1 : (t163 != 0) = true := bne_iff_ne.mpr c13
              (first | rw [c13b0] | (simp only [i64_w, i32_w]; rw [c13b0]) | skip)
              have H' := Aside0.mk H
              clear H
              go_wp2
              go_meet
              case rel => exact ⟨_, (true), (by first | rfl | (simp; done) | (simp [*]; done)), H', ⟨by have := HJ5.out; first | omega | exact Nat.le_refl _⟩, ⟨by repeat (first | (with_reducible first | exact HB.out | apply below_alloc | apply pw_below_drewN | apply below_drew1) | exact HB.out)⟩⟩
          case rest =>
            clear HC12
            try clear c1
            try clear p2
            try clear c5
            try clear c5b0
            try clear c5b1
            try clear c8
            try clear c8b0
            try clear c9
            try clear c9b0
            try clear c10
            try clear c13
            try clear c13b0
            try clear c13b1
            try clear p2
            obtain ⟨kq, x74_11, rfl, HA, HJ11, HB⟩ := hcut
            cases kq with
            | zero => exact absurd HA.out (by simp [papermilllaw37_DiameterInverse.j1])
            | succ kj11 =>
              have H := HA.out
              clear HA
              simp only [papermilllaw37_DiameterInverse.j1] at H
              by_cases c14 : x74_11 = true
              · subst c14
                have H1 : (some false) = some r := by rw [if_pos rfl] at H; exact H
                clear H
                have H := H1
                clear H1
                exact absurd ((Option.some.inj H).trans hr_.out) (by decide)
              · replace c14 := Bool.eq_false_iff.mpr c14
                subst c14
                have H1 : (if t156 > a0 then ((diameter_Length.f kj11 a0 (wrap64 (t156 - 1)) a2).bind fun bt164 => (if bt164.2 = 0 then (papermilllaw37_DiameterInverse.j2 kj11 a0 a2 t156 t162 (decide (bt164.1 ≥ a1))) else (papermilllaw37_DiameterInverse.j2 kj11 a0 a2 t156 t162 true))) else ((diameter_Dia.f a0 t162 a2).bind fun bt172 => (if bt172.2 = 0 then (if bt172.1 ≤ t156 then (if bt172.1 ≥ a0 then ((papermilllaw37_awake.f kj11).bind fun t174 => (some t174)) else (if t162 > 17179869184 then ((papermilllaw37_awake.f kj11).bind fun t175 => (some t175)) else (some false))) else (if t162 > 17179869184 then ((papermilllaw37_awake.f kj11).bind fun t176 => (some t176)) else (some false))) else (if t162 > 17179869184 then ((papermilllaw37_awake.f kj11).bind fun t177 => (some t177)) else (some false))))) = some r := by rw [if_neg (show ¬ (false = true) by decide)] at H; exact H
                clear H
                have H := H1
                clear H1
                by_cases c15 : t156 > a0
                · rw [if_pos c15] at H
                  have c15b0 : decide (a0 < t156) = true := decide_eq_true c15
                  clear c15
                  replace H := Option.bind_eq_some_iff.mp H
                  obtain ⟨⟨t164, t165⟩, A160, H⟩ := H
                  replace H : (if t165 = 0 then (papermilllaw37_DiameterInverse.j2 kj11 a0 a2 t156 t162 (decide (t164 ≥ a1))) else (papermilllaw37_DiameterInverse.j2 kj11 a0 a2 t156 t162 true)) = some r := H
                  have A16 := Aside0.mk A160
                  clear A160
                  have HC17 := Aside0.mk H
                  clear H
                  go_upto_region 12 with (first | ((with_reducible refine gate_callee (f := 15) rfl ?_); refine goesL_ (some 83) rfl rfl Try.func15 (by kernel_rfl) rfl #[.int .i64 a0, .int .i64 (wrap64 (t156 - 1)), .int .i64 a2] rfl (by (try simp only [List.map_toArray, List.map_cons, List.map_nil]); first | done | rfl | (simp only [List.length_drop, List.length_take]; rfl)) ?_; (with_reducible refine (diameter_Length.calls kj11 a0 (wrap64 (t156 - 1)) a2 t164 t165 _ A16.out).mono ?_); rintro e w' ⟨rfl, ⟨nd, rfl⟩⟩; refine ⟨_, rfl, ?_⟩))
                  (try simp only [Act.put, List.setIfInBounds_toArray, List.set_cons_zero, List.set_cons_succ])
                  go_cut [92] (fun v92 wc => ∃ (kq : Nat) (x92_16 : Bool), v92 = .bool x92_16 ∧ Aside0 (papermilllaw37_DiameterInverse.j2 kq a0 a2 t156 t162 x92_16 = some r) ∧ Aside0 (kq ≤ kj11) ∧ Aside0 (Below w.heap.size w wc))
                  case first =>
                    have H := HC17.out
                    clear HC17
                    by_cases c18 : t165 = 0
                    · rw [if_pos c18] at H
                      have c18b0 : (t165 == 0) = true := beq_iff_eq.mpr c18
                      have c18b1 : (t165 != 0) = false := bne_eq_false_iff_eq.mpr c18
                      clear c18
                      (first | rw [c18b0] | (simp only [i64_w, i32_w]; rw [c18b0]) | skip)
                      have H' := Aside0.mk H
                      clear H
                      go_wp2
                      go_meet
                      case rel => exact ⟨_, (decide (t164 ≥ a1)), (by first | rfl | (simp; done) | (simp [*]; done)), H', ⟨by have := HJ5.out; have := HJ11.out; first | omega | exact Nat.le_refl _⟩, ⟨by repeat (first | (with_reducible first | exact HB.out | apply below_alloc | apply pw_below_drewN | apply below_drew1) | exact HB.out)⟩⟩
                    · rw [if_neg c18] at H
                      have c18b0 : (t165 == 0) = false := beq_eq_false_iff_ne.mpr c18
                      have c18b1 : (t165 != 0) = true := bne_iff_ne.mpr c18
                      (first | rw [c18b0] | (simp only [i64_w, i32_w]; rw [c18b0]) | skip)
                      have H' := Aside0.mk H
                      clear H
                      go_wp2
                      go_meet
                      case rel => exact ⟨_, (true), (by first | rfl | (simp; done) | (simp [*]; done)), H', ⟨by have := HJ5.out; have := HJ11.out; first | omega | exact Nat.le_refl _⟩, ⟨by repeat (first | (with_reducible first | exact HB.out | apply below_alloc | apply pw_below_drewN | apply below_drew1) | exact HB.out)⟩⟩
                  case rest =>
                    clear HC17
                    try clear c1
                    try clear p2
                    try clear c5
                    try clear c5b0
                    try clear c5b1
                    try clear p6
                    try clear c8
                    try clear c8b0
                    try clear c9
                    try clear c9b0
                    try clear c10
                    try clear c13
                    try clear c13b0
                    try clear c13b1
                    try clear c14
                    try clear c15
                    try clear c15b0
                    try clear c18
                    try clear c18b0
                    try clear c18b1
                    try clear p2
                    obtain ⟨kq, x92_16, rfl, HA, HJ16, HB⟩ := hcut
                    cases kq with
                    | zero => exact absurd HA.out (by simp [papermilllaw37_DiameterInverse.j2])
                    | succ kj16 =>
                      have H := HA.out
                      clear HA
                      simp only [papermilllaw37_DiameterInverse.j2] at H
                      by_cases c19 : x92_16 = true
                      · subst c19
                        have H1 : (some false) = some r := by rw [if_pos rfl] at H; exact H
                        clear H
                        have H := H1
                        clear H1
                        exact absurd ((Option.some.inj H).trans hr_.out) (by decide)
                      · replace c19 := Bool.eq_false_iff.mpr c19
                        subst c19
                        have H1 : ((diameter_Dia.f a0 t162 a2).bind fun bt166 => (if bt166.2 = 0 then (if bt166.1 ≤ t156 then (if bt166.1 ≥ a0 then ((papermilllaw37_awake.f kj16).bind fun t168 => (some t168)) else (if t162 > 17179869184 then ((papermilllaw37_awake.f kj16).bind fun t169 => (some t169)) else (some false))) else (if t162 > 17179869184 then ((papermilllaw37_awake.f kj16).bind fun t170 => (some t170)) else (some false))) else (if t162 > 17179869184 then ((papermilllaw37_awake.f kj16).bind fun t171 => (some t171)) else (some false)))) = some r := by rw [if_neg (show ¬ (false = true) by decide)] at H; exact H
                        clear H
                        have H := H1
                        clear H1
                        replace H := Option.bind_eq_some_iff.mp H
                        obtain ⟨⟨t166, t167⟩, A200, H⟩ := H
                        replace H : (if t167 = 0 then (if t166 ≤ t156 then (if t166 ≥ a0 then ((papermilllaw37_awake.f kj16).bind fun t168 => (some t168)) else (if t162 > 17179869184 then ((papermilllaw37_awake.f kj16).bind fun t169 => (some t169)) else (some false))) else (if t162 > 17179869184 then ((papermilllaw37_awake.f kj16).bind fun t170 => (some t170)) else (some false))) else (if t162 > 17179869184 then ((papermilllaw37_awake.f kj16).bind fun t171 => (some t171)) else (some false))) = some r := H
                        have A20 := Aside0.mk A200
                        clear A200
                        by_cases c21 : t167 = 0
                        · rw [if_pos c21] at H
                          have c21b0 : (t167 == 0) = true := beq_iff_eq.mpr c21
                          have c21b1 : (t167 != 0) = false := bne_eq_false_iff_eq.mpr c21
                          clear c21
                          by_cases c22 : t166 ≤ t156
                          · rw [if_pos c22] at H
                            have c22b0 : decide (t166 ≤ t156) = true := decide_eq_true c22
                            clear c22
                            by_cases c23 : t166 ≥ a0
                            · rw [if_pos c23] at H
                              have c23b0 : decide (a0 ≤ t166) = true := decide_eq_true c23
                              clear c23
                              replace H := Option.bind_eq_some_iff.mp H
                              obtain ⟨t168, A240, H⟩ := H
                              replace H : (some t168) = some r := H
                              have A24 := Aside0.mk A240
                              clear A240
                              first
                                | exact absurd ((Option.some.inj H).trans hr_.out) (by decide)
                                | (skip
                                   obtain rfl := Option.some.inj H
                                   go_wp2_with (first | ((with_reducible refine gate_callee (f := 10) rfl ?_); refine goesL_ (some 97) rfl rfl Try.func10 (by kernel_rfl) rfl #[.int .i64 a0, .int .i64 t162, .int .i64 a2] rfl (by (try simp only [List.map_toArray, List.map_cons, List.map_nil]); first | done | rfl | (simp only [List.length_drop, List.length_take]; rfl)) ?_; (with_reducible refine (diameter_Dia.calls a0 t162 a2 t166 t167 _ A20.out).mono ?_); rintro e w25 ⟨rfl, hb⟩; refine ⟨_, rfl, ?_⟩; have n0_ := Aside0.mk (below_step (by repeat (first | (with_reducible first | exact HB.out | apply below_alloc | apply pw_below_drewN | apply below_drew1) | exact HB.out)) hb); clear HB; have HB := n0_; clear n0_; (try clear hb); (try clear hb2); (try clear hk); (try clear hi)) | (go_at_call 12; (with_reducible refine (papermilllaw37_awake.calls kj16  t168 _ A24.out).mono ?_); rintro e w26 ⟨rfl, hb⟩; have n0_ := Aside0.mk (below_step (by repeat (first | (with_reducible first | exact HB.out | apply below_alloc | apply pw_below_drewN | apply below_drew1) | exact HB.out)) hb); clear HB; have HB := n0_; clear n0_; (try clear hb); (try clear hb2); (try clear hk); (try clear hi)))
                                   go_ret
                                   exact ⟨by first | rfl | (simp [errW_none, errW_some] <;> rfl) | (simp [*, errW_none, errW_some] <;> rfl), by repeat (first | (with_reducible first | exact HB.out | apply below_alloc | apply pw_below_drewN | apply below_drew1) | exact HB.out)⟩)
                            · rw [if_neg c23] at H
                              have c23b0 : decide (a0 ≤ t166) = false := decide_eq_false c23
                              clear c23
                              by_cases c27 : t162 > 17179869184
                              · rw [if_pos c27] at H
                                have c27b0 : decide (17179869184 < t162) = true := decide_eq_true c27
                                clear c27
                                replace H := Option.bind_eq_some_iff.mp H
                                obtain ⟨t169, A280, H⟩ := H
                                replace H : (some t169) = some r := H
                                have A28 := Aside0.mk A280
                                clear A280
                                first
                                  | exact absurd ((Option.some.inj H).trans hr_.out) (by decide)
                                  | (skip
                                     obtain rfl := Option.some.inj H
                                     go_wp2_with (first | ((with_reducible refine gate_callee (f := 10) rfl ?_); refine goesL_ (some 97) rfl rfl Try.func10 (by kernel_rfl) rfl #[.int .i64 a0, .int .i64 t162, .int .i64 a2] rfl (by (try simp only [List.map_toArray, List.map_cons, List.map_nil]); first | done | rfl | (simp only [List.length_drop, List.length_take]; rfl)) ?_; (with_reducible refine (diameter_Dia.calls a0 t162 a2 t166 t167 _ A20.out).mono ?_); rintro e w29 ⟨rfl, hb⟩; refine ⟨_, rfl, ?_⟩; have n0_ := Aside0.mk (below_step (by repeat (first | (with_reducible first | exact HB.out | apply below_alloc | apply pw_below_drewN | apply below_drew1) | exact HB.out)) hb); clear HB; have HB := n0_; clear n0_; (try clear hb); (try clear hb2); (try clear hk); (try clear hi)) | (go_at_call 12; (with_reducible refine (papermilllaw37_awake.calls kj16  t169 _ A28.out).mono ?_); rintro e w30 ⟨rfl, hb⟩; have n0_ := Aside0.mk (below_step (by repeat (first | (with_reducible first | exact HB.out | apply below_alloc | apply pw_below_drewN | apply below_drew1) | exact HB.out)) hb); clear HB; have HB := n0_; clear n0_; (try clear hb); (try clear hb2); (try clear hk); (try clear hi)))
                                     go_ret
                                     exact ⟨by first | rfl | (simp [errW_none, errW_some] <;> rfl) | (simp [*, errW_none, errW_some] <;> rfl), by repeat (first | (with_reducible first | exact HB.out | apply below_alloc | apply pw_below_drewN | apply below_drew1) | exact HB.out)⟩)
                              · rw [if_neg c27] at H
                                have c27b0 : decide (17179869184 < t162) = false := decide_eq_false c27
                                clear c27
                                exact absurd ((Option.some.inj H).trans hr_.out) (by decide)
                          · rw [if_neg c22] at H
                            have c22b0 : decide (t166 ≤ t156) = false := decide_eq_false c22
                            clear c22
                            by_cases c32 : t162 > 17179869184
                            · rw [if_pos c32] at H
                              have c32b0 : decide (17179869184 < t162) = true := decide_eq_true c32
                              clear c32
                              replace H := Option.bind_eq_some_iff.mp H
                              obtain ⟨t170, A330, H⟩ := H
                              replace H : (some t170) = some r := H
                              have A33 := Aside0.mk A330
                              clear A330
                              first
                                | exact absurd ((Option.some.inj H).trans hr_.out) (by decide)
                                | (skip
                                   obtain rfl := Option.some.inj H
                                   go_wp2_with (first | ((with_reducible refine gate_callee (f := 10) rfl ?_); refine goesL_ (some 97) rfl rfl Try.func10 (by kernel_rfl) rfl #[.int .i64 a0, .int .i64 t162, .int .i64 a2] rfl (by (try simp only [List.map_toArray, List.map_cons, List.map_nil]); first | done | rfl | (simp only [List.length_drop, List.length_take]; rfl)) ?_; (with_reducible refine (diameter_Dia.calls a0 t162 a2 t166 t167 _ A20.out).mono ?_); rintro e w34 ⟨rfl, hb⟩; refine ⟨_, rfl, ?_⟩; have n0_ := Aside0.mk (below_step (by repeat (first | (with_reducible first | exact HB.out | apply below_alloc | apply pw_below_drewN | apply below_drew1) | exact HB.out)) hb); clear HB; have HB := n0_; clear n0_; (try clear hb); (try clear hb2); (try clear hk); (try clear hi)) | (go_at_call 12; (with_reducible refine (papermilllaw37_awake.calls kj16  t170 _ A33.out).mono ?_); rintro e w35 ⟨rfl, hb⟩; have n0_ := Aside0.mk (below_step (by repeat (first | (with_reducible first | exact HB.out | apply below_alloc | apply pw_below_drewN | apply below_drew1) | exact HB.out)) hb); clear HB; have HB := n0_; clear n0_; (try clear hb); (try clear hb2); (try clear hk); (try clear hi)))
                                   go_ret
                                   exact ⟨by first | rfl | (simp [errW_none, errW_some] <;> rfl) | (simp [*, errW_none, errW_some] <;> rfl), by repeat (first | (with_reducible first | exact HB.out | apply below_alloc | apply pw_below_drewN | apply below_drew1) | exact HB.out)⟩)
                            · rw [if_neg c32] at H
                              have c32b0 : decide (17179869184 < t162) = false := decide_eq_false c32
                              clear c32
                              exact absurd ((Option.some.inj H).trans hr_.out) (by decide)
                        · rw [if_neg c21] at H
                          have c21b0 : (t167 == 0) = false := beq_eq_false_iff_ne.mpr c21
                          have c21b1 : (t167 != 0) = true := bne_iff_ne.mpr c21
                          by_cases c37 : t162 > 17179869184
                          · rw [if_pos c37] at H
                            have c37b0 : decide (17179869184 < t162) = true := decide_eq_true c37
                            clear c37
                            replace H := Option.bind_eq_some_iff.mp H
                            obtain ⟨t171, A380, H⟩ := H
                            replace H : (some t171) = some r := H
                            have A38 := Aside0.mk A380
                            clear A380
                            first
                              | exact absurd ((Option.some.inj H).trans hr_.out) (by decide)
                              | (skip
                                 obtain rfl := Option.some.inj H
                                 go_wp2_with (first | ((with_reducible refine gate_callee (f := 10) rfl ?_); refine goesL_ (some 97) rfl rfl Try.func10 (by kernel_rfl) rfl #[.int .i64 a0, .int .i64 t162, .int .i64 a2] rfl (by (try simp only [List.map_toArray, List.map_cons, List.map_nil]); first | done | rfl | (simp only [List.length_drop, List.length_take]; rfl)) ?_; (with_reducible refine (diameter_Dia.calls a0 t162 a2 t166 t167 _ A20.out).mono ?_); rintro e w39 ⟨rfl, hb⟩; refine ⟨_, rfl, ?_⟩; have n0_ := Aside0.mk (below_step (by repeat (first | (with_reducible first | exact HB.out | apply below_alloc | apply pw_below_drewN | apply below_drew1) | exact HB.out)) hb); clear HB; have HB := n0_; clear n0_; (try clear hb); (try clear hb2); (try clear hk); (try clear hi)) | (go_at_call 12; (with_reducible refine (papermilllaw37_awake.calls kj16  t171 _ A38.out).mono ?_); rintro e w40 ⟨rfl, hb⟩; have n0_ := Aside0.mk (below_step (by repeat (first | (with_reducible first | exact HB.out | apply below_alloc | apply pw_below_drewN | apply below_drew1) | exact HB.out)) hb); clear HB; have HB := n0_; clear n0_; (try clear hb); (try clear hb2); (try clear hk); (try clear hi)))
                                 go_ret
                                 exact ⟨by first | rfl | (simp [errW_none, errW_some] <;> rfl) | (simp [*, errW_none, errW_some] <;> rfl), by repeat (first | (with_reducible first | exact HB.out | apply below_alloc | apply pw_below_drewN | apply below_drew1) | exact HB.out)⟩)
                          · rw [if_neg c37] at H
                            have c37b0 : decide (17179869184 < t162) = false := decide_eq_false c37
                            clear c37
                            exact absurd ((Option.some.inj H).trans hr_.out) (by decide)
                · rw [if_neg c15] at H
                  have c15b0 : decide (a0 < t156) = false := decide_eq_false c15
                  clear c15
                  replace H := Option.bind_eq_some_iff.mp H
                  obtain ⟨⟨t172, t173⟩, A420, H⟩ := H
                  replace H : (if t173 = 0 then (if t172 ≤ t156 then (if t172 ≥ a0 then ((papermilllaw37_awake.f kj11).bind fun t174 => (some t174)) else (if t162 > 17179869184 then ((papermilllaw37_awake.f kj11).bind fun t175 => (some t175)) else (some false))) else (if t162 > 17179869184 then ((papermilllaw37_awake.f kj11).bind fun t176 => (some t176)) else (some false))) else (if t162 > 17179869184 then ((papermilllaw37_awake.f kj11).bind fun t177 => (some t177)) else (some false))) = some r := H
                  have A42 := Aside0.mk A420
                  clear A420
                  by_cases c43 : t173 = 0
                  · rw [if_pos c43] at H
                    have c43b0 : (t173 == 0) = true := beq_iff_eq.mpr c43
                    have c43b1 : (t173 != 0) = false := bne_eq_false_iff_eq.mpr c43
                    clear c43
                    by_cases c44 : t172 ≤ t156
                    · rw [if_pos c44] at H
                      have c44b0 : decide (t172 ≤ t156) = true := decide_eq_true c44
                      clear c44
                      by_cases c45 : t172 ≥ a0
                      · rw [if_pos c45] at H
                        have c45b0 : decide (a0 ≤ t172) = true := decide_eq_true c45
                        clear c45
                        replace H := Option.bind_eq_some_iff.mp H
                        obtain ⟨t174, A460, H⟩ := H
                        replace H : (some t174) = some r := H
                        have A46 := Aside0.mk A460
                        clear A460
                        first
                          | exact absurd ((Option.some.inj H).trans hr_.out) (by decide)
                          | (skip
                             obtain rfl := Option.some.inj H
                             go_wp2_with (first | ((with_reducible refine gate_callee (f := 10) rfl ?_); refine goesL_ (some 97) rfl rfl Try.func10 (by kernel_rfl) rfl #[.int .i64 a0, .int .i64 t162, .int .i64 a2] rfl (by (try simp only [List.map_toArray, List.map_cons, List.map_nil]); first | done | rfl | (simp only [List.length_drop, List.length_take]; rfl)) ?_; (with_reducible refine (diameter_Dia.calls a0 t162 a2 t172 t173 _ A42.out).mono ?_); rintro e w47 ⟨rfl, hb⟩; refine ⟨_, rfl, ?_⟩; have n0_ := Aside0.mk (below_step (by repeat (first | (with_reducible first | exact HB.out | apply below_alloc | apply pw_below_drewN | apply below_drew1) | exact HB.out)) hb); clear HB; have HB := n0_; clear n0_; (try clear hb); (try clear hb2); (try clear hk); (try clear hi)) | (go_at_call 12; (with_reducible refine (papermilllaw37_awake.calls kj11  t174 _ A46.out).mono ?_); rintro e w48 ⟨rfl, hb⟩; have n0_ := Aside0.mk (below_step (by repeat (first | (with_reducible first | exact HB.out | apply below_alloc | apply pw_below_drewN | apply below_drew1) | exact HB.out)) hb); clear HB; have HB := n0_; clear n0_; (try clear hb); (try clear hb2); (try clear hk); (try clear hi)))
                             go_ret
                             exact ⟨by first | rfl | (simp [errW_none, errW_some] <;> rfl) | (simp [*, errW_none, errW_some] <;> rfl), by repeat (first | (with_reducible first | exact HB.out | apply below_alloc | apply pw_below_drewN | apply below_drew1) | exact HB.out)⟩)
                      · rw [if_neg c45] at H
                        have c45b0 : decide (a0 ≤ t172) = false := decide_eq_false c45
                        clear c45
                        by_cases c49 : t162 > 17179869184
                        · rw [if_pos c49] at H
                          have c49b0 : decide (17179869184 < t162) = true := decide_eq_true c49
                          clear c49
                          replace H := Option.bind_eq_some_iff.mp H
                          obtain ⟨t175, A500, H⟩ := H
                          replace H : (some t175) = some r := H
                          have A50 := Aside0.mk A500
                          clear A500
                          first
                            | exact absurd ((Option.some.inj H).trans hr_.out) (by decide)
                            | (skip
                               obtain rfl := Option.some.inj H
                               go_wp2_with (first | ((with_reducible refine gate_callee (f := 10) rfl ?_); refine goesL_ (some 97) rfl rfl Try.func10 (by kernel_rfl) rfl #[.int .i64 a0, .int .i64 t162, .int .i64 a2] rfl (by (try simp only [List.map_toArray, List.map_cons, List.map_nil]); first | done | rfl | (simp only [List.length_drop, List.length_take]; rfl)) ?_; (with_reducible refine (diameter_Dia.calls a0 t162 a2 t172 t173 _ A42.out).mono ?_); rintro e w51 ⟨rfl, hb⟩; refine ⟨_, rfl, ?_⟩; have n0_ := Aside0.mk (below_step (by repeat (first | (with_reducible first | exact HB.out | apply below_alloc | apply pw_below_drewN | apply below_drew1) | exact HB.out)) hb); clear HB; have HB := n0_; clear n0_; (try clear hb); (try clear hb2); (try clear hk); (try clear hi)) | (go_at_call 12; (with_reducible refine (papermilllaw37_awake.calls kj11  t175 _ A50.out).mono ?_); rintro e w52 ⟨rfl, hb⟩; have n0_ := Aside0.mk (below_step (by repeat (first | (with_reducible first | exact HB.out | apply below_alloc | apply pw_below_drewN | apply below_drew1) | exact HB.out)) hb); clear HB; have HB := n0_; clear n0_; (try clear hb); (try clear hb2); (try clear hk); (try clear hi)))
                               go_ret
                               exact ⟨by first | rfl | (simp [errW_none, errW_some] <;> rfl) | (simp [*, errW_none, errW_some] <;> rfl), by repeat (first | (with_reducible first | exact HB.out | apply below_alloc | apply pw_below_drewN | apply below_drew1) | exact HB.out)⟩)
                        · rw [if_neg c49] at H
                          have c49b0 : decide (17179869184 < t162) = false := decide_eq_false c49
                          clear c49
                          exact absurd ((Option.some.inj H).trans hr_.out) (by decide)
                    · rw [if_neg c44] at H
                      have c44b0 : decide (t172 ≤ t156) = false := decide_eq_false c44
                      clear c44
                      by_cases c54 : t162 > 17179869184
                      · rw [if_pos c54] at H
                        have c54b0 : decide (17179869184 < t162) = true := decide_eq_true c54
                        clear c54
                        replace H := Option.bind_eq_some_iff.mp H
                        obtain ⟨t176, A550, H⟩ := H
                        replace H : (some t176) = some r := H
                        have A55 := Aside0.mk A550
                        clear A550
                        first
                          | exact absurd ((Option.some.inj H).trans hr_.out) (by decide)
                          | (skip
                             obtain rfl := Option.some.inj H
                             go_wp2_with (first | ((with_reducible refine gate_callee (f := 10) rfl ?_); refine goesL_ (some 97) rfl rfl Try.func10 (by kernel_rfl) rfl #[.int .i64 a0, .int .i64 t162, .int .i64 a2] rfl (by (try simp only [List.map_toArray, List.map_cons, List.map_nil]); first | done | rfl | (simp only [List.length_drop, List.length_take]; rfl)) ?_; (with_reducible refine (diameter_Dia.calls a0 t162 a2 t172 t173 _ A42.out).mono ?_); rintro e w56 ⟨rfl, hb⟩; refine ⟨_, rfl, ?_⟩; have n0_ := Aside0.mk (below_step (by repeat (first | (with_reducible first | exact HB.out | apply below_alloc | apply pw_below_drewN | apply below_drew1) | exact HB.out)) hb); clear HB; have HB := n0_; clear n0_; (try clear hb); (try clear hb2); (try clear hk); (try clear hi)) | (go_at_call 12; (with_reducible refine (papermilllaw37_awake.calls kj11  t176 _ A55.out).mono ?_); rintro e w57 ⟨rfl, hb⟩; have n0_ := Aside0.mk (below_step (by repeat (first | (with_reducible first | exact HB.out | apply below_alloc | apply pw_below_drewN | apply below_drew1) | exact HB.out)) hb); clear HB; have HB := n0_; clear n0_; (try clear hb); (try clear hb2); (try clear hk); (try clear hi)))
                             go_ret
                             exact ⟨by first | rfl | (simp [errW_none, errW_some] <;> rfl) | (simp [*, errW_none, errW_some] <;> rfl), by repeat (first | (with_reducible first | exact HB.out | apply below_alloc | apply pw_below_drewN | apply below_drew1) | exact HB.out)⟩)
                      · rw [if_neg c54] at H
                        have c54b0 : decide (17179869184 < t162) = false := decide_eq_false c54
                        clear c54
                        exact absurd ((Option.some.inj H).trans hr_.out) (by decide)
                  · rw [if_neg c43] at H
                    have c43b0 : (t173 == 0) = false := beq_eq_false_iff_ne.mpr c43
                    have c43b1 : (t173 != 0) = true := bne_iff_ne.mpr c43
                    by_cases c59 : t162 > 17179869184
                    · rw [if_pos c59] at H
                      have c59b0 : decide (17179869184 < t162) = true := decide_eq_true c59
                      clear c59
                      replace H := Option.bind_eq_some_iff.mp H
                      obtain ⟨t177, A600, H⟩ := H
                      replace H : (some t177) = some r := H
                      have A60 := Aside0.mk A600
                      clear A600
                      first
                        | exact absurd ((Option.some.inj H).trans hr_.out) (by decide)
                        | (skip
                           obtain rfl := Option.some.inj H
                           go_wp2_with (first | ((with_reducible refine gate_callee (f := 10) rfl ?_); refine goesL_ (some 97) rfl rfl Try.func10 (by kernel_rfl) rfl #[.int .i64 a0, .int .i64 t162, .int .i64 a2] rfl (by (try simp only [List.map_toArray, List.map_cons, List.map_nil]); first | done | rfl | (simp only [List.length_drop, List.length_take]; rfl)) ?_; (with_reducible refine (diameter_Dia.calls a0 t162 a2 t172 t173 _ A42.out).mono ?_); rintro e w61 ⟨rfl, hb⟩; refine ⟨_, rfl, ?_⟩; have n0_ := Aside0.mk (below_step (by repeat (first | (with_reducible first | exact HB.out | apply below_alloc | apply pw_below_drewN | apply below_drew1) | exact HB.out)) hb); clear HB; have HB := n0_; clear n0_; (try clear hb); (try clear hb2); (try clear hk); (try clear hi)) | (go_at_call 12; (with_reducible refine (papermilllaw37_awake.calls kj11  t177 _ A60.out).mono ?_); rintro e w62 ⟨rfl, hb⟩; have n0_ := Aside0.mk (below_step (by repeat (first | (with_reducible first | exact HB.out | apply below_alloc | apply pw_below_drewN | apply below_drew1) | exact HB.out)) hb); clear HB; have HB := n0_; clear n0_; (try clear hb); (try clear hb2); (try clear hk); (try clear hi)))
                           go_ret
                           exact ⟨by first | rfl | (simp [errW_none, errW_some] <;> rfl) | (simp [*, errW_none, errW_some] <;> rfl), by repeat (first | (with_reducible first | exact HB.out | apply below_alloc | apply pw_below_drewN | apply below_drew1) | exact HB.out)⟩)
                    · rw [if_neg c59] at H
                      have c59b0 : decide (17179869184 < t162) = false := decide_eq_false c59
                      clear c59
                      exact absurd ((Option.some.inj H).trans hr_.out) (by decide)
  · rw [if_neg c5] at H
    have c5b0 : (t157 == 0) = false := beq_eq_false_iff_ne.mpr c5
    have c5b1 : (t157 != 0) = true := bne_iff_ne.mpr c5
    replace H := Option.bind_eq_some_iff.mp H
    obtain ⟨⟨t158, t159⟩, A640, H⟩ := H
    replace H : (if t156 = 0 then (if t157 = 32 then (if t159 = 0 then (if t158 < a1 then ((papermilllaw37_awake.f k).bind fun t160 => (some t160)) else (some false)) else (some false)) else ((papermilllaw37_awake.f k).bind fun t161 => (some t161))) else (some false)) = some r := H
    have A64 := Aside0.mk A640
    clear A640
    by_cases c65 : t156 = 0
    · rw [if_pos c65] at H
      have c65b0 : (t156 == 0) = true := beq_iff_eq.mpr c65
      have c65b1 : (t156 != 0) = false := bne_eq_false_iff_eq.mpr c65
      clear c65
      by_cases c66 : t157 = 32
      · rw [if_pos c66] at H
        have c66b0 : (t157 == 32) = true := beq_iff_eq.mpr c66
        have c66b1 : (t157 != 32) = false := bne_eq_false_iff_eq.mpr c66
        clear c66
        by_cases c67 : t159 = 0
        · rw [if_pos c67] at H
          have c67b0 : (t159 == 0) = true := beq_iff_eq.mpr c67
          have c67b1 : (t159 != 0) = false := bne_eq_false_iff_eq.mpr c67
          clear c67
          by_cases c68 : t158 < a1
          · rw [if_pos c68] at H
            have c68b0 : decide (t158 < a1) = true := decide_eq_true c68
            clear c68
            replace H := Option.bind_eq_some_iff.mp H
            obtain ⟨t160, A690, H⟩ := H
            replace H : (some t160) = some r := H
            have A69 := Aside0.mk A690
            clear A690
            first
              | exact absurd ((Option.some.inj H).trans hr_.out) (by decide)
              | (skip
                 obtain rfl := Option.some.inj H
                 go_enter Try.func5, Try.ntmps5
                 go_wp2_with (first | ((with_reducible refine gate_callee (f := 10) rfl ?_); refine goesL_ (some 21) rfl rfl Try.func10 (by kernel_rfl) rfl #[.int .i64 a0, .int .i64 a1, .int .i64 a2] rfl (by (try simp only [List.map_toArray, List.map_cons, List.map_nil]); first | done | rfl | (simp only [List.length_drop, List.length_take]; rfl)) ?_; (with_reducible refine (diameter_Dia.calls a0 a1 a2 t156 t157 _ A4.out).mono ?_); rintro e w70 ⟨rfl, hb⟩; refine ⟨_, rfl, ?_⟩; have n0_ := Aside0.mk (below_step (by repeat (first | (with_reducible first | exact HB.out | apply below_alloc | apply pw_below_drewN | apply below_drew1) | exact HB.out)) hb); clear HB; have HB := n0_; clear n0_; (try clear hb); (try clear hb2); (try clear hk); (try clear hi)) | ((with_reducible refine gate_callee (f := 15) rfl ?_); refine goesL_ (some 29) rfl rfl Try.func15 (by kernel_rfl) rfl #[.int .i64 a0, .int .i64 2500, .int .i64 a2] rfl (by (try simp only [List.map_toArray, List.map_cons, List.map_nil]); first | done | rfl | (simp only [List.length_drop, List.length_take]; rfl)) ?_; (with_reducible refine (diameter_Length.calls k a0 2500 a2 t158 t159 _ A64.out).mono ?_); rintro e w' ⟨rfl, ⟨nd, rfl⟩⟩; refine ⟨_, rfl, ?_⟩) | (go_at_call 12; (with_reducible refine (papermilllaw37_awake.calls k  t160 _ A69.out).mono ?_); rintro e w71 ⟨rfl, hb⟩; have n0_ := Aside0.mk (below_step (by repeat (first | (with_reducible first | exact HB.out | apply below_alloc | apply pw_below_drewN | apply below_drew1) | exact HB.out)) hb); clear HB; have HB := n0_; clear n0_; (try clear hb); (try clear hb2); (try clear hk); (try clear hi)))
                 go_ret
                 exact ⟨by first | rfl | (simp [errW_none, errW_some] <;> rfl) | (simp [*, errW_none, errW_some] <;> rfl), by repeat (first | (with_reducible first | exact HB.out | apply below_alloc | apply pw_below_drewN | apply below_drew1) | exact HB.out)⟩)
          · rw [if_neg c68] at H
            have c68b0 : decide (t158 < a1) = false := decide_eq_false c68
            clear c68
            exact absurd ((Option.some.inj H).trans hr_.out) (by decide)
        · rw [if_neg c67] at H
          have c67b0 : (t159 == 0) = false := beq_eq_false_iff_ne.mpr c67
          have c67b1 : (t159 != 0) = true := bne_iff_ne.mpr c67
          exact absurd ((Option.some.inj H).trans hr_.out) (by decide)
      · rw [if_neg c66] at H
        have c66b0 : (t157 == 32) = false := beq_eq_false_iff_ne.mpr c66
        have c66b1 : (t157 != 32) = true := bne_iff_ne.mpr c66
        replace H := Option.bind_eq_some_iff.mp H
        obtain ⟨t161, A740, H⟩ := H
        replace H : (some t161) = some r := H
        have A74 := Aside0.mk A740
        clear A740
        first
          | exact absurd ((Option.some.inj H).trans hr_.out) (by decide)
          | (skip
             obtain rfl := Option.some.inj H
             go_enter Try.func5, Try.ntmps5
             go_wp2_with (first | ((with_reducible refine gate_callee (f := 10) rfl ?_); refine goesL_ (some 21) rfl rfl Try.func10 (by kernel_rfl) rfl #[.int .i64 a0, .int .i64 a1, .int .i64 a2] rfl (by (try simp only [List.map_toArray, List.map_cons, List.map_nil]); first | done | rfl | (simp only [List.length_drop, List.length_take]; rfl)) ?_; (with_reducible refine (diameter_Dia.calls a0 a1 a2 t156 t157 _ A4.out).mono ?_); rintro e w75 ⟨rfl, hb⟩; refine ⟨_, rfl, ?_⟩; have n0_ := Aside0.mk (below_step (by repeat (first | (with_reducible first | exact HB.out | apply below_alloc | apply pw_below_drewN | apply below_drew1) | exact HB.out)) hb); clear HB; have HB := n0_; clear n0_; (try clear hb); (try clear hb2); (try clear hk); (try clear hi)) | ((with_reducible refine gate_callee (f := 15) rfl ?_); refine goesL_ (some 29) rfl rfl Try.func15 (by kernel_rfl) rfl #[.int .i64 a0, .int .i64 2500, .int .i64 a2] rfl (by (try simp only [List.map_toArray, List.map_cons, List.map_nil]); first | done | rfl | (simp only [List.length_drop, List.length_take]; rfl)) ?_; (with_reducible refine (diameter_Length.calls k a0 2500 a2 t158 t159 _ A64.out).mono ?_); rintro e w' ⟨rfl, ⟨nd, rfl⟩⟩; refine ⟨_, rfl, ?_⟩) | (go_at_call 12; (with_reducible refine (papermilllaw37_awake.calls k  t161 _ A74.out).mono ?_); rintro e w76 ⟨rfl, hb⟩; have n0_ := Aside0.mk (below_step (by repeat (first | (with_reducible first | exact HB.out | apply below_alloc | apply pw_below_drewN | apply below_drew1) | exact HB.out)) hb); clear HB; have HB := n0_; clear n0_; (try clear hb); (try clear hb2); (try clear hk); (try clear hi)))
             go_ret
             exact ⟨by first | rfl | (simp [errW_none, errW_some] <;> rfl) | (simp [*, errW_none, errW_some] <;> rfl), by repeat (first | (with_reducible first | exact HB.out | apply below_alloc | apply pw_below_drewN | apply below_drew1) | exact HB.out)⟩)
    · rw [if_neg c65] at H
      have c65b0 : (t156 == 0) = false := beq_eq_false_iff_ne.mpr c65
      have c65b1 : (t156 != 0) = true := bne_iff_ne.mpr c65
      exact absurd ((Option.some.inj H).trans hr_.out) (by decide)

/-- THE ONE PURE STATEMENT of papermilllaw37_DiameterInverse: yours. -/
def papermilllaw37_DiameterInverse.Pure : Prop := ∀ (a0 : Int) (a1 : Int) (a2 : Int), (Lit.int .i64 a0).wf = true → (Lit.int .i64 a1).wf = true → (Lit.int .i64 a2).wf = true → ∃ k, papermilllaw37_DiameterInverse.f k a0 a1 a2 = some true
theorem papermilllaw37_DiameterInverse.walk (P : papermilllaw37_DiameterInverse.Pure) (a0 : Int) (a1 : Int) (a2 : Int) (w : World) (w0 : (Lit.int .i64 a0).wf = true) (w1 : (Lit.int .i64 a1).wf = true) (w2 : (Lit.int .i64 a2).wf = true) :
    Calls Try.prog 5 #[.int .i64 a0, .int .i64 a1, .int .i64 a2] w fun e w' => e = .returned (.bool true) ∧ Below w.heap.size w w' := by
  obtain ⟨k, h⟩ := P a0 a1 a2 w0 w1 w2
  refine (papermilllaw37_DiameterInverse.calls k a0 a1 a2 true w ⟨rfl⟩ h).mono ?_
  rintro e w' ⟨rfl, hd⟩
  exact ⟨rfl, hd⟩

end Go.Proofs.Ytnjcedkgnjohfaa.P
