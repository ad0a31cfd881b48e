-- Written by a program (wip/prog/pp.py) over the kit's print; some of its functions are proved by hand. Not trusted: Lean checks it.
import Derived.Test.YtnjcedkgnjohfaaPx0
import Derived.Test.YtnjcedkgnjohfaaPx7
namespace Go.Proofs.Ytnjcedkgnjohfaa.P
open Go.RowKit Go.Proofs.YtnjcedkgnjohfaaW.PrintWords Go.Proofs.YtnjcedkgnjohfaaW.PrintLast Go.Proofs.YtnjcedkgnjohfaaW.PrintMore
attribute [local go_sem] max2_int min2_int max_two min_two max_three min_three max_four min_four   -- for this text's walks alone
set_option linter.unusedVariables false
set_option linter.unusedSimpArgs false

/-! ### papermilllaw37_DiameterGrows: function 6 -/
mutual
def papermilllaw37_DiameterGrows.j0 : Nat → Int → Int → Int → Int → Bool → Option (Bool)
  | 0, _, _, _, _, _ => none
  | k + 1, x0, x1, x2, x7, x45 => if x45 = true then (some false) else (if x1 < 2500 then ((diameter_Length.f k x0 (wrap64 (x1 + 1)) x2).bind fun bt183 => (if bt183.2 = 0 then (if bt183.1 < x7 then (some false) else (papermilllaw37_DiameterGrows.j1 k x0 x1 x2 x7)) else (some false))) else (papermilllaw37_DiameterGrows.j1 k x0 x1 x2 x7))
def papermilllaw37_DiameterGrows.j1 : Nat → Int → Int → Int → Int → Option (Bool)
  | 0, _, _, _, _ => none
  | k + 1, x0, x1, x2, x7 => if x2 > 1 then ((diameter_Length.f k x0 x1 (wrap64 (x2 - 1))).bind fun bt185 => (if bt185.2 = 0 then (if bt185.1 < x7 then (some false) else ((papermilllaw37_awake.f k).bind fun t187 => (some t187))) else (some false))) else ((papermilllaw37_awake.f k).bind fun t188 => (some t188))
end
def papermilllaw37_DiameterGrows.f (k : Nat) (a0 : Int) (a1 : Int) (a2 : Int) : Option (Bool) := (diameter_Length.f k a0 a1 a2).bind fun bt178 => (if bt178.2 = 0 then ((diameter_Length.f k a0 a0 a2).bind fun bt181 => (if bt181.2 = 0 then (if bt181.1 = 0 then (papermilllaw37_DiameterGrows.j0 k a0 a1 a2 bt178.1 (decide (bt178.1 < 0))) else (papermilllaw37_DiameterGrows.j0 k a0 a1 a2 bt178.1 true)) else (papermilllaw37_DiameterGrows.j0 k a0 a1 a2 bt178.1 true))) else (if bt178.1 = 0 then ((papermilllaw37_awake.f k).bind fun t180 => (some t180)) else (some false)))
theorem papermilllaw37_DiameterGrows.mono_l : ∀ k, (∀ y0 y1 y2 y3 y4, LeO (papermilllaw37_DiameterGrows.j0 k y0 y1 y2 y3 y4) (papermilllaw37_DiameterGrows.j0 (k + 1) y0 y1 y2 y3 y4)) ∧ (∀ y0 y1 y2 y3, LeO (papermilllaw37_DiameterGrows.j1 k y0 y1 y2 y3) (papermilllaw37_DiameterGrows.j1 (k + 1) y0 y1 y2 y3))
  | 0 => ⟨fun _ _ _ _ _ r h => by simp [papermilllaw37_DiameterGrows.j0] at h, fun _ _ _ _ r h => by simp [papermilllaw37_DiameterGrows.j1] at h⟩
  | k + 1 => by
    obtain ⟨ih0, ih1⟩ := papermilllaw37_DiameterGrows.mono_l k
    refine ⟨?_, ?_⟩
    · intro y0 y1 y2 y3 y4
      unfold papermilllaw37_DiameterGrows.j0
      repeat' first
      | (with_reducible exact ih0 _ _ _ _ _)
      | (with_reducible exact ih1 _ _ _ _)
      | (with_reducible exact diameter_Length.mono _ _ _ _)
      | (with_reducible exact papermilllaw37_awake.mono _)
      | (with_reducible exact LeO.refl _)
      | (with_reducible exact LeO.none _)
      | (with_reducible refine LeO.ite ?_ ?_)
      | (with_reducible refine LeO.bind ?_ (fun _ => ?_))
      | exact ih0 _ _ _ _ _
      | exact ih1 _ _ _ _
      | exact diameter_Length.mono _ _ _ _
      | exact papermilllaw37_awake.mono _
      | exact LeO.none _
      | refine LeO.ite ?_ ?_
      | refine LeO.bind ?_ (fun _ => ?_)
    · intro y0 y1 y2 y3
      unfold papermilllaw37_DiameterGrows.j1
      repeat' first
      | (with_reducible exact ih0 _ _ _ _ _)
      | (with_reducible exact ih1 _ _ _ _)
      | (with_reducible exact diameter_Length.mono _ _ _ _)
      | (with_reducible exact papermilllaw37_awake.mono _)
      | (with_reducible exact LeO.refl _)
      | (with_reducible exact LeO.none _)
      | (with_reducible refine LeO.ite ?_ ?_)
      | (with_reducible refine LeO.bind ?_ (fun _ => ?_))
      | exact ih0 _ _ _ _ _
      | exact ih1 _ _ _ _
      | exact diameter_Length.mono _ _ _ _
      | exact papermilllaw37_awake.mono _
      | exact LeO.none _
      | refine LeO.ite ?_ ?_
      | refine LeO.bind ?_ (fun _ => ?_)
theorem papermilllaw37_DiameterGrows.mono : ∀ a0 a1 a2 k, LeO (papermilllaw37_DiameterGrows.f k a0 a1 a2) (papermilllaw37_DiameterGrows.f (k + 1) a0 a1 a2) := by
  intro a0 a1 a2 k
  obtain ⟨ih0, ih1⟩ := papermilllaw37_DiameterGrows.mono_l k
  unfold papermilllaw37_DiameterGrows.f
  repeat' first
      | (with_reducible exact ih0 _ _ _ _ _)
      | (with_reducible exact ih1 _ _ _ _)
      | (with_reducible exact diameter_Length.mono _ _ _ _)
      | (with_reducible exact papermilllaw37_awake.mono _)
      | (with_reducible exact LeO.refl _)
      | (with_reducible exact LeO.none _)
      | (with_reducible refine LeO.ite ?_ ?_)
      | (with_reducible refine LeO.bind ?_ (fun _ => ?_))
      | exact ih0 _ _ _ _ _
      | exact ih1 _ _ _ _
      | exact diameter_Length.mono _ _ _ _
      | exact papermilllaw37_awake.mono _
      | exact LeO.none _
      | refine LeO.ite ?_ ?_
      | refine LeO.bind ?_ (fun _ => ?_)
set_option maxHeartbeats 8000000 in
set_option maxRecDepth 100000 in
theorem papermilllaw37_DiameterGrows.calls (k : Nat) (a0 : Int) (a1 : Int) (a2 : Int) (r : Bool) (w : World) (hr_ : Aside0 (r = true)) (h : papermilllaw37_DiameterGrows.f k a0 a1 a2 = some r) :
    Calls Try.prog 6 #[.int .i64 a0, .int .i64 a1, .int .i64 a2] w fun e w' => e = .returned (.bool r) ∧ Below w.heap.size w w' := by
  have HB := Aside0.mk (Below.refl w.heap.size w)
  have H : ((diameter_Length.f k a0 a1 a2).bind fun bt178 => (if bt178.2 = 0 then ((diameter_Length.f k a0 a0 a2).bind fun bt181 => (if bt181.2 = 0 then (if bt181.1 = 0 then (papermilllaw37_DiameterGrows.j0 k a0 a1 a2 bt178.1 (decide (bt178.1 < 0))) else (papermilllaw37_DiameterGrows.j0 k a0 a1 a2 bt178.1 true)) else (papermilllaw37_DiameterGrows.j0 k a0 a1 a2 bt178.1 true))) else (if bt178.1 = 0 then ((papermilllaw37_awake.f k).bind fun t180 => (some t180)) else (some false)))) = some r := h
  clear h
  replace H := Option.bind_eq_some_iff.mp H
  obtain ⟨⟨t178, t179⟩, A40, H⟩ := H
  replace H : (if t179 = 0 then ((diameter_Length.f k a0 a0 a2).bind fun bt181 => (if bt181.2 = 0 then (if bt181.1 = 0 then (papermilllaw37_DiameterGrows.j0 k a0 a1 a2 t178 (decide (t178 < 0))) else (papermilllaw37_DiameterGrows.j0 k a0 a1 a2 t178 true)) else (papermilllaw37_DiameterGrows.j0 k a0 a1 a2 t178 true))) else (if t178 = 0 then ((papermilllaw37_awake.f k).bind fun t180 => (some t180)) else (some false))) = some r := H
  have A4 := Aside0.mk A40
  clear A40
  by_cases c5 : t179 = 0
  · rw [if_pos c5] at H
    have c5b0 : (t179 == 0) = true := beq_iff_eq.mpr c5
    have c5b1 : (t179 != 0) = false := bne_eq_false_iff_eq.mpr c5
    clear c5
    replace H := Option.bind_eq_some_iff.mp H
    obtain ⟨⟨t181, t182⟩, A60, H⟩ := H
    replace H : (if t182 = 0 then (if t181 = 0 then (papermilllaw37_DiameterGrows.j0 k a0 a1 a2 t178 (decide (t178 < 0))) else (papermilllaw37_DiameterGrows.j0 k a0 a1 a2 t178 true)) else (papermilllaw37_DiameterGrows.j0 k a0 a1 a2 t178 true)) = some r := H
    have A6 := Aside0.mk A60
    clear A60
    have HC7 := Aside0.mk H
    clear H
    go_enter Try.func6, Try.ntmps6
    go_upto_region 5 with (first | ((with_reducible refine gate_callee (f := 15) rfl ?_); refine goesL_ (some 19) rfl rfl Try.func15 (by kernel_rfl) rfl #[.int .i64 a0, .int .i64 a1, .int .i64 a2] rfl (by (try simp only [List.map_toArray, List.map_cons, List.map_nil]); first | done | rfl | (simp only [List.length_drop, List.length_take]; rfl)) ?_; (with_reducible refine (diameter_Length.calls k a0 a1 a2 t178 t179 _ A4.out).mono ?_); rintro e w' ⟨rfl, ⟨nd, rfl⟩⟩; refine ⟨_, rfl, ?_⟩) | ((with_reducible refine gate_callee (f := 15) rfl ?_); refine goesL_ (some 33) rfl rfl Try.func15 (by kernel_rfl) rfl #[.int .i64 a0, .int .i64 a0, .int .i64 a2] rfl (by (try simp only [List.map_toArray, List.map_cons, List.map_nil]); first | done | rfl | (simp only [List.length_drop, List.length_take]; rfl)) ?_; (with_reducible refine (diameter_Length.calls k a0 a0 a2 t181 t182 _ A6.out).mono ?_); rintro e w' ⟨rfl, ⟨nd, rfl⟩⟩; refine ⟨_, rfl, ?_⟩))
    (try simp only [Act.put, List.setIfInBounds_toArray, List.set_cons_zero, List.set_cons_succ])
    go_cut [45] (fun v45 wc => ∃ (kq : Nat) (x45_6 : Bool), v45 = .bool x45_6 ∧ Aside0 (papermilllaw37_DiameterGrows.j0 kq a0 a1 a2 t178 x45_6 = some r) ∧ Aside0 (kq ≤ k) ∧ Aside0 (Below w.heap.size w wc))
    case first =>
      have H := HC7.out
      clear HC7
      by_cases c8 : t182 = 0
      · rw [if_pos c8] at H
        have c8b0 : (t182 == 0) = true := beq_iff_eq.mpr c8
        have c8b1 : (t182 != 0) = false := bne_eq_false_iff_eq.mpr c8
        clear c8
        (first | rw [c8b0] | (simp only [i64_w, i32_w]; rw [c8b0]) | skip)
        by_cases c9 : t181 = 0
        · rw [if_pos c9] at H
          have c9b0 : (t181 == 0) = true := beq_iff_eq.mpr c9
          have c9b1 : (t181 != 0) = false := bne_eq_false_iff_eq.mpr c9
          clear c9
          have H' := Aside0.mk H
          clear H
          go_wp2
          go_meet
          case rel => exact ⟨_, (decide (t178 < 0)), (by first | rfl | (simp; done) | (simp [*]; done)), H', ⟨by first | omega | exact Nat.le_refl _⟩, ⟨by repeat (first | (with_reducible first | exact HB.out | apply below_alloc | apply pw_below_drewN | apply below_drew1) | exact HB.out)⟩⟩
        · rw [if_neg c9] at H
          have c9b0 : (t181 == 0) = false := beq_eq_false_iff_ne.mpr c9
          have c9b1 : (t181 != 0) = true := bne_iff_ne.mpr c9
          have H' := Aside0.mk H
          clear H
          go_wp2
          go_meet
          case rel => exact ⟨_, (true), (by first | rfl | (simp; done) | (simp [*]; done)), H', ⟨by first | omega | exact Nat.le_refl _⟩, ⟨by repeat (first | (with_reducible first | exact HB.out | apply below_alloc | apply pw_below_drewN | apply below_drew1) | exact HB.out)⟩⟩
      · rw [if_neg c8] at H
        have c8b0 : (t182 == 0) = false := beq_eq_false_iff_ne.mpr c8
        have c8b1 : (t182 != 0) = true := bne_iff_ne.mpr c8
        (first | rw [c8b0] | (simp only [i64_w, i32_w]; rw [c8b0]) | skip)
        have H' := Aside0.mk H
        clear H
        go_wp2
        go_meet
        case rel => exact ⟨_, (true), (by first | rfl | (simp; done) | (simp [*]; done)), H', ⟨by first | omega | exact Nat.le_refl _⟩, ⟨by repeat (first | (with_reducible first | exact HB.out | apply below_alloc | apply pw_below_drewN | apply below_drew1) | exact HB.out)⟩⟩
    case rest =>
      clear HC7
      try clear c1
      try clear p2
      try clear c5
      try clear c5b0
      try clear c5b1
      try clear c6
      try clear c8
      try clear c8b0
      try clear c8b1
      try clear c9
      try clear c9b0
      try clear c9b1
      obtain ⟨kq, x45_6, rfl, HA, HJ6, HB⟩ := hcut
      cases kq with
      | zero => exact absurd HA.out (by simp [papermilllaw37_DiameterGrows.j0])
      | succ kj6 =>
        have H := HA.out
        clear HA
        simp only [papermilllaw37_DiameterGrows.j0] at H
        by_cases c10 : x45_6 = true
        · subst c10
          have H1 : (some false) = some r := by rw [if_pos rfl] at H; exact H
          clear H
          have H := H1
          clear H1
          exact absurd ((Option.some.inj H).trans hr_.out) (by decide)
        · replace c10 := Bool.eq_false_iff.mpr c10
          subst c10
          have H1 : (if a1 < 2500 then ((diameter_Length.f kj6 a0 (wrap64 (a1 + 1)) a2).bind fun bt183 => (if bt183.2 = 0 then (if bt183.1 < t178 then (some false) else (papermilllaw37_DiameterGrows.j1 kj6 a0 a1 a2 t178)) else (some false))) else (papermilllaw37_DiameterGrows.j1 kj6 a0 a1 a2 t178)) = some r := by rw [if_neg (show ¬ (false = true) by decide)] at H; exact H
          clear H
          have H := H1
          clear H1
          have HC11 := Aside0.mk H
          clear H
          go_upto_if 47 with (fail)
          go_cut [] (fun wc => ∃ (kq : Nat), Aside0 (papermilllaw37_DiameterGrows.j1 kq a0 a1 a2 t178 = some r) ∧ Aside0 (kq ≤ kj6) ∧ Aside0 (Below w.heap.size w wc))
          case first =>
            have H := HC11.out
            clear HC11
            by_cases c12 : a1 < 2500
            · rw [if_pos c12] at H
              have c12b0 : decide (a1 < 2500) = true := decide_eq_true c12
              clear c12
              (first | rw [c12b0] | (simp only [i64_w, i32_w]; rw [c12b0]) | skip)
              replace H := Option.bind_eq_some_iff.mp H
              obtain ⟨⟨t183, t184⟩, A130, H⟩ := H
              replace H : (if t184 = 0 then (if t183 < t178 then (some false) else (papermilllaw37_DiameterGrows.j1 kj6 a0 a1 a2 t178)) else (some false)) = some r := H
              have A13 := Aside0.mk A130
              clear A130
              by_cases c14 : t184 = 0
              · rw [if_pos c14] at H
                have c14b0 : (t184 == 0) = true := beq_iff_eq.mpr c14
                have c14b1 : (t184 != 0) = false := bne_eq_false_iff_eq.mpr c14
                clear c14
                by_cases c15 : t183 < t178
                · rw [if_pos c15] at H
                  have c15b0 : decide (t183 < t178) = true := decide_eq_true c15
                  clear c15
                  exact absurd ((Option.some.inj H).trans hr_.out) (by decide)
                · rw [if_neg c15] at H
                  have c15b0 : decide (t183 < t178) = false := decide_eq_false c15
                  clear c15
                  have H' := Aside0.mk H
                  clear H
                  go_wp2_with (first | ((with_reducible refine gate_callee (f := 15) rfl ?_); refine goesL_ (some 53) rfl rfl Try.func15 (by kernel_rfl) rfl #[.int .i64 a0, .int .i64 (wrap64 (a1 + 1)), .int .i64 a2] rfl (by (try simp only [List.map_toArray, List.map_cons, List.map_nil]); first | done | rfl | (simp only [List.length_drop, List.length_take]; rfl)) ?_; (with_reducible refine (diameter_Length.calls kj6 a0 (wrap64 (a1 + 1)) a2 t183 t184 _ A13.out).mono ?_); rintro e w' ⟨rfl, ⟨nd, rfl⟩⟩; refine ⟨_, rfl, ?_⟩))
                  go_meet
                  case rel => exact ⟨_, H', ⟨by have := HJ6.out; first | omega | exact Nat.le_refl _⟩, ⟨by repeat (first | (with_reducible first | exact HB.out | apply below_alloc | apply pw_below_drewN | apply below_drew1) | exact HB.out)⟩⟩
              · rw [if_neg c14] at H
                have c14b0 : (t184 == 0) = false := beq_eq_false_iff_ne.mpr c14
                have c14b1 : (t184 != 0) = true := bne_iff_ne.mpr c14
                exact absurd ((Option.some.inj H).trans hr_.out) (by decide)
            · rw [if_neg c12] at H
              have c12b0 : decide (a1 < 2500) = false := decide_eq_false c12
              clear c12
              (first | rw [c12b0] | (simp only [i64_w, i32_w]; rw [c12b0]) | skip)
              have H' := Aside0.mk H
              clear H
              go_wp2
              go_meet
              case rel => exact ⟨_, H', ⟨by have := HJ6.out; first | omega | exact Nat.le_refl _⟩, ⟨by repeat (first | (with_reducible first | exact HB.out | apply below_alloc | apply pw_below_drewN | apply below_drew1) | exact HB.out)⟩⟩
          case rest =>
            clear HC11
            try clear c1
            try clear p2
            try clear c5
            try clear c5b0
            try clear c5b1
            try clear c6
            try clear p6
            try clear c8
            try clear c8b0
            try clear c8b1
            try clear c9
            try clear c9b0
            try clear c9b1
            try clear c10
            try clear c12
            try clear c12b0
            try clear c14
            try clear c14b0
            try clear c14b1
            try clear c15
            try clear c15b0
            try clear p2
            obtain ⟨kq, HA, HJ10, HB⟩ := hcut
            cases kq with
            | zero => exact absurd HA.out (by simp [papermilllaw37_DiameterGrows.j1])
            | succ kj10 =>
              have H := HA.out
              clear HA
              simp only [papermilllaw37_DiameterGrows.j1] at H
              by_cases c16 : a2 > 1
              · rw [if_pos c16] at H
                have c16b0 : decide (1 < a2) = true := decide_eq_true c16
                clear c16
                replace H := Option.bind_eq_some_iff.mp H
                obtain ⟨⟨t185, t186⟩, A170, H⟩ := H
                replace H : (if t186 = 0 then (if t185 < t178 then (some false) else ((papermilllaw37_awake.f kj10).bind fun t187 => (some t187))) else (some false)) = some r := H
                have A17 := Aside0.mk A170
                clear A170
                by_cases c18 : t186 = 0
                · rw [if_pos c18] at H
                  have c18b0 : (t186 == 0) = true := beq_iff_eq.mpr c18
                  have c18b1 : (t186 != 0) = false := bne_eq_false_iff_eq.mpr c18
                  clear c18
                  by_cases c19 : t185 < t178
                  · rw [if_pos c19] at H
                    have c19b0 : decide (t185 < t178) = true := decide_eq_true c19
                    clear c19
                    exact absurd ((Option.some.inj H).trans hr_.out) (by decide)
                  · rw [if_neg c19] at H
                    have c19b0 : decide (t185 < t178) = false := decide_eq_false c19
                    clear c19
                    replace H := Option.bind_eq_some_iff.mp H
                    obtain ⟨t187, A200, H⟩ := H
                    replace H : (some t187) = some r := H
                    have A20 := Aside0.mk A200
                    clear A200
                    first
                      | exact absurd ((Option.some.inj H).trans hr_.out) (by decide)
                      | (skip
                         obtain rfl := Option.some.inj H
                         go_wp2_with (first | ((with_reducible refine gate_callee (f := 15) rfl ?_); refine goesL_ (some 70) rfl rfl Try.func15 (by kernel_rfl) rfl #[.int .i64 a0, .int .i64 a1, .int .i64 (wrap64 (a2 - 1))] rfl (by (try simp only [List.map_toArray, List.map_cons, List.map_nil]); first | done | rfl | (simp only [List.length_drop, List.length_take]; rfl)) ?_; (with_reducible refine (diameter_Length.calls kj10 a0 a1 (wrap64 (a2 - 1)) t185 t186 _ A17.out).mono ?_); rintro e w' ⟨rfl, ⟨nd, rfl⟩⟩; refine ⟨_, rfl, ?_⟩) | ((with_reducible refine gate_callee (f := 12) rfl ?_); refine goesL_ (some 80) rfl rfl Try.func12 (by kernel_rfl) rfl #[] rfl (by (try simp only [List.map_toArray, List.map_cons, List.map_nil]); first | done | rfl | (simp only [List.length_drop, List.length_take]; rfl)) ?_; (with_reducible refine (papermilllaw37_awake.calls kj10  t187 _ A20.out).mono ?_); rintro e w21 ⟨rfl, hb⟩; refine ⟨_, rfl, ?_⟩; have n0_ := Aside0.mk (below_step (by repeat (first | (with_reducible first | exact HB.out | apply below_alloc | apply pw_below_drewN | apply below_drew1) | exact HB.out)) hb); clear HB; have HB := n0_; clear n0_; (try clear hb); (try clear hb2); (try clear hk); (try clear hi)))
                         go_ret
                         exact ⟨by first | rfl | (simp [errW_none, errW_some] <;> rfl) | (simp [*, errW_none, errW_some] <;> rfl), by repeat (first | (with_reducible first | exact HB.out | apply below_alloc | apply pw_below_drewN | apply below_drew1) | exact HB.out)⟩)
                · rw [if_neg c18] at H
                  have c18b0 : (t186 == 0) = false := beq_eq_false_iff_ne.mpr c18
                  have c18b1 : (t186 != 0) = true := bne_iff_ne.mpr c18
                  exact absurd ((Option.some.inj H).trans hr_.out) (by decide)
              · rw [if_neg c16] at H
                have c16b0 : decide (1 < a2) = false := decide_eq_false c16
                clear c16
                replace H := Option.bind_eq_some_iff.mp H
                obtain ⟨t188, A220, H⟩ := H
                replace H : (some t188) = some r := H
                have A22 := Aside0.mk A220
                clear A220
                first
                  | exact absurd ((Option.some.inj H).trans hr_.out) (by decide)
                  | (skip
                     obtain rfl := Option.some.inj H
                     go_wp2_with (first | ((with_reducible refine gate_callee (f := 12) rfl ?_); refine goesL_ (some 80) rfl rfl Try.func12 (by kernel_rfl) rfl #[] rfl (by (try simp only [List.map_toArray, List.map_cons, List.map_nil]); first | done | rfl | (simp only [List.length_drop, List.length_take]; rfl)) ?_; (with_reducible refine (papermilllaw37_awake.calls kj10  t188 _ A22.out).mono ?_); rintro e w23 ⟨rfl, hb⟩; refine ⟨_, rfl, ?_⟩; have n0_ := Aside0.mk (below_step (by repeat (first | (with_reducible first | exact HB.out | apply below_alloc | apply pw_below_drewN | apply below_drew1) | exact HB.out)) hb); clear HB; have HB := n0_; clear n0_; (try clear hb); (try clear hb2); (try clear hk); (try clear hi)))
                     go_ret
                     exact ⟨by first | rfl | (simp [errW_none, errW_some] <;> rfl) | (simp [*, errW_none, errW_some] <;> rfl), by repeat (first | (with_reducible first | exact HB.out | apply below_alloc | apply pw_below_drewN | apply below_drew1) | exact HB.out)⟩)
  · rw [if_neg c5] at H
    have c5b0 : (t179 == 0) = false := beq_eq_false_iff_ne.mpr c5
    have c5b1 : (t179 != 0) = true := bne_iff_ne.mpr c5
    by_cases c24 : t178 = 0
    · rw [if_pos c24] at H
      have c24b0 : (t178 == 0) = true := beq_iff_eq.mpr c24
      have c24b1 : (t178 != 0) = false := bne_eq_false_iff_eq.mpr c24
      clear c24
      replace H := Option.bind_eq_some_iff.mp H
      obtain ⟨t180, A250, H⟩ := H
      replace H : (some t180) = some r := H
      have A25 := Aside0.mk A250
      clear A250
      first
        | exact absurd ((Option.some.inj H).trans hr_.out) (by decide)
        | (skip
           obtain rfl := Option.some.inj H
           go_enter Try.func6, Try.ntmps6
           go_wp2_with (first | ((with_reducible refine gate_callee (f := 15) rfl ?_); refine goesL_ (some 19) rfl rfl Try.func15 (by kernel_rfl) rfl #[.int .i64 a0, .int .i64 a1, .int .i64 a2] rfl (by (try simp only [List.map_toArray, List.map_cons, List.map_nil]); first | done | rfl | (simp only [List.length_drop, List.length_take]; rfl)) ?_; (with_reducible refine (diameter_Length.calls k a0 a1 a2 t178 t179 _ A4.out).mono ?_); rintro e w' ⟨rfl, ⟨nd, rfl⟩⟩; refine ⟨_, rfl, ?_⟩) | (go_at_call 12; (with_reducible refine (papermilllaw37_awake.calls k  t180 _ A25.out).mono ?_); rintro e w26 ⟨rfl, hb⟩; have n0_ := Aside0.mk (below_step (by repeat (first | (with_reducible first | exact HB.out | apply below_alloc | apply pw_below_drewN | apply below_drew1) | exact HB.out)) hb); clear HB; have HB := n0_; clear n0_; (try clear hb); (try clear hb2); (try clear hk); (try clear hi)))
           go_ret
           exact ⟨by first | rfl | (simp [errW_none, errW_some] <;> rfl) | (simp [*, errW_none, errW_some] <;> rfl), by repeat (first | (with_reducible first | exact HB.out | apply below_alloc | apply pw_below_drewN | apply below_drew1) | exact HB.out)⟩)
    · rw [if_neg c24] at H
      have c24b0 : (t178 == 0) = false := beq_eq_false_iff_ne.mpr c24
      have c24b1 : (t178 != 0) = true := bne_iff_ne.mpr c24
      exact absurd ((Option.some.inj H).trans hr_.out) (by decide)

/-- THE ONE PURE STATEMENT of papermilllaw37_DiameterGrows: yours. -/
def papermilllaw37_DiameterGrows.Pure : Prop := ∀ (a0 : Int) (a1 : Int) (a2 : Int), (Lit.int .i64 a0).wf = true → (Lit.int .i64 a1).wf = true → (Lit.int .i64 a2).wf = true → ∃ k, papermilllaw37_DiameterGrows.f k a0 a1 a2 = some true
theorem papermilllaw37_DiameterGrows.walk (P : papermilllaw37_DiameterGrows.Pure) (a0 : Int) (a1 : Int) (a2 : Int) (w : World) (w0 : (Lit.int .i64 a0).wf = true) (w1 : (Lit.int .i64 a1).wf = true) (w2 : (Lit.int .i64 a2).wf = true) :
    Calls Try.prog 6 #[.int .i64 a0, .int .i64 a1, .int .i64 a2] w fun e w' => e = .returned (.bool true) ∧ Below w.heap.size w w' := by
  obtain ⟨k, h⟩ := P a0 a1 a2 w0 w1 w2
  refine (papermilllaw37_DiameterGrows.calls k a0 a1 a2 true w ⟨rfl⟩ h).mono ?_
  rintro e w' ⟨rfl, hd⟩
  exact ⟨rfl, hd⟩

end Go.Proofs.Ytnjcedkgnjohfaa.P
