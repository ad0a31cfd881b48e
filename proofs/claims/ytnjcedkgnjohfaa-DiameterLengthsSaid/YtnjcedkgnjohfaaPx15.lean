-- Written by a program (wip/prog/pp.py) over the kit's print; some of its functions are proved by hand. Not trusted: Lean checks it.
import Derived.Test.YtnjcedkgnjohfaaPx0
import Derived.Test.YtnjcedkgnjohfaaPx2
import Derived.Test.YtnjcedkgnjohfaaPx7
namespace Go.Proofs.Ytnjcedkgnjohfaa.P
open Go.RowKit Go.Proofs.YtnjcedkgnjohfaaW.PrintWords Go.Proofs.YtnjcedkgnjohfaaW.PrintLast Go.Proofs.YtnjcedkgnjohfaaW.PrintMore
attribute [local go_sem] max2_int min2_int max_two min_two max_three min_three max_four min_four   -- for this text's walks alone
set_option linter.unusedVariables false
set_option linter.unusedSimpArgs false

/-! ### papermillref37_Turns: function 18 -/
def papermillref37_Turns.f (k : Nat) (a0 : Int) (a1 : Int) (a2 : Int) : Option (Int × Int) := (papermillref37_limits.f k a0 a1 a2).bind fun t214 => (if t214 = 0 then (if a2 = 0 then (none) else (some (wrap64 (Int.tdiv (wrap64 ((wrap64 (a1 - a0)) * 500)) a2), 0))) else (some (0, t214)))
theorem papermillref37_Turns.mono : ∀ a0 a1 a2 k, LeO (papermillref37_Turns.f k a0 a1 a2) (papermillref37_Turns.f (k + 1) a0 a1 a2) := by
  intro a0 a1 a2 k
  unfold papermillref37_Turns.f
  repeat' first
      | (with_reducible exact papermillref37_limits.mono _ _ _ _)
      | (with_reducible exact LeO.refl _)
      | (with_reducible exact LeO.none _)
      | (with_reducible refine LeO.ite ?_ ?_)
      | (with_reducible refine LeO.bind ?_ (fun _ => ?_))
      | exact papermillref37_limits.mono _ _ _ _
      | exact LeO.none _
      | refine LeO.ite ?_ ?_
      | refine LeO.bind ?_ (fun _ => ?_)
set_option maxHeartbeats 8000000 in
set_option maxRecDepth 100000 in
theorem papermillref37_Turns.calls (k : Nat) (a0 : Int) (a1 : Int) (a2 : Int) (r1 : Int) (r2 : Int) (w : World) (h : papermillref37_Turns.f k a0 a1 a2 = some (r1, r2)) :
    Calls Try.prog 18 #[.int .i64 a0, .int .i64 a1, .int .i64 a2] w fun e w' => e = .returned (.tuple #[.int .i64 r1, .int .i64 r2]) ∧ Drawn0 w w' := by
  have H : ((papermillref37_limits.f k a0 a1 a2).bind fun t214 => (if t214 = 0 then (if a2 = 0 then (none) else (some (wrap64 (Int.tdiv (wrap64 ((wrap64 (a1 - a0)) * 500)) a2), 0))) else (some (0, t214)))) = some (r1, r2) := h
  clear h
  replace H := Option.bind_eq_some_iff.mp H
  obtain ⟨t214, A40, H⟩ := H
  replace H : (if t214 = 0 then (if a2 = 0 then (none) else (some (wrap64 (Int.tdiv (wrap64 ((wrap64 (a1 - a0)) * 500)) a2), 0))) else (some (0, t214))) = some (r1, r2) := H
  have A4 := Aside0.mk A40
  clear A40
  by_cases c5 : t214 = 0
  · rw [if_pos c5] at H
    have c5b0 : (t214 == 0) = true := beq_iff_eq.mpr c5
    have c5b1 : (t214 != 0) = false := bne_eq_false_iff_eq.mpr c5
    clear c5
    by_cases c6 : a2 = 0
    · rw [if_pos c6] at H
      exact absurd H (by simp)
    · rw [if_neg c6] at H
      have c6b0 : (a2 == 0) = false := beq_eq_false_iff_ne.mpr c6
      have c6b1 : (a2 != 0) = true := bne_iff_ne.mpr c6
      simp only [Option.some.injEq, Prod.mk.injEq] at H
      obtain ⟨rfl, rfl⟩ := H
      go_enter Try.func18, Try.ntmps18
      go_wp2_with (first | ((with_reducible refine gate_callee (f := 28) rfl ?_); refine goesL_ (some 12) rfl rfl Try.func28 (by kernel_rfl) rfl #[.int .i64 a0, .int .i64 a1, .int .i64 a2] rfl (by (try simp only [List.map_toArray, List.map_cons, List.map_nil]); first | done | rfl | (simp only [List.length_drop, List.length_take]; rfl)) ?_; (with_reducible refine (papermillref37_limits.calls k a0 a1 a2 t214 _ A4.out).mono ?_); rintro e w' ⟨rfl, ⟨nd, rfl⟩⟩; refine ⟨_, rfl, ?_⟩))
      go_ret2
      exact ⟨by first | rfl | (simp; done) | (simp [*]; done), by repeat (first | exact Drawn0.refl _ | apply Drawn0.step)⟩
  · rw [if_neg c5] at H
    have c5b0 : (t214 == 0) = false := beq_eq_false_iff_ne.mpr c5
    have c5b1 : (t214 != 0) = true := bne_iff_ne.mpr c5
    simp only [Option.some.injEq, Prod.mk.injEq] at H
    obtain ⟨rfl, rfl⟩ := H
    go_enter Try.func18, Try.ntmps18
    go_wp2_with (first | ((with_reducible refine gate_callee (f := 28) rfl ?_); refine goesL_ (some 12) rfl rfl Try.func28 (by kernel_rfl) rfl #[.int .i64 a0, .int .i64 a1, .int .i64 a2] rfl (by (try simp only [List.map_toArray, List.map_cons, List.map_nil]); first | done | rfl | (simp only [List.length_drop, List.length_take]; rfl)) ?_; (with_reducible refine (papermillref37_limits.calls k a0 a1 a2 t214 _ A4.out).mono ?_); rintro e w' ⟨rfl, ⟨nd, rfl⟩⟩; refine ⟨_, rfl, ?_⟩))
    go_ret2
    exact ⟨by first | rfl | (simp; done) | (simp [*]; done), by repeat (first | exact Drawn0.refl _ | apply Drawn0.step)⟩

/-! ### diameter_Longest: function 19 -/
def diameter_Longest.f (k : Nat) (a0 : Int) (a1 : Int) (a2 : Int) : Option (Int × Int) := (diameter_Length.f k a0 a1 a2).bind fun bt215 => (some (bt215.1, bt215.2))
theorem diameter_Longest.mono : ∀ a0 a1 a2 k, LeO (diameter_Longest.f k a0 a1 a2) (diameter_Longest.f (k + 1) a0 a1 a2) := by
  intro a0 a1 a2 k
  unfold diameter_Longest.f
  repeat' first
      | (with_reducible exact diameter_Length.mono _ _ _ _)
      | (with_reducible exact LeO.refl _)
      | (with_reducible exact LeO.none _)
      | (with_reducible refine LeO.ite ?_ ?_)
      | (with_reducible refine LeO.bind ?_ (fun _ => ?_))
      | exact diameter_Length.mono _ _ _ _
      | exact LeO.none _
      | refine LeO.ite ?_ ?_
      | refine LeO.bind ?_ (fun _ => ?_)
set_option maxHeartbeats 8000000 in
set_option maxRecDepth 100000 in
theorem diameter_Longest.calls (k : Nat) (a0 : Int) (a1 : Int) (a2 : Int) (r1 : Int) (r2 : Int) (w : World) (h : diameter_Longest.f k a0 a1 a2 = some (r1, r2)) :
    Calls Try.prog 19 #[.int .i64 a0, .int .i64 a1, .int .i64 a2] w fun e w' => e = .returned (.tuple #[.int .i64 r1, .int .i64 r2]) ∧ Drawn0 w w' := by
  have H : ((diameter_Length.f k a0 a1 a2).bind fun bt215 => (some (bt215.1, bt215.2))) = some (r1, r2) := h
  clear h
  replace H := Option.bind_eq_some_iff.mp H
  obtain ⟨⟨t215, t216⟩, A40, H⟩ := H
  replace H : (some (t215, t216)) = some (r1, r2) := H
  have A4 := Aside0.mk A40
  clear A40
  simp only [Option.some.injEq, Prod.mk.injEq] at H
  obtain ⟨rfl, rfl⟩ := H
  go_enter Try.func19, Try.ntmps19
  go_wp2_with (first | ((with_reducible refine gate_callee (f := 15) rfl ?_); refine goesL_ (some 11) rfl rfl Try.func15 (by kernel_rfl) rfl #[.int .i64 a0, .int .i64 a1, .int .i64 a2] rfl (by (try simp only [List.map_toArray, List.map_cons, List.map_nil]); first | done | rfl | (simp only [List.length_drop, List.length_take]; rfl)) ?_; (with_reducible refine (diameter_Length.calls k a0 a1 a2 t215 t216 _ A4.out).mono ?_); rintro e w' ⟨rfl, ⟨nd, rfl⟩⟩; refine ⟨_, rfl, ?_⟩))
  go_ret2
  exact ⟨by first | rfl | (simp; done) | (simp [*]; done), by repeat (first | exact Drawn0.refl _ | apply Drawn0.step)⟩

/-! ### papermillref37_Longest: function 20 -/
def papermillref37_Longest.f (k : Nat) (a0 : Int) (a1 : Int) (a2 : Int) : Option (Int × Int) := (papermillref37_Length.f k a0 a1 a2).bind fun bt217 => (some (bt217.1, bt217.2))
theorem papermillref37_Longest.mono : ∀ a0 a1 a2 k, LeO (papermillref37_Longest.f k a0 a1 a2) (papermillref37_Longest.f (k + 1) a0 a1 a2) := by
  intro a0 a1 a2 k
  unfold papermillref37_Longest.f
  repeat' first
      | (with_reducible exact papermillref37_Length.mono _ _ _ _)
      | (with_reducible exact LeO.refl _)
      | (with_reducible exact LeO.none _)
      | (with_reducible refine LeO.ite ?_ ?_)
      | (with_reducible refine LeO.bind ?_ (fun _ => ?_))
      | exact papermillref37_Length.mono _ _ _ _
      | exact LeO.none _
      | refine LeO.ite ?_ ?_
      | refine LeO.bind ?_ (fun _ => ?_)
set_option maxHeartbeats 8000000 in
set_option maxRecDepth 100000 in
theorem papermillref37_Longest.calls (k : Nat) (a0 : Int) (a1 : Int) (a2 : Int) (r1 : Int) (r2 : Int) (w : World) (h : papermillref37_Longest.f k a0 a1 a2 = some (r1, r2)) :
    Calls Try.prog 20 #[.int .i64 a0, .int .i64 a1, .int .i64 a2] w fun e w' => e = .returned (.tuple #[.int .i64 r1, .int .i64 r2]) ∧ Drawn0 w w' := by
  have H : ((papermillref37_Length.f k a0 a1 a2).bind fun bt217 => (some (bt217.1, bt217.2))) = some (r1, r2) := h
  clear h
  replace H := Option.bind_eq_some_iff.mp H
  obtain ⟨⟨t217, t218⟩, A40, H⟩ := H
  replace H : (some (t217, t218)) = some (r1, r2) := H
  have A4 := Aside0.mk A40
  clear A40
  simp only [Option.some.injEq, Prod.mk.injEq] at H
  obtain ⟨rfl, rfl⟩ := H
  go_enter Try.func20, Try.ntmps20
  go_wp2_with (first | ((with_reducible refine gate_callee (f := 16) rfl ?_); refine goesL_ (some 11) rfl rfl Try.func16 (by kernel_rfl) rfl #[.int .i64 a0, .int .i64 a1, .int .i64 a2] rfl (by (try simp only [List.map_toArray, List.map_cons, List.map_nil]); first | done | rfl | (simp only [List.length_drop, List.length_take]; rfl)) ?_; (with_reducible refine (papermillref37_Length.calls k a0 a1 a2 t217 t218 _ A4.out).mono ?_); rintro e w' ⟨rfl, ⟨nd, rfl⟩⟩; refine ⟨_, rfl, ?_⟩))
  go_ret2
  exact ⟨by first | rfl | (simp; done) | (simp [*]; done), by repeat (first | exact Drawn0.refl _ | apply Drawn0.step)⟩

/-! ### papermilllaw37_DiameterLengths: function 9 -/
def papermilllaw37_DiameterLengths.f (k : Nat) (a0 : Int) (a1 : Int) (a2 : Int) : Option (Bool) := (diameter_Length.f k a0 a1 a2).bind fun bt219 => ((papermillref37_Length.f k a0 a1 a2).bind fun bt221 => ((diameter_Turns.f k a0 a1 a2).bind fun bt223 => ((papermillref37_Turns.f k a0 a1 a2).bind fun bt225 => ((diameter_Longest.f k a0 a1 a2).bind fun bt227 => ((papermillref37_Longest.f k a0 a1 a2).bind fun bt229 => (if bt219.1 = bt221.1 then (if bt219.2 = bt221.2 then (if bt223.1 = bt225.1 then (if bt223.2 = bt225.2 then (if bt227.1 = bt229.1 then (if bt227.2 = bt229.2 then ((papermilllaw37_awake.f k).bind fun t231 => (some t231)) else (some false)) else (some false)) else (some false)) else (some false)) else (some false)) else (some false)))))))
theorem papermilllaw37_DiameterLengths.mono : ∀ a0 a1 a2 k, LeO (papermilllaw37_DiameterLengths.f k a0 a1 a2) (papermilllaw37_DiameterLengths.f (k + 1) a0 a1 a2) := by
  intro a0 a1 a2 k
  unfold papermilllaw37_DiameterLengths.f
  repeat' first
      | (with_reducible exact diameter_Length.mono _ _ _ _)
      | (with_reducible exact diameter_Longest.mono _ _ _ _)
      | (with_reducible exact diameter_Turns.mono _ _ _ _)
      | (with_reducible exact papermilllaw37_awake.mono _)
      | (with_reducible exact papermillref37_Length.mono _ _ _ _)
      | (with_reducible exact papermillref37_Longest.mono _ _ _ _)
      | (with_reducible exact papermillref37_Turns.mono _ _ _ _)
      | (with_reducible exact LeO.refl _)
      | (with_reducible exact LeO.none _)
      | (with_reducible refine LeO.ite ?_ ?_)
      | (with_reducible refine LeO.bind ?_ (fun _ => ?_))
      | exact diameter_Length.mono _ _ _ _
      | exact diameter_Longest.mono _ _ _ _
      | exact diameter_Turns.mono _ _ _ _
      | exact papermilllaw37_awake.mono _
      | exact papermillref37_Length.mono _ _ _ _
      | exact papermillref37_Longest.mono _ _ _ _
      | exact papermillref37_Turns.mono _ _ _ _
      | exact LeO.none _
      | refine LeO.ite ?_ ?_
      | refine LeO.bind ?_ (fun _ => ?_)
set_option maxHeartbeats 8000000 in
set_option maxRecDepth 100000 in
theorem papermilllaw37_DiameterLengths.calls (k : Nat) (a0 : Int) (a1 : Int) (a2 : Int) (r : Bool) (w : World) (hr_ : Aside0 (r = true)) (h : papermilllaw37_DiameterLengths.f k a0 a1 a2 = some r) :
    Calls Try.prog 9 #[.int .i64 a0, .int .i64 a1, .int .i64 a2] w fun e w' => e = .returned (.bool r) ∧ Below w.heap.size w w' := by
  have HB := Aside0.mk (Below.refl w.heap.size w)
  have H : ((diameter_Length.f k a0 a1 a2).bind fun bt219 => ((papermillref37_Length.f k a0 a1 a2).bind fun bt221 => ((diameter_Turns.f k a0 a1 a2).bind fun bt223 => ((papermillref37_Turns.f k a0 a1 a2).bind fun bt225 => ((diameter_Longest.f k a0 a1 a2).bind fun bt227 => ((papermillref37_Longest.f k a0 a1 a2).bind fun bt229 => (if bt219.1 = bt221.1 then (if bt219.2 = bt221.2 then (if bt223.1 = bt225.1 then (if bt223.2 = bt225.2 then (if bt227.1 = bt229.1 then (if bt227.2 = bt229.2 then ((papermilllaw37_awake.f k).bind fun t231 => (some t231)) else (some false)) else (some false)) else (some false)) else (some false)) else (some false)) else (some false)))))))) = some r := h
  clear h
  replace H := Option.bind_eq_some_iff.mp H
  obtain ⟨⟨t219, t220⟩, A40, H⟩ := H
  replace H : ((papermillref37_Length.f k a0 a1 a2).bind fun bt221 => ((diameter_Turns.f k a0 a1 a2).bind fun bt223 => ((papermillref37_Turns.f k a0 a1 a2).bind fun bt225 => ((diameter_Longest.f k a0 a1 a2).bind fun bt227 => ((papermillref37_Longest.f k a0 a1 a2).bind fun bt229 => (if t219 = bt221.1 then (if t220 = bt221.2 then (if bt223.1 = bt225.1 then (if bt223.2 = bt225.2 then (if bt227.1 = bt229.1 then (if bt227.2 = bt229.2 then ((papermilllaw37_awake.f k).bind fun t231 => (some t231)) else (some false)) else (some false)) else (some false)) else (some false)) else (some false)) else (some false))))))) = some r := H
  have A4 := Aside0.mk A40
  clear A40
  replace H := Option.bind_eq_some_iff.mp H
  obtain ⟨⟨t221, t222⟩, A50, H⟩ := H
  replace H : ((diameter_Turns.f k a0 a1 a2).bind fun bt223 => ((papermillref37_Turns.f k a0 a1 a2).bind fun bt225 => ((diameter_Longest.f k a0 a1 a2).bind fun bt227 => ((papermillref37_Longest.f k a0 a1 a2).bind fun bt229 => (if t219 = t221 then (if t220 = t222 then (if bt223.1 = bt225.1 then (if bt223.2 = bt225.2 then (if bt227.1 = bt229.1 then (if bt227.2 = bt229.2 then ((papermilllaw37_awake.f k).bind fun t231 => (some t231)) else (some false)) else (some false)) else (some false)) else (some false)) else (some false)) else (some false)))))) = some r := H
  have A5 := Aside0.mk A50
  clear A50
  replace H := Option.bind_eq_some_iff.mp H
  obtain ⟨⟨t223, t224⟩, A60, H⟩ := H
  replace H : ((papermillref37_Turns.f k a0 a1 a2).bind fun bt225 => ((diameter_Longest.f k a0 a1 a2).bind fun bt227 => ((papermillref37_Longest.f k a0 a1 a2).bind fun bt229 => (if t219 = t221 then (if t220 = t222 then (if t223 = bt225.1 then (if t224 = bt225.2 then (if bt227.1 = bt229.1 then (if bt227.2 = bt229.2 then ((papermilllaw37_awake.f k).bind fun t231 => (some t231)) else (some false)) else (some false)) else (some false)) else (some false)) else (some false)) else (some false))))) = some r := H
  have A6 := Aside0.mk A60
  clear A60
  replace H := Option.bind_eq_some_iff.mp H
  obtain ⟨⟨t225, t226⟩, A70, H⟩ := H
  replace H : ((diameter_Longest.f k a0 a1 a2).bind fun bt227 => ((papermillref37_Longest.f k a0 a1 a2).bind fun bt229 => (if t219 = t221 then (if t220 = t222 then (if t223 = t225 then (if t224 = t226 then (if bt227.1 = bt229.1 then (if bt227.2 = bt229.2 then ((papermilllaw37_awake.f k).bind fun t231 => (some t231)) else (some false)) else (some false)) else (some false)) else (some false)) else (some false)) else (some false)))) = some r := H
  have A7 := Aside0.mk A70
  clear A70
  replace H := Option.bind_eq_some_iff.mp H
  obtain ⟨⟨t227, t228⟩, A80, H⟩ := H
  replace H : ((papermillref37_Longest.f k a0 a1 a2).bind fun bt229 => (if t219 = t221 then (if t220 = t222 then (if t223 = t225 then (if t224 = t226 then (if t227 = bt229.1 then (if t228 = bt229.2 then ((papermilllaw37_awake.f k).bind fun t231 => (some t231)) else (some false)) else (some false)) else (some false)) else (some false)) else (some false)) else (some false))) = some r := H
  have A8 := Aside0.mk A80
  clear A80
  replace H := Option.bind_eq_some_iff.mp H
  obtain ⟨⟨t229, t230⟩, A90, H⟩ := H
  replace H : (if t219 = t221 then (if t220 = t222 then (if t223 = t225 then (if t224 = t226 then (if t227 = t229 then (if t228 = t230 then ((papermilllaw37_awake.f k).bind fun t231 => (some t231)) else (some false)) else (some false)) else (some false)) else (some false)) else (some false)) else (some false)) = some r := H
  have A9 := Aside0.mk A90
  clear A90
  by_cases c10 : t219 = t221
  · rw [if_pos c10] at H
    have c10b0 : (t219 == t221) = true := beq_iff_eq.mpr c10
    have c10b1 : (t219 != t221) = false := bne_eq_false_iff_eq.mpr c10
    clear c10
    by_cases c11 : t220 = t222
    · rw [if_pos c11] at H
      have c11b0 : (t220 == t222) = true := beq_iff_eq.mpr c11
      have c11b1 : (t220 != t222) = false := bne_eq_false_iff_eq.mpr c11
      clear c11
      by_cases c12 : t223 = t225
      · rw [if_pos c12] at H
        have c12b0 : (t223 == t225) = true := beq_iff_eq.mpr c12
        have c12b1 : (t223 != t225) = false := bne_eq_false_iff_eq.mpr c12
        clear c12
        by_cases c13 : t224 = t226
        · rw [if_pos c13] at H
          have c13b0 : (t224 == t226) = true := beq_iff_eq.mpr c13
          have c13b1 : (t224 != t226) = false := bne_eq_false_iff_eq.mpr c13
          clear c13
          by_cases c14 : t227 = t229
          · rw [if_pos c14] at H
            have c14b0 : (t227 == t229) = true := beq_iff_eq.mpr c14
            have c14b1 : (t227 != t229) = false := bne_eq_false_iff_eq.mpr c14
            clear c14
            by_cases c15 : t228 = t230
            · rw [if_pos c15] at H
              have c15b0 : (t228 == t230) = true := beq_iff_eq.mpr c15
              have c15b1 : (t228 != t230) = false := bne_eq_false_iff_eq.mpr c15
              clear c15
              replace H := Option.bind_eq_some_iff.mp H
              obtain ⟨t231, A160, H⟩ := H
              replace H : (some t231) = some r := H
              have A16 := Aside0.mk A160
              clear A160
              first
                | exact absurd ((Option.some.inj H).trans hr_.out) (by decide)
                | (skip
                   obtain rfl := Option.some.inj H
                   go_enter Try.func9, Try.ntmps9
                   go_wp2_with (first | ((with_reducible refine gate_callee (f := 15) rfl ?_); refine goesL_ (some 23) rfl rfl Try.func15 (by kernel_rfl) rfl #[.int .i64 a0, .int .i64 a1, .int .i64 a2] rfl (by (try simp only [List.map_toArray, List.map_cons, List.map_nil]); first | done | rfl | (simp only [List.length_drop, List.length_take]; rfl)) ?_; (with_reducible refine (diameter_Length.calls k a0 a1 a2 t219 t220 _ A4.out).mono ?_); rintro e w' ⟨rfl, ⟨nd, rfl⟩⟩; refine ⟨_, rfl, ?_⟩) | ((with_reducible refine gate_callee (f := 16) rfl ?_); refine goesL_ (some 30) rfl rfl Try.func16 (by kernel_rfl) rfl #[.int .i64 a0, .int .i64 a1, .int .i64 a2] rfl (by (try simp only [List.map_toArray, List.map_cons, List.map_nil]); first | done | rfl | (simp only [List.length_drop, List.length_take]; rfl)) ?_; (with_reducible refine (papermillref37_Length.calls k a0 a1 a2 t221 t222 _ A5.out).mono ?_); rintro e w' ⟨rfl, ⟨nd, rfl⟩⟩; refine ⟨_, rfl, ?_⟩) | ((with_reducible refine gate_callee (f := 17) rfl ?_); refine goesL_ (some 37) rfl rfl Try.func17 (by kernel_rfl) rfl #[.int .i64 a0, .int .i64 a1, .int .i64 a2] rfl (by (try simp only [List.map_toArray, List.map_cons, List.map_nil]); first | done | rfl | (simp only [List.length_drop, List.length_take]; rfl)) ?_; (with_reducible refine (diameter_Turns.calls k a0 a1 a2 t223 t224 _ A6.out).mono ?_); rintro e w' ⟨rfl, ⟨nd, rfl⟩⟩; refine ⟨_, rfl, ?_⟩) | ((with_reducible refine gate_callee (f := 18) rfl ?_); refine goesL_ (some 44) rfl rfl Try.func18 (by kernel_rfl) rfl #[.int .i64 a0, .int .i64 a1, .int .i64 a2] rfl (by (try simp only [List.map_toArray, List.map_cons, List.map_nil]); first | done | rfl | (simp only [List.length_drop, List.length_take]; rfl)) ?_; (with_reducible refine (papermillref37_Turns.calls k a0 a1 a2 t225 t226 _ A7.out).mono ?_); rintro e w' ⟨rfl, ⟨nd, rfl⟩⟩; refine ⟨_, rfl, ?_⟩) | ((with_reducible refine gate_callee (f := 19) rfl ?_); refine goesL_ (some 51) rfl rfl Try.func19 (by kernel_rfl) rfl #[.int .i64 a0, .int .i64 a1, .int .i64 a2] rfl (by (try simp only [List.map_toArray, List.map_cons, List.map_nil]); first | done | rfl | (simp only [List.length_drop, List.length_take]; rfl)) ?_; (with_reducible refine (diameter_Longest.calls k a0 a1 a2 t227 t228 _ A8.out).mono ?_); rintro e w' ⟨rfl, ⟨nd, rfl⟩⟩; refine ⟨_, rfl, ?_⟩) | ((with_reducible refine gate_callee (f := 20) rfl ?_); refine goesL_ (some 58) rfl rfl Try.func20 (by kernel_rfl) rfl #[.int .i64 a0, .int .i64 a1, .int .i64 a2] rfl (by (try simp only [List.map_toArray, List.map_cons, List.map_nil]); first | done | rfl | (simp only [List.length_drop, List.length_take]; rfl)) ?_; (with_reducible refine (papermillref37_Longest.calls k a0 a1 a2 t229 t230 _ A9.out).mono ?_); rintro e w' ⟨rfl, ⟨nd, rfl⟩⟩; refine ⟨_, rfl, ?_⟩) | (go_at_call 12; (with_reducible refine (papermilllaw37_awake.calls k  t231 _ A16.out).mono ?_); rintro e w17 ⟨rfl, hb⟩; have n0_ := Aside0.mk (below_step (by repeat (first | (with_reducible first | exact HB.out | apply below_alloc | apply pw_below_drewN | apply below_drew1) | exact HB.out)) hb); clear HB; have HB := n0_; clear n0_; (try clear hb); (try clear hb2); (try clear hk); (try clear hi)))
                   go_ret
                   exact ⟨by first | rfl | (simp [errW_none, errW_some] <;> rfl) | (simp [*, errW_none, errW_some] <;> rfl), by repeat (first | (with_reducible first | exact HB.out | apply below_alloc | apply pw_below_drewN | apply below_drew1) | exact HB.out)⟩)
            · rw [if_neg c15] at H
              have c15b0 : (t228 == t230) = false := beq_eq_false_iff_ne.mpr c15
              have c15b1 : (t228 != t230) = true := bne_iff_ne.mpr c15
              exact absurd ((Option.some.inj H).trans hr_.out) (by decide)
          · rw [if_neg c14] at H
            have c14b0 : (t227 == t229) = false := beq_eq_false_iff_ne.mpr c14
            have c14b1 : (t227 != t229) = true := bne_iff_ne.mpr c14
            exact absurd ((Option.some.inj H).trans hr_.out) (by decide)
        · rw [if_neg c13] at H
          have c13b0 : (t224 == t226) = false := beq_eq_false_iff_ne.mpr c13
          have c13b1 : (t224 != t226) = true := bne_iff_ne.mpr c13
          exact absurd ((Option.some.inj H).trans hr_.out) (by decide)
      · rw [if_neg c12] at H
        have c12b0 : (t223 == t225) = false := beq_eq_false_iff_ne.mpr c12
        have c12b1 : (t223 != t225) = true := bne_iff_ne.mpr c12
        exact absurd ((Option.some.inj H).trans hr_.out) (by decide)
    · rw [if_neg c11] at H
      have c11b0 : (t220 == t222) = false := beq_eq_false_iff_ne.mpr c11
      have c11b1 : (t220 != t222) = true := bne_iff_ne.mpr c11
      exact absurd ((Option.some.inj H).trans hr_.out) (by decide)
  · rw [if_neg c10] at H
    have c10b0 : (t219 == t221) = false := beq_eq_false_iff_ne.mpr c10
    have c10b1 : (t219 != t221) = true := bne_iff_ne.mpr c10
    exact absurd ((Option.some.inj H).trans hr_.out) (by decide)

/-- THE ONE PURE STATEMENT of papermilllaw37_DiameterLengths: yours. -/
def papermilllaw37_DiameterLengths.Pure : Prop := ∀ (a0 : Int) (a1 : Int) (a2 : Int), (Lit.int .i64 a0).wf = true → (Lit.int .i64 a1).wf = true → (Lit.int .i64 a2).wf = true → ∃ k, papermilllaw37_DiameterLengths.f k a0 a1 a2 = some true
theorem papermilllaw37_DiameterLengths.walk (P : papermilllaw37_DiameterLengths.Pure) (a0 : Int) (a1 : Int) (a2 : Int) (w : World) (w0 : (Lit.int .i64 a0).wf = true) (w1 : (Lit.int .i64 a1).wf = true) (w2 : (Lit.int .i64 a2).wf = true) :
    Calls Try.prog 9 #[.int .i64 a0, .int .i64 a1, .int .i64 a2] w fun e w' => e = .returned (.bool true) ∧ Below w.heap.size w w' := by
  obtain ⟨k, h⟩ := P a0 a1 a2 w0 w1 w2
  refine (papermilllaw37_DiameterLengths.calls k a0 a1 a2 true w ⟨rfl⟩ h).mono ?_
  rintro e w' ⟨rfl, hd⟩
  exact ⟨rfl, hd⟩

end Go.Proofs.Ytnjcedkgnjohfaa.P
