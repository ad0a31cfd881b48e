-- Written by a program (wip/prog/pp.py) over the kit's print; some of its functions are proved by hand. Not trusted: Lean checks it.
import Derived.Test.YtfjeekjlhgjckaaPx0
import Derived.Test.YtfjeekjlhgjckaaPx1
import Derived.Test.YtfjeekjlhgjckaaPx5
import Derived.Test.YtfjeekjlhgjckaaPx6
import Derived.Test.YtfjeekjlhgjckaaPx7
import Derived.Test.YtfjeekjlhgjckaaPx8
import Derived.Test.YtfjeekjlhgjckaaHandWhen
namespace Go.Proofs.Ytfjeekjlhgjckaa.P
open Go.RowKit Go.Proofs.YtfjeekjlhgjckaaW.PrintWords Go.Proofs.YtfjeekjlhgjckaaW.PrintLast Go.Proofs.YtfjeekjlhgjckaaW.PrintMore
attribute [local go_sem] max2_int min2_int max_two min_two max_three min_three max_four min_four   -- for this text's walks alone
set_option linter.unusedVariables false
set_option linter.unusedSimpArgs false

attribute [local go_sem high] eqA30
/-! ### papermilllaw29_awake: function 13 -/
def papermilllaw29_awake.g (k : Nat)  : Option (Bool) := (some (([(⟨5, 10⟩ : S42)] : List (S42)) : List (S42))).bind fun y128 => ((drive_Length.f k y128 8).bind fun bt131 => ((drive_When.f y128 29).bind fun bt133 => ((drive_Window.f k y128 9 11).bind fun bt135 => ((drive_Ramp.f k 3 10 0 4).bind fun bt139 => ((drive_Length.f k (([(⟨0, 40000⟩ : S42)] : List (S42))) 429496).bind fun bt146 => ((drive_Length.f k (([(⟨0, 40000⟩ : S42)] : List (S42))) 429497).bind fun bt151 => ((drive_When.f ([] : List (S42)) 0).bind fun bt153 => (if bt131.1 = 30 then (if bt131.2 = 0 then (if bt133.1 = 7 then (if bt133.2 = 0 then (if (bt135.1 == 5 && (bt135.2.1 == 7)) = true then (if bt135.2.2 = 0 then ((papermillref29_Same.f k bt139.1 (([(⟨3, 10⟩ : S42), (⟨4, 6⟩ : S42), (⟨5, 2⟩ : S42), (⟨6, 0⟩ : S42)] : List (S42)))).bind fun t158 => (if t158 = true then (if bt139.2 = 0 then (if bt146.1 = 17179840000 then (if bt146.2 = 0 then (if bt151.2 = 21 then (some (bt153.2 == 7)) else (some false)) else (some false)) else (some false)) else (some false)) else (some false))) else (some false)) else (some false)) else (some false)) else (some false)) else (some false)) else (some false)))))))))
theorem papermilllaw29_awake.gmono : ∀ k, LeO (papermilllaw29_awake.g k ) (papermilllaw29_awake.g (k + 1) ) := by
  intro  k
  unfold papermilllaw29_awake.g
  repeat' first
      | (with_reducible exact drive_Length.mono _ _ _)
      | (with_reducible exact drive_Ramp.mono _ _ _ _ _)
      | (with_reducible exact drive_Window.mono _ _ _ _)
      | (with_reducible exact papermillref29_Same.mono _ _ _)
      | (with_reducible exact LeO.refl _)
      | (with_reducible exact LeO.none _)
      | (with_reducible refine LeO.ite ?_ ?_)
      | (with_reducible refine LeO.bind ?_ (fun _ => ?_))
      | exact drive_Length.mono _ _ _
      | exact drive_Ramp.mono _ _ _ _ _
      | exact drive_Window.mono _ _ _ _
      | exact papermillref29_Same.mono _ _ _
      | exact LeO.none _
      | refine LeO.ite ?_ ?_
      | refine LeO.bind ?_ (fun _ => ?_)
set_option maxHeartbeats 8000000 in
set_option maxRecDepth 100000 in
theorem papermilllaw29_awake.gcalls (k : Nat)  (r : Bool) (w : World) (hr_ : Aside0 (r = true)) (h : papermilllaw29_awake.g k  = some r) :
    Calls Try.prog 13 #[] w fun e w' => e = .returned (.bool r) ∧ Below w.heap.size w w' := by
  have hu42 := Try.underlying42
  have hu30 := Try.underlying30
  have HB := Aside0.mk (Below.refl w.heap.size w)
  have H : ((some (([(⟨5, 10⟩ : S42)] : List (S42)) : List (S42))).bind fun y128 => ((drive_Length.f k y128 8).bind fun bt131 => ((drive_When.f y128 29).bind fun bt133 => ((drive_Window.f k y128 9 11).bind fun bt135 => ((drive_Ramp.f k 3 10 0 4).bind fun bt139 => ((drive_Length.f k (([(⟨0, 40000⟩ : S42)] : List (S42))) 429496).bind fun bt146 => ((drive_Length.f k (([(⟨0, 40000⟩ : S42)] : List (S42))) 429497).bind fun bt151 => ((drive_When.f ([] : List (S42)) 0).bind fun bt153 => (if bt131.1 = 30 then (if bt131.2 = 0 then (if bt133.1 = 7 then (if bt133.2 = 0 then (if (bt135.1 == 5 && (bt135.2.1 == 7)) = true then (if bt135.2.2 = 0 then ((papermillref29_Same.f k bt139.1 (([(⟨3, 10⟩ : S42), (⟨4, 6⟩ : S42), (⟨5, 2⟩ : S42), (⟨6, 0⟩ : S42)] : List (S42)))).bind fun t158 => (if t158 = true then (if bt139.2 = 0 then (if bt146.1 = 17179840000 then (if bt146.2 = 0 then (if bt151.2 = 21 then (some (bt153.2 == 7)) else (some false)) else (some false)) else (some false)) else (some false)) else (some false))) else (some false)) else (some false)) else (some false)) else (some false)) else (some false)) else (some false)))))))))) = some r := h
  clear h
  obtain ⟨y128, hy128⟩ : ∃ y_ : List (S42), y_ = (([(⟨5, 10⟩ : S42)] : List (S42))) := ⟨_, rfl⟩
  replace H : ((drive_Length.f k y128 8).bind fun bt131 => ((drive_When.f y128 29).bind fun bt133 => ((drive_Window.f k y128 9 11).bind fun bt135 => ((drive_Ramp.f k 3 10 0 4).bind fun bt139 => ((drive_Length.f k (([(⟨0, 40000⟩ : S42)] : List (S42))) 429496).bind fun bt146 => ((drive_Length.f k (([(⟨0, 40000⟩ : S42)] : List (S42))) 429497).bind fun bt151 => ((drive_When.f ([] : List (S42)) 0).bind fun bt153 => (if bt131.1 = 30 then (if bt131.2 = 0 then (if bt133.1 = 7 then (if bt133.2 = 0 then (if (bt135.1 == 5 && (bt135.2.1 == 7)) = true then (if bt135.2.2 = 0 then ((papermillref29_Same.f k bt139.1 (([(⟨3, 10⟩ : S42), (⟨4, 6⟩ : S42), (⟨5, 2⟩ : S42), (⟨6, 0⟩ : S42)] : List (S42)))).bind fun t158 => (if t158 = true then (if bt139.2 = 0 then (if bt146.1 = 17179840000 then (if bt146.2 = 0 then (if bt151.2 = 21 then (some (bt153.2 == 7)) else (some false)) else (some false)) else (some false)) else (some false)) else (some false))) else (some false)) else (some false)) else (some false)) else (some false)) else (some false)) else (some false))))))))) = some r := by first | (rw [hy128]; with_reducible exact H) | (have H2_ := (Option.bind_some _ _).symm.trans H; rw [hy128]; with_reducible exact H2_) | (have H2_ := (Option.bind_some _ _).symm.trans H; with_reducible exact H2_) | with_reducible exact H | (rw [hy128]; exact H) | exact H
  have Ny128 := Aside0.mk hy128
  clear hy128
  replace H := Option.bind_eq_some_iff.mp H
  obtain ⟨⟨t131, t132⟩, A10, H⟩ := H
  replace H : ((drive_When.f y128 29).bind fun bt133 => ((drive_Window.f k y128 9 11).bind fun bt135 => ((drive_Ramp.f k 3 10 0 4).bind fun bt139 => ((drive_Length.f k (([(⟨0, 40000⟩ : S42)] : List (S42))) 429496).bind fun bt146 => ((drive_Length.f k (([(⟨0, 40000⟩ : S42)] : List (S42))) 429497).bind fun bt151 => ((drive_When.f ([] : List (S42)) 0).bind fun bt153 => (if t131 = 30 then (if t132 = 0 then (if bt133.1 = 7 then (if bt133.2 = 0 then (if (bt135.1 == 5 && (bt135.2.1 == 7)) = true then (if bt135.2.2 = 0 then ((papermillref29_Same.f k bt139.1 (([(⟨3, 10⟩ : S42), (⟨4, 6⟩ : S42), (⟨5, 2⟩ : S42), (⟨6, 0⟩ : S42)] : List (S42)))).bind fun t158 => (if t158 = true then (if bt139.2 = 0 then (if bt146.1 = 17179840000 then (if bt146.2 = 0 then (if bt151.2 = 21 then (some (bt153.2 == 7)) else (some false)) else (some false)) else (some false)) else (some false)) else (some false))) else (some false)) else (some false)) else (some false)) else (some false)) else (some false)) else (some false)))))))) = some r := H
  have A1 := Aside0.mk A10
  clear A10
  replace H := Option.bind_eq_some_iff.mp H
  obtain ⟨⟨t133, t134⟩, A20, H⟩ := H
  replace H : ((drive_Window.f k y128 9 11).bind fun bt135 => ((drive_Ramp.f k 3 10 0 4).bind fun bt139 => ((drive_Length.f k (([(⟨0, 40000⟩ : S42)] : List (S42))) 429496).bind fun bt146 => ((drive_Length.f k (([(⟨0, 40000⟩ : S42)] : List (S42))) 429497).bind fun bt151 => ((drive_When.f ([] : List (S42)) 0).bind fun bt153 => (if t131 = 30 then (if t132 = 0 then (if t133 = 7 then (if t134 = 0 then (if (bt135.1 == 5 && (bt135.2.1 == 7)) = true then (if bt135.2.2 = 0 then ((papermillref29_Same.f k bt139.1 (([(⟨3, 10⟩ : S42), (⟨4, 6⟩ : S42), (⟨5, 2⟩ : S42), (⟨6, 0⟩ : S42)] : List (S42)))).bind fun t158 => (if t158 = true then (if bt139.2 = 0 then (if bt146.1 = 17179840000 then (if bt146.2 = 0 then (if bt151.2 = 21 then (some (bt153.2 == 7)) else (some false)) else (some false)) else (some false)) else (some false)) else (some false))) else (some false)) else (some false)) else (some false)) else (some false)) else (some false)) else (some false))))))) = some r := H
  have A2 := Aside0.mk A20
  clear A20
  replace H := Option.bind_eq_some_iff.mp H
  obtain ⟨⟨t135, t136, t137⟩, A30, H⟩ := H
  replace H : ((drive_Ramp.f k 3 10 0 4).bind fun bt139 => ((drive_Length.f k (([(⟨0, 40000⟩ : S42)] : List (S42))) 429496).bind fun bt146 => ((drive_Length.f k (([(⟨0, 40000⟩ : S42)] : List (S42))) 429497).bind fun bt151 => ((drive_When.f ([] : List (S42)) 0).bind fun bt153 => (if t131 = 30 then (if t132 = 0 then (if t133 = 7 then (if t134 = 0 then (if (t135 == 5 && (t136 == 7)) = true then (if t137 = 0 then ((papermillref29_Same.f k bt139.1 (([(⟨3, 10⟩ : S42), (⟨4, 6⟩ : S42), (⟨5, 2⟩ : S42), (⟨6, 0⟩ : S42)] : List (S42)))).bind fun t158 => (if t158 = true then (if bt139.2 = 0 then (if bt146.1 = 17179840000 then (if bt146.2 = 0 then (if bt151.2 = 21 then (some (bt153.2 == 7)) else (some false)) else (some false)) else (some false)) else (some false)) else (some false))) else (some false)) else (some false)) else (some false)) else (some false)) else (some false)) else (some false)))))) = some r := H
  have A3 := Aside0.mk A30
  clear A30
  replace H := Option.bind_eq_some_iff.mp H
  obtain ⟨⟨t139, t140⟩, A40, H⟩ := H
  replace H : ((drive_Length.f k (([(⟨0, 40000⟩ : S42)] : List (S42))) 429496).bind fun bt146 => ((drive_Length.f k (([(⟨0, 40000⟩ : S42)] : List (S42))) 429497).bind fun bt151 => ((drive_When.f ([] : List (S42)) 0).bind fun bt153 => (if t131 = 30 then (if t132 = 0 then (if t133 = 7 then (if t134 = 0 then (if (t135 == 5 && (t136 == 7)) = true then (if t137 = 0 then ((papermillref29_Same.f k t139 (([(⟨3, 10⟩ : S42), (⟨4, 6⟩ : S42), (⟨5, 2⟩ : S42), (⟨6, 0⟩ : S42)] : List (S42)))).bind fun t158 => (if t158 = true then (if t140 = 0 then (if bt146.1 = 17179840000 then (if bt146.2 = 0 then (if bt151.2 = 21 then (some (bt153.2 == 7)) else (some false)) else (some false)) else (some false)) else (some false)) else (some false))) else (some false)) else (some false)) else (some false)) else (some false)) else (some false)) else (some false))))) = some r := H
  have A4 := Aside0.mk A40
  clear A40
  obtain ⟨y143, hy143⟩ : ∃ y_ : List (S42), y_ = (([(⟨0, 40000⟩ : S42)] : List (S42))) := ⟨_, rfl⟩
  replace H : ((drive_Length.f k y143 429496).bind fun bt146 => ((drive_Length.f k (([(⟨0, 40000⟩ : S42)] : List (S42))) 429497).bind fun bt151 => ((drive_When.f ([] : List (S42)) 0).bind fun bt153 => (if t131 = 30 then (if t132 = 0 then (if t133 = 7 then (if t134 = 0 then (if (t135 == 5 && (t136 == 7)) = true then (if t137 = 0 then ((papermillref29_Same.f k t139 (([(⟨3, 10⟩ : S42), (⟨4, 6⟩ : S42), (⟨5, 2⟩ : S42), (⟨6, 0⟩ : S42)] : List (S42)))).bind fun t158 => (if t158 = true then (if t140 = 0 then (if bt146.1 = 17179840000 then (if bt146.2 = 0 then (if bt151.2 = 21 then (some (bt153.2 == 7)) else (some false)) else (some false)) else (some false)) else (some false)) else (some false))) else (some false)) else (some false)) else (some false)) else (some false)) else (some false)) else (some false))))) = some r := by first | (rw [hy143]; with_reducible exact H) | (have H2_ := (Option.bind_some _ _).symm.trans H; rw [hy143]; with_reducible exact H2_) | (have H2_ := (Option.bind_some _ _).symm.trans H; with_reducible exact H2_) | with_reducible exact H | (rw [hy143]; exact H) | exact H
  have Ny143 := Aside0.mk hy143
  clear hy143
  replace H := Option.bind_eq_some_iff.mp H
  obtain ⟨⟨t146, t147⟩, A50, H⟩ := H
  replace H : ((drive_Length.f k (([(⟨0, 40000⟩ : S42)] : List (S42))) 429497).bind fun bt151 => ((drive_When.f ([] : List (S42)) 0).bind fun bt153 => (if t131 = 30 then (if t132 = 0 then (if t133 = 7 then (if t134 = 0 then (if (t135 == 5 && (t136 == 7)) = true then (if t137 = 0 then ((papermillref29_Same.f k t139 (([(⟨3, 10⟩ : S42), (⟨4, 6⟩ : S42), (⟨5, 2⟩ : S42), (⟨6, 0⟩ : S42)] : List (S42)))).bind fun t158 => (if t158 = true then (if t140 = 0 then (if t146 = 17179840000 then (if t147 = 0 then (if bt151.2 = 21 then (some (bt153.2 == 7)) else (some false)) else (some false)) else (some false)) else (some false)) else (some false))) else (some false)) else (some false)) else (some false)) else (some false)) else (some false)) else (some false)))) = some r := H
  have A5 := Aside0.mk A50
  clear A50
  obtain ⟨y148, hy148⟩ : ∃ y_ : List (S42), y_ = (([(⟨0, 40000⟩ : S42)] : List (S42))) := ⟨_, rfl⟩
  replace H : ((drive_Length.f k y148 429497).bind fun bt151 => ((drive_When.f ([] : List (S42)) 0).bind fun bt153 => (if t131 = 30 then (if t132 = 0 then (if t133 = 7 then (if t134 = 0 then (if (t135 == 5 && (t136 == 7)) = true then (if t137 = 0 then ((papermillref29_Same.f k t139 (([(⟨3, 10⟩ : S42), (⟨4, 6⟩ : S42), (⟨5, 2⟩ : S42), (⟨6, 0⟩ : S42)] : List (S42)))).bind fun t158 => (if t158 = true then (if t140 = 0 then (if t146 = 17179840000 then (if t147 = 0 then (if bt151.2 = 21 then (some (bt153.2 == 7)) else (some false)) else (some false)) else (some false)) else (some false)) else (some false))) else (some false)) else (some false)) else (some false)) else (some false)) else (some false)) else (some false)))) = some r := by first | (rw [hy148]; with_reducible exact H) | (have H2_ := (Option.bind_some _ _).symm.trans H; rw [hy148]; with_reducible exact H2_) | (have H2_ := (Option.bind_some _ _).symm.trans H; with_reducible exact H2_) | with_reducible exact H | (rw [hy148]; exact H) | exact H
  have Ny148 := Aside0.mk hy148
  clear hy148
  replace H := Option.bind_eq_some_iff.mp H
  obtain ⟨⟨t151, t152⟩, A60, H⟩ := H
  replace H : ((drive_When.f ([] : List (S42)) 0).bind fun bt153 => (if t131 = 30 then (if t132 = 0 then (if t133 = 7 then (if t134 = 0 then (if (t135 == 5 && (t136 == 7)) = true then (if t137 = 0 then ((papermillref29_Same.f k t139 (([(⟨3, 10⟩ : S42), (⟨4, 6⟩ : S42), (⟨5, 2⟩ : S42), (⟨6, 0⟩ : S42)] : List (S42)))).bind fun t158 => (if t158 = true then (if t140 = 0 then (if t146 = 17179840000 then (if t147 = 0 then (if t152 = 21 then (some (bt153.2 == 7)) else (some false)) else (some false)) else (some false)) else (some false)) else (some false))) else (some false)) else (some false)) else (some false)) else (some false)) else (some false)) else (some false))) = some r := H
  have A6 := Aside0.mk A60
  clear A60
  replace H := Option.bind_eq_some_iff.mp H
  obtain ⟨⟨t153, t154⟩, A70, H⟩ := H
  replace H : (if t131 = 30 then (if t132 = 0 then (if t133 = 7 then (if t134 = 0 then (if (t135 == 5 && (t136 == 7)) = true then (if t137 = 0 then ((papermillref29_Same.f k t139 (([(⟨3, 10⟩ : S42), (⟨4, 6⟩ : S42), (⟨5, 2⟩ : S42), (⟨6, 0⟩ : S42)] : List (S42)))).bind fun t158 => (if t158 = true then (if t140 = 0 then (if t146 = 17179840000 then (if t147 = 0 then (if t152 = 21 then (some (t154 == 7)) else (some false)) else (some false)) else (some false)) else (some false)) else (some false))) else (some false)) else (some false)) else (some false)) else (some false)) else (some false)) else (some false)) = some r := H
  have A7 := Aside0.mk A70
  clear A70
  by_cases c8 : t131 = 30
  · rw [if_pos c8] at H
    have c8b0 : (t131 == 30) = true := beq_iff_eq.mpr c8
    have c8b1 : (t131 != 30) = false := bne_eq_false_iff_eq.mpr c8
    clear c8
    by_cases c9 : t132 = 0
    · rw [if_pos c9] at H
      have c9b0 : (t132 == 0) = true := beq_iff_eq.mpr c9
      have c9b1 : (t132 != 0) = false := bne_eq_false_iff_eq.mpr c9
      clear c9
      by_cases c10 : t133 = 7
      · rw [if_pos c10] at H
        have c10b0 : (t133 == 7) = true := beq_iff_eq.mpr c10
        have c10b1 : (t133 != 7) = false := bne_eq_false_iff_eq.mpr c10
        clear c10
        by_cases c11 : t134 = 0
        · rw [if_pos c11] at H
          have c11b0 : (t134 == 0) = true := beq_iff_eq.mpr c11
          have c11b1 : (t134 != 0) = false := bne_eq_false_iff_eq.mpr c11
          clear c11
          by_cases c12 : (t135 == 5 && (t136 == 7)) = true
          · rw [if_pos c12] at H
            have c12b0 : (t135 == 5 && (t136 == 7)) = true := c12
            (try (have c12b1 : decide (t135 = 5 && (t136 == 7)) = true := by simpa using c12))
            (try (have c12b2 : (t135 == 5 && (t136 == 7)) = true := by simpa using c12))
            clear c12
            by_cases c13 : t137 = 0
            · rw [if_pos c13] at H
              have c13b0 : (t137 == 0) = true := beq_iff_eq.mpr c13
              have c13b1 : (t137 != 0) = false := bne_eq_false_iff_eq.mpr c13
              clear c13
              obtain ⟨y155, hy155⟩ : ∃ y_ : List (S42), y_ = (([(⟨3, 10⟩ : S42), (⟨4, 6⟩ : S42), (⟨5, 2⟩ : S42), (⟨6, 0⟩ : S42)] : List (S42))) := ⟨_, rfl⟩
              replace H : ((papermillref29_Same.f k t139 y155).bind fun t158 => (if t158 = true then (if t140 = 0 then (if t146 = 17179840000 then (if t147 = 0 then (if t152 = 21 then (some (t154 == 7)) else (some false)) else (some false)) else (some false)) else (some false)) else (some false))) = some r := by first | (rw [hy155]; with_reducible exact H) | (have H2_ := (Option.bind_some _ _).symm.trans H; rw [hy155]; with_reducible exact H2_) | (have H2_ := (Option.bind_some _ _).symm.trans H; with_reducible exact H2_) | with_reducible exact H | (rw [hy155]; exact H) | exact H
              have Ny155 := Aside0.mk hy155
              clear hy155
              replace H := Option.bind_eq_some_iff.mp H
              obtain ⟨t158, A140, H⟩ := H
              replace H : (if t158 = true then (if t140 = 0 then (if t146 = 17179840000 then (if t147 = 0 then (if t152 = 21 then (some (t154 == 7)) else (some false)) else (some false)) else (some false)) else (some false)) else (some false)) = some r := H
              have A14 := Aside0.mk A140
              clear A140
              by_cases c15 : t158 = true
              · subst c15
                have H1 : (if t140 = 0 then (if t146 = 17179840000 then (if t147 = 0 then (if t152 = 21 then (some (t154 == 7)) else (some false)) else (some false)) else (some false)) else (some false)) = some r := by rw [if_pos rfl] at H; exact H
                clear H
                have H := H1
                clear H1
                by_cases c16 : t140 = 0
                · rw [if_pos c16] at H
                  have c16b0 : (t140 == 0) = true := beq_iff_eq.mpr c16
                  have c16b1 : (t140 != 0) = false := bne_eq_false_iff_eq.mpr c16
                  clear c16
                  by_cases c17 : t146 = 17179840000
                  · rw [if_pos c17] at H
                    have c17b0 : (t146 == 17179840000) = true := beq_iff_eq.mpr c17
                    have c17b1 : (t146 != 17179840000) = false := bne_eq_false_iff_eq.mpr c17
                    clear c17
                    by_cases c18 : t147 = 0
                    · rw [if_pos c18] at H
                      have c18b0 : (t147 == 0) = true := beq_iff_eq.mpr c18
                      have c18b1 : (t147 != 0) = false := bne_eq_false_iff_eq.mpr c18
                      clear c18
                      by_cases c19 : t152 = 21
                      · rw [if_pos c19] at H
                        have c19b0 : (t152 == 21) = true := beq_iff_eq.mpr c19
                        have c19b1 : (t152 != 21) = false := bne_eq_false_iff_eq.mpr c19
                        clear c19
                        first
                          | exact absurd ((Option.some.inj H).trans hr_.out) (by decide)
                          | (skip
                             obtain rfl := Option.some.inj H
                             go_enter Try.func13, Try.ntmps13
                             go_wp2_with (first | ((with_reducible refine gate_dst (N := 17) rfl ?_); (try (refine gate_guard (by rfl) ?_; dsimp only)); refine Kd.R_lit k42 _ 42 ?hg (N := 17) ?hd (xs := ([(⟨5, 10⟩ : S42)] : List (S42))) (inner := [.int .i64 5, .int .i64 10]) (ok := fun _ => True) (okp := fun _ => True) ?hr ?hp (fun _ hk => hk) trivial (Below.refl _ _) (Nat.le_refl _) (by simp) ?_; (case hd => rfl); (case hg => rfl); (case hr => first | (go_simp; done) | (go_simp; rfl)); (case hp => exact (Reps.c2 (show Kd.M k42 _ _ _ (⟨5, 10⟩ : S42) [.int .i64 5, .int .i64 10] from (k42_mkM _ _ _ (⟨5, 10⟩ : S42) )) (Reps.none _ _))); intro v129 w20 ho21 hb hg_ hnew_; clear hg_ hnew_; (first | rw [← Ny128.out] at ho21 | (simp only [Int.reduceToNat] at ho21; rw [← Ny128.out] at ho21)); have n0_ := Aside0.mk (Kd.R_lower ho21 (below_size (by repeat (first | (with_reducible first | exact HB.out | apply below_alloc | apply pw_below_drewN | apply below_drew1) | exact HB.out)))); have n1_ := Aside0.mk (below_step (by repeat (first | (with_reducible first | exact HB.out | apply below_alloc | apply pw_below_drewN | apply below_drew1) | exact HB.out)) hb); clear HB; have HO130 := n0_; have HB := n1_; clear n0_ n1_; clear hb ho21; obtain ⟨Ao22, co22, eo22⟩ := Kd.R_slice HO130.out; subst eo22) | ((with_reducible refine gate_callee (f := 14) rfl ?_); refine goesL_ (some 20) rfl rfl Try.func14 (by kernel_rfl) rfl #[.slice Ao22 y128.length co22, .int .i64 8] rfl (by (try simp only [List.map_toArray, List.map_cons, List.map_nil]); first | done | rfl | (simp only [List.length_drop, List.length_take]; rfl)) ?_; (with_reducible refine (drive_Length.calls k _ _ y128 8 t131 t132 _ ?side1 ?side2 A1.out).mono ?_); (case side1 => repeat (first | exact (Kd.R_reads' HO130.out).2.2 | (with_reducible refine Kd.C_alloc ?_ _) | (with_reducible refine Kd.C_drewN ?_ _) | (with_reducible refine Kd.C_drew ?_))); (case side2 => exact (Kd.R_reads' HO130.out).2.1); rintro e w23 ⟨rfl, hb⟩; refine ⟨_, rfl, ?_⟩; have n0_ := Aside0.mk (Kd.R_below (by (with_reducible repeat (first | apply Kd.R_alloc | apply Kd.R_drewN | apply Kd.R_drew)); exact HO130.out) hb); have n1_ := Aside0.mk (below_step (by repeat (first | (with_reducible first | exact HB.out | apply below_alloc | apply pw_below_drewN | apply below_drew1) | exact HB.out)) hb); clear HO130; clear HB; have HO130 := n0_; have HB := n1_; clear n0_ n1_; (try clear hb); (try clear hb2); (try clear hk); (try clear hi)) | ((with_reducible refine gate_callee (f := 16) rfl ?_); refine goesL_ (some 25) rfl rfl Try.func16 (by kernel_rfl) rfl #[.slice Ao22 y128.length co22, .int .i64 29] rfl (by (try simp only [List.map_toArray, List.map_cons, List.map_nil]); first | done | rfl | (simp only [List.length_drop, List.length_take]; rfl)) ?_; (with_reducible refine (drive_When.calls _ _ y128 29 t133 t134 _ ?side1 ?side2 A2.out).mono ?_); (case side1 => repeat (first | exact (Kd.R_reads' HO130.out).2.2 | (with_reducible refine Kd.C_alloc ?_ _) | (with_reducible refine Kd.C_drewN ?_ _) | (with_reducible refine Kd.C_drew ?_))); (case side2 => exact (Kd.R_reads' HO130.out).2.1); rintro e w24 ⟨rfl, hb⟩; refine ⟨_, rfl, ?_⟩; have n0_ := Aside0.mk (Kd.R_below (by (with_reducible repeat (first | apply Kd.R_alloc | apply Kd.R_drewN | apply Kd.R_drew)); exact HO130.out) hb); have n1_ := Aside0.mk (below_step (by repeat (first | (with_reducible first | exact HB.out | apply below_alloc | apply pw_below_drewN | apply below_drew1) | exact HB.out)) hb); clear HO130; clear HB; have HO130 := n0_; have HB := n1_; clear n0_ n1_; (try clear hb); (try clear hb2); (try clear hk); (try clear hi)) | ((with_reducible refine gate_callee (f := 18) rfl ?_); refine goesL_ (some 31) rfl rfl Try.func18 (by kernel_rfl) rfl #[.slice Ao22 y128.length co22, .agg #[.int .i64 9, .int .i64 11]] rfl (by (try simp only [List.map_toArray, List.map_cons, List.map_nil]); first | done | rfl | (simp only [List.length_drop, List.length_take]; rfl)) ?_; (with_reducible refine (drive_Window.calls k _ _ y128 9 11 t135 t136 t137 _ ?side1 ?side2 A3.out).mono ?_); (case side1 => repeat (first | exact (Kd.R_reads' HO130.out).2.2 | (with_reducible refine Kd.C_alloc ?_ _) | (with_reducible refine Kd.C_drewN ?_ _) | (with_reducible refine Kd.C_drew ?_))); (case side2 => exact (Kd.R_reads' HO130.out).2.1); rintro e w25 ⟨rfl, hb⟩; refine ⟨_, rfl, ?_⟩; have n0_ := Aside0.mk (Kd.R_below (by (with_reducible repeat (first | apply Kd.R_alloc | apply Kd.R_drewN | apply Kd.R_drew)); exact HO130.out) hb); have n1_ := Aside0.mk (below_step (by repeat (first | (with_reducible first | exact HB.out | apply below_alloc | apply pw_below_drewN | apply below_drew1) | exact HB.out)) hb); clear HO130; clear HB; have HO130 := n0_; have HB := n1_; clear n0_ n1_; (try clear hb); (try clear hb2); (try clear hk); (try clear hi)) | ((with_reducible refine gate_dst (N := 6) rfl ?_); (try (refine gate_guard (by rfl) ?_; dsimp only)); refine box_event ?hg (N := 6) ?hd (cs := #[.int .i64 0, .int .i64 0]) (t := 30) ?hr ?_; (case hd => rfl); (case hg => rfl); (case hr => first | (go_simp; done) | (go_simp; rfl)); intro gb138 hg w26 hbox hb; have n0_ := Aside0.mk (Kd.R_below (by (with_reducible repeat (first | apply Kd.R_alloc | apply Kd.R_drewN | apply Kd.R_drew)); exact HO130.out) hb); have n1_ := Aside0.mk (below_step (by repeat (first | (with_reducible first | exact HB.out | apply below_alloc | apply pw_below_drewN | apply below_drew1) | exact HB.out)) hb); have n2_ := Aside0.mk (hbox); have n3_ := Aside0.mk ((by rw [hg]; exact (below_size (by repeat (first | (with_reducible first | exact HB.out | apply below_alloc | apply pw_below_drewN | apply below_drew1) | exact HB.out))) : w.heap.size ≤ gb138)); have n4_ := Aside0.mk ((by rw [hg]; exact (below_size (by repeat (first | (with_reducible first | exact HB.out | apply below_alloc | apply pw_below_drewN | apply below_drew1) | exact HB.out))) : w.heap.size ≤ gb138)); clear HO130; clear HB; have HO130 := n0_; have HB := n1_; have BK138 := n2_; have GW138 := n3_; have GE138 := n4_; clear n0_ n1_ n2_ n3_ n4_; clear hb hbox hg; have hcz27_0 : w26.cell? ⟨gb138, 0, none⟩ = some (.int .i64 0) := (blk_cell BK138.out 0).trans rfl; have hcz27_1 : w26.cell? ⟨gb138, 1, none⟩ = some (.int .i64 0) := (blk_cell BK138.out 1).trans rfl; have hfz27_0 := blk_frozen BK138.out 0; have hfz27_1 := blk_frozen BK138.out 1) | ((with_reducible refine gate_callee (f := 20) rfl ?_); refine goesL_ (some 35) rfl rfl Try.func20 (by kernel_rfl) rfl #[.int .i64 3, .int .i64 10, .int .i64 0, .int .i64 4] rfl (by (try simp only [List.map_toArray, List.map_cons, List.map_nil]); first | done | rfl | (simp only [List.length_drop, List.length_take]; rfl)) ?_; (with_reducible refine (drive_Ramp.calls k 3 10 0 4 t139 t140 _ A4.out).mono ?_); rintro e w28 ⟨v141, rfl, ho0, hb⟩; refine ⟨_, rfl, ?_⟩; have n0_ := Aside0.mk (Kd.R_elder' (by (with_reducible repeat (first | apply Kd.R_alloc | apply Kd.R_drewN | apply Kd.R_drew)); exact (Kd.R_mono (Kd.R_far (p := ⟨gb138, 1, none⟩) (Kd.R_far (p := ⟨gb138, 0, none⟩) (Kd.R_types HO130.out BK138.out (by decide)) (fun _ hk => hk.2) (.int .i64 t135)) (fun _ hk => hk.2) (.int .i64 t136)) (fun _ h_ => h_.1))) (Kd.R_base ho0) hb); have n1_ := Aside0.mk (Kd.R_lower (Kd.R_new' ho0 (Kd.R_lt (by (with_reducible repeat (first | apply Kd.R_alloc | apply Kd.R_drewN | apply Kd.R_drew)); exact (Kd.R_mono (Kd.R_far (p := ⟨gb138, 1, none⟩) (Kd.R_far (p := ⟨gb138, 0, none⟩) (Kd.R_types HO130.out BK138.out (by decide)) (fun _ hk => hk.2) (.int .i64 t135)) (fun _ hk => hk.2) (.int .i64 t136)) (fun _ h_ => h_.1))))) (below_size (by repeat (first | (with_reducible first | exact HB.out | apply below_alloc | apply pw_below_drewN | apply below_drew1 | refine below_set ?_ GE138.out) | exact HB.out)))); have n2_ := Aside0.mk (blk_below (g := gb138) (o := .cells #[.int .i64 t135, .int .i64 t136] 30 (0, 0)) (by (with_reducible repeat (first | refine blk_drewN ?_ _ | refine blk_drew ?_ | refine blk_alloc ?_ _)); refine blk_put (cs := #[.int .i64 t135, .int .i64 0]) ?_ 1 _ rfl; (with_reducible repeat (first | refine blk_drewN ?_ _ | refine blk_drew ?_ | refine blk_alloc ?_ _)); refine blk_put (cs := #[.int .i64 0, .int .i64 0]) ?_ 0 _ rfl; (with_reducible repeat (first | refine blk_drewN ?_ _ | refine blk_drew ?_ | refine blk_alloc ?_ _)); exact BK138.out) hb); have n3_ := Aside0.mk (below_step (by repeat (first | (with_reducible first | exact HB.out | apply below_alloc | apply pw_below_drewN | apply below_drew1 | refine below_set ?_ GE138.out) | exact HB.out)) hb); clear HO130; clear BK138; clear HB; have HO130 := n0_; have HO142 := n1_; have BK138 := n2_; have HB := n3_; clear n0_ n1_ n2_ n3_; (try clear hb); (try clear hb2); (try clear hk); (try clear hi); (try clear ho0)) | ((with_reducible refine gate_dst (N := 40) rfl ?_); (try (refine gate_guard (by rfl) ?_; dsimp only)); refine Kd.R_lit k42 _ 42 ?hg (N := 40) ?hd (xs := ([(⟨0, 40000⟩ : S42)] : List (S42))) (inner := [.int .i64 0, .int .i64 40000]) (ok := fun _ => True) (okp := fun _ => True) ?hr ?hp (fun _ hk => hk) trivial (Below.refl _ _) (Nat.le_refl _) (by simp) ?_; (case hd => rfl); (case hg => rfl); (case hr => first | (go_simp; done) | (go_simp; rfl)); (case hp => exact (Reps.c2 (show Kd.M k42 _ _ _ (⟨0, 40000⟩ : S42) [.int .i64 0, .int .i64 40000] from (k42_mkM _ _ _ (⟨0, 40000⟩ : S42) )) (Reps.none _ _))); intro v144 w29 ho30 hb hg_ hnew_; clear hg_ hnew_; (first | rw [← Ny143.out] at ho30 | (simp only [Int.reduceToNat] at ho30; rw [← Ny143.out] at ho30)); have n0_ := Aside0.mk (Kd.R_elder' (by (with_reducible repeat (first | apply Kd.R_alloc | apply Kd.R_drewN | apply Kd.R_drew)); exact HO130.out) (Kd.R_base ho30) hb); have n1_ := Aside0.mk (Kd.R_elder' (by (with_reducible repeat (first | apply Kd.R_alloc | apply Kd.R_drewN | apply Kd.R_drew)); exact HO142.out) (Kd.R_base ho30) hb); have n2_ := Aside0.mk (Kd.R_lower (Kd.R_new' (Kd.R_new' ho30 (Kd.R_lt (by (with_reducible repeat (first | apply Kd.R_alloc | apply Kd.R_drewN | apply Kd.R_drew)); exact HO130.out))) (Kd.R_lt (by (with_reducible repeat (first | apply Kd.R_alloc | apply Kd.R_drewN | apply Kd.R_drew)); exact HO142.out))) (below_size (by repeat (first | (with_reducible first | exact HB.out | apply below_alloc | apply pw_below_drewN | apply below_drew1 | refine below_set ?_ GE138.out) | exact HB.out)))); have n3_ := Aside0.mk (blk_below (g := gb138) (o := .cells #[.int .i64 t135, .int .i64 t136] 30 (0, 0)) (by (with_reducible repeat (first | refine blk_drewN ?_ _ | refine blk_drew ?_ | refine blk_alloc ?_ _)); exact BK138.out) hb); have n4_ := Aside0.mk (below_step (by repeat (first | (with_reducible first | exact HB.out | apply below_alloc | apply pw_below_drewN | apply below_drew1 | refine below_set ?_ GE138.out) | exact HB.out)) hb); clear HO130; clear HO142; clear BK138; clear HB; have HO130 := n0_; have HO142 := n1_; have HO145 := n2_; have BK138 := n3_; have HB := n4_; clear n0_ n1_ n2_ n3_ n4_; clear hb ho30; obtain ⟨Ao31, co31, eo31⟩ := Kd.R_slice HO145.out; subst eo31) | ((with_reducible refine gate_callee (f := 14) rfl ?_); refine goesL_ (some 41) rfl rfl Try.func14 (by kernel_rfl) rfl #[.slice Ao31 y143.length co31, .int .i64 429496] rfl (by (try simp only [List.map_toArray, List.map_cons, List.map_nil]); first | done | rfl | (simp only [List.length_drop, List.length_take]; rfl)) ?_; (with_reducible refine (drive_Length.calls k _ _ y143 429496 t146 t147 _ ?side1 ?side2 A5.out).mono ?_); (case side1 => repeat (first | exact (Kd.R_reads' HO145.out).2.2 | (with_reducible refine Kd.C_alloc ?_ _) | (with_reducible refine Kd.C_drewN ?_ _) | (with_reducible refine Kd.C_drew ?_))); (case side2 => exact (Kd.R_reads' HO145.out).2.1); rintro e w32 ⟨rfl, hb⟩; refine ⟨_, rfl, ?_⟩; have n0_ := Aside0.mk (Kd.R_below (by (with_reducible repeat (first | apply Kd.R_alloc | apply Kd.R_drewN | apply Kd.R_drew)); exact HO130.out) hb); have n1_ := Aside0.mk (Kd.R_below (by (with_reducible repeat (first | apply Kd.R_alloc | apply Kd.R_drewN | apply Kd.R_drew)); exact HO142.out) hb); have n2_ := Aside0.mk (Kd.R_below (by (with_reducible repeat (first | apply Kd.R_alloc | apply Kd.R_drewN | apply Kd.R_drew)); exact HO145.out) hb); have n3_ := Aside0.mk (blk_below (g := gb138) (o := .cells #[.int .i64 t135, .int .i64 t136] 30 (0, 0)) (by (with_reducible repeat (first | refine blk_drewN ?_ _ | refine blk_drew ?_ | refine blk_alloc ?_ _)); exact BK138.out) hb); have n4_ := Aside0.mk (below_step (by repeat (first | (with_reducible first | exact HB.out | apply below_alloc | apply pw_below_drewN | apply below_drew1 | refine below_set ?_ GE138.out) | exact HB.out)) hb); clear HO130; clear HO142; clear HO145; clear BK138; clear HB; have HO130 := n0_; have HO142 := n1_; have HO145 := n2_; have BK138 := n3_; have HB := n4_; clear n0_ n1_ n2_ n3_ n4_; (try clear hb); (try clear hb2); (try clear hk); (try clear hi)) | ((with_reducible refine gate_dst (N := 46) rfl ?_); (try (refine gate_guard (by rfl) ?_; dsimp only)); refine Kd.R_lit k42 _ 42 ?hg (N := 46) ?hd (xs := ([(⟨0, 40000⟩ : S42)] : List (S42))) (inner := [.int .i64 0, .int .i64 40000]) (ok := fun _ => True) (okp := fun _ => True) ?hr ?hp (fun _ hk => hk) trivial (Below.refl _ _) (Nat.le_refl _) (by simp) ?_; (case hd => rfl); (case hg => rfl); (case hr => first | (go_simp; done) | (go_simp; rfl)); (case hp => exact (Reps.c2 (show Kd.M k42 _ _ _ (⟨0, 40000⟩ : S42) [.int .i64 0, .int .i64 40000] from (k42_mkM _ _ _ (⟨0, 40000⟩ : S42) )) (Reps.none _ _))); intro v149 w33 ho34 hb hg_ hnew_; clear hg_ hnew_; (first | rw [← Ny148.out] at ho34 | (simp only [Int.reduceToNat] at ho34; rw [← Ny148.out] at ho34)); have n0_ := Aside0.mk (Kd.R_elder' (by (with_reducible repeat (first | apply Kd.R_alloc | apply Kd.R_drewN | apply Kd.R_drew)); exact HO130.out) (Kd.R_base ho34) hb); have n1_ := Aside0.mk (Kd.R_elder' (by (with_reducible repeat (first | apply Kd.R_alloc | apply Kd.R_drewN | apply Kd.R_drew)); exact HO142.out) (Kd.R_base ho34) hb); have n2_ := Aside0.mk (Kd.R_elder' (by (with_reducible repeat (first | apply Kd.R_alloc | apply Kd.R_drewN | apply Kd.R_drew)); exact HO145.out) (Kd.R_base ho34) hb); have n3_ := Aside0.mk (Kd.R_lower (Kd.R_new' (Kd.R_new' (Kd.R_new' ho34 (Kd.R_lt (by (with_reducible repeat (first | apply Kd.R_alloc | apply Kd.R_drewN | apply Kd.R_drew)); exact HO130.out))) (Kd.R_lt (by (with_reducible repeat (first | apply Kd.R_alloc | apply Kd.R_drewN | apply Kd.R_drew)); exact HO142.out))) (Kd.R_lt (by (with_reducible repeat (first | apply Kd.R_alloc | apply Kd.R_drewN | apply Kd.R_drew)); exact HO145.out))) (below_size (by repeat (first | (with_reducible first | exact HB.out | apply below_alloc | apply pw_below_drewN | apply below_drew1 | refine below_set ?_ GE138.out) | exact HB.out)))); have n4_ := Aside0.mk (blk_below (g := gb138) (o := .cells #[.int .i64 t135, .int .i64 t136] 30 (0, 0)) (by (with_reducible repeat (first | refine blk_drewN ?_ _ | refine blk_drew ?_ | refine blk_alloc ?_ _)); exact BK138.out) hb); have n5_ := Aside0.mk (below_step (by repeat (first | (with_reducible first | exact HB.out | apply below_alloc | apply pw_below_drewN | apply below_drew1 | refine below_set ?_ GE138.out) | exact HB.out)) hb); clear HO130; clear HO142; clear HO145; clear BK138; clear HB; have HO130 := n0_; have HO142 := n1_; have HO145 := n2_; have HO150 := n3_; have BK138 := n4_; have HB := n5_; clear n0_ n1_ n2_ n3_ n4_ n5_; clear hb ho34; obtain ⟨Ao35, co35, eo35⟩ := Kd.R_slice HO150.out; subst eo35) | ((with_reducible refine gate_callee (f := 14) rfl ?_); refine goesL_ (some 47) rfl rfl Try.func14 (by kernel_rfl) rfl #[.slice Ao35 y148.length co35, .int .i64 429497] rfl (by (try simp only [List.map_toArray, List.map_cons, List.map_nil]); first | done | rfl | (simp only [List.length_drop, List.length_take]; rfl)) ?_; (with_reducible refine (drive_Length.calls k _ _ y148 429497 t151 t152 _ ?side1 ?side2 A6.out).mono ?_); (case side1 => repeat (first | exact (Kd.R_reads' HO150.out).2.2 | (with_reducible refine Kd.C_alloc ?_ _) | (with_reducible refine Kd.C_drewN ?_ _) | (with_reducible refine Kd.C_drew ?_))); (case side2 => exact (Kd.R_reads' HO150.out).2.1); rintro e w36 ⟨rfl, hb⟩; refine ⟨_, rfl, ?_⟩; have n0_ := Aside0.mk (Kd.R_below (by (with_reducible repeat (first | apply Kd.R_alloc | apply Kd.R_drewN | apply Kd.R_drew)); exact HO130.out) hb); have n1_ := Aside0.mk (Kd.R_below (by (with_reducible repeat (first | apply Kd.R_alloc | apply Kd.R_drewN | apply Kd.R_drew)); exact HO142.out) hb); have n2_ := Aside0.mk (Kd.R_below (by (with_reducible repeat (first | apply Kd.R_alloc | apply Kd.R_drewN | apply Kd.R_drew)); exact HO145.out) hb); have n3_ := Aside0.mk (Kd.R_below (by (with_reducible repeat (first | apply Kd.R_alloc | apply Kd.R_drewN | apply Kd.R_drew)); exact HO150.out) hb); have n4_ := Aside0.mk (blk_below (g := gb138) (o := .cells #[.int .i64 t135, .int .i64 t136] 30 (0, 0)) (by (with_reducible repeat (first | refine blk_drewN ?_ _ | refine blk_drew ?_ | refine blk_alloc ?_ _)); exact BK138.out) hb); have n5_ := Aside0.mk (below_step (by repeat (first | (with_reducible first | exact HB.out | apply below_alloc | apply pw_below_drewN | apply below_drew1 | refine below_set ?_ GE138.out) | exact HB.out)) hb); clear HO130; clear HO142; clear HO145; clear HO150; clear BK138; clear HB; have HO130 := n0_; have HO142 := n1_; have HO145 := n2_; have HO150 := n3_; have BK138 := n4_; have HB := n5_; clear n0_ n1_ n2_ n3_ n4_ n5_; (try clear hb); (try clear hb2); (try clear hk); (try clear hi)) | ((with_reducible refine gate_callee (f := 16) rfl ?_); refine goesL_ (some 51) rfl rfl Try.func16 (by kernel_rfl) rfl #[.slice none 0 0, .int .i64 0] rfl (by (try simp only [List.map_toArray, List.map_cons, List.map_nil]); first | done | rfl | (simp only [List.length_drop, List.length_take]; rfl)) ?_; (refine (drive_When.calls _ _ ([] : List (S42)) 0 t153 t154 _ ?side1 ?side2 A7.out).mono ?_); (case side1 => exact Kd.C_nil _ _); (case side2 => exact Nat.le_refl _); rintro e w37 ⟨rfl, hb⟩; refine ⟨_, rfl, ?_⟩; have n0_ := Aside0.mk (Kd.R_below (by (with_reducible repeat (first | apply Kd.R_alloc | apply Kd.R_drewN | apply Kd.R_drew)); exact HO130.out) hb); have n1_ := Aside0.mk (Kd.R_below (by (with_reducible repeat (first | apply Kd.R_alloc | apply Kd.R_drewN | apply Kd.R_drew)); exact HO142.out) hb); have n2_ := Aside0.mk (Kd.R_below (by (with_reducible repeat (first | apply Kd.R_alloc | apply Kd.R_drewN | apply Kd.R_drew)); exact HO145.out) hb); have n3_ := Aside0.mk (Kd.R_below (by (with_reducible repeat (first | apply Kd.R_alloc | apply Kd.R_drewN | apply Kd.R_drew)); exact HO150.out) hb); have n4_ := Aside0.mk (blk_below (g := gb138) (o := .cells #[.int .i64 t135, .int .i64 t136] 30 (0, 0)) (by (with_reducible repeat (first | refine blk_drewN ?_ _ | refine blk_drew ?_ | refine blk_alloc ?_ _)); exact BK138.out) hb); have n5_ := Aside0.mk (below_step (by repeat (first | (with_reducible first | exact HB.out | apply below_alloc | apply pw_below_drewN | apply below_drew1 | refine below_set ?_ GE138.out) | exact HB.out)) hb); clear HO130; clear HO142; clear HO145; clear HO150; clear BK138; clear HB; have HO130 := n0_; have HO142 := n1_; have HO145 := n2_; have HO150 := n3_; have BK138 := n4_; have HB := n5_; clear n0_ n1_ n2_ n3_ n4_ n5_; (try clear hb); (try clear hb2); (try clear hk); (try clear hi); have hcz38_0 : w37.cell? ⟨gb138, 0, none⟩ = some (.int .i64 t135) := (blk_cell BK138.out 0).trans rfl; have hcz38_1 : w37.cell? ⟨gb138, 1, none⟩ = some (.int .i64 t136) := (blk_cell BK138.out 1).trans rfl; have hfz38_0 := blk_frozen BK138.out 0; have hfz38_1 := blk_frozen BK138.out 1) | ((with_reducible refine gate_dst (N := 83) rfl ?_); (try (refine gate_guard (by rfl) ?_; dsimp only)); refine Kd.R_lit k42 _ 42 ?hg (N := 83) ?hd (xs := ([(⟨3, 10⟩ : S42), (⟨4, 6⟩ : S42), (⟨5, 2⟩ : S42), (⟨6, 0⟩ : S42)] : List (S42))) (inner := [.int .i64 3, .int .i64 10, .int .i64 4, .int .i64 6, .int .i64 5, .int .i64 2, .int .i64 6, .int .i64 0]) (ok := fun _ => True) (okp := fun _ => True) ?hr ?hp (fun _ hk => hk) trivial (Below.refl _ _) (Nat.le_refl _) (by simp) ?_; (case hd => rfl); (case hg => rfl); (case hr => first | (go_simp; done) | (go_simp; rfl)); (case hp => exact (Reps.c2 (show Kd.M k42 _ _ _ (⟨3, 10⟩ : S42) [.int .i64 3, .int .i64 10] from (k42_mkM _ _ _ (⟨3, 10⟩ : S42) )) (Reps.c2 (show Kd.M k42 _ _ _ (⟨4, 6⟩ : S42) [.int .i64 4, .int .i64 6] from (k42_mkM _ _ _ (⟨4, 6⟩ : S42) )) (Reps.c2 (show Kd.M k42 _ _ _ (⟨5, 2⟩ : S42) [.int .i64 5, .int .i64 2] from (k42_mkM _ _ _ (⟨5, 2⟩ : S42) )) (Reps.c2 (show Kd.M k42 _ _ _ (⟨6, 0⟩ : S42) [.int .i64 6, .int .i64 0] from (k42_mkM _ _ _ (⟨6, 0⟩ : S42) )) (Reps.none _ _)))))); intro v156 w39 ho40 hb hg_ hnew_; clear hg_ hnew_; (first | rw [← Ny155.out] at ho40 | (simp only [Int.reduceToNat] at ho40; rw [← Ny155.out] at ho40)); have n0_ := Aside0.mk (Kd.R_elder' (by (with_reducible repeat (first | apply Kd.R_alloc | apply Kd.R_drewN | apply Kd.R_drew)); exact HO130.out) (Kd.R_base ho40) hb); have n1_ := Aside0.mk (Kd.R_elder' (by (with_reducible repeat (first | apply Kd.R_alloc | apply Kd.R_drewN | apply Kd.R_drew)); exact HO142.out) (Kd.R_base ho40) hb); have n2_ := Aside0.mk (Kd.R_elder' (by (with_reducible repeat (first | apply Kd.R_alloc | apply Kd.R_drewN | apply Kd.R_drew)); exact HO145.out) (Kd.R_base ho40) hb); have n3_ := Aside0.mk (Kd.R_elder' (by (with_reducible repeat (first | apply Kd.R_alloc | apply Kd.R_drewN | apply Kd.R_drew)); exact HO150.out) (Kd.R_base ho40) hb); have n4_ := Aside0.mk (Kd.R_lower (Kd.R_new' (Kd.R_new' (Kd.R_new' (Kd.R_new' ho40 (Kd.R_lt (by (with_reducible repeat (first | apply Kd.R_alloc | apply Kd.R_drewN | apply Kd.R_drew)); exact HO130.out))) (Kd.R_lt (by (with_reducible repeat (first | apply Kd.R_alloc | apply Kd.R_drewN | apply Kd.R_drew)); exact HO142.out))) (Kd.R_lt (by (with_reducible repeat (first | apply Kd.R_alloc | apply Kd.R_drewN | apply Kd.R_drew)); exact HO145.out))) (Kd.R_lt (by (with_reducible repeat (first | apply Kd.R_alloc | apply Kd.R_drewN | apply Kd.R_drew)); exact HO150.out))) (below_size (by repeat (first | (with_reducible first | exact HB.out | apply below_alloc | apply pw_below_drewN | apply below_drew1 | refine below_set ?_ GE138.out) | exact HB.out)))); have n5_ := Aside0.mk (blk_below (g := gb138) (o := .cells #[.int .i64 t135, .int .i64 t136] 30 (0, 0)) (by (with_reducible repeat (first | refine blk_drewN ?_ _ | refine blk_drew ?_ | refine blk_alloc ?_ _)); exact BK138.out) hb); have n6_ := Aside0.mk (below_step (by repeat (first | (with_reducible first | exact HB.out | apply below_alloc | apply pw_below_drewN | apply below_drew1 | refine below_set ?_ GE138.out) | exact HB.out)) hb); clear HO130; clear HO142; clear HO145; clear HO150; clear BK138; clear HB; have HO130 := n0_; have HO142 := n1_; have HO145 := n2_; have HO150 := n3_; have HO157 := n4_; have BK138 := n5_; have HB := n6_; clear n0_ n1_ n2_ n3_ n4_ n5_ n6_; clear hb ho40; obtain ⟨Ao41, co41, eo41⟩ := Kd.R_slice HO142.out; subst eo41; obtain ⟨Ao42, co42, eo42⟩ := Kd.R_slice HO157.out; subst eo42) | (go_at_call 22; (with_reducible refine (papermillref29_Same.calls k _ _ t139 _ _ y155 true _ ?side1 ?side2 ?side3 ?side4 A14.out).mono ?_); (case side1 => repeat (first | exact (Kd.R_reads' HO142.out).2.2 | (with_reducible refine Kd.C_alloc ?_ _) | (with_reducible refine Kd.C_drewN ?_ _) | (with_reducible refine Kd.C_drew ?_))); (case side2 => exact (Kd.R_reads' HO142.out).2.1); (case side3 => repeat (first | exact (Kd.R_reads' HO157.out).2.2 | (with_reducible refine Kd.C_alloc ?_ _) | (with_reducible refine Kd.C_drewN ?_ _) | (with_reducible refine Kd.C_drew ?_))); (case side4 => exact (Kd.R_reads' HO157.out).2.1); rintro e w' ⟨rfl, ⟨nd, rfl⟩⟩))
                             go_ret
                             exact ⟨by first | rfl | (simp [errW_none, errW_some] <;> rfl) | (simp [*, errW_none, errW_some] <;> rfl), by repeat (first | (with_reducible first | exact HB.out | apply below_alloc | apply pw_below_drewN | apply below_drew1 | refine below_set ?_ GE138.out) | exact HB.out)⟩)
                      · rw [if_neg c19] at H
                        have c19b0 : (t152 == 21) = false := beq_eq_false_iff_ne.mpr c19
                        have c19b1 : (t152 != 21) = true := bne_iff_ne.mpr c19
                        exact absurd ((Option.some.inj H).trans hr_.out) (by decide)
                    · rw [if_neg c18] at H
                      have c18b0 : (t147 == 0) = false := beq_eq_false_iff_ne.mpr c18
                      have c18b1 : (t147 != 0) = true := bne_iff_ne.mpr c18
                      exact absurd ((Option.some.inj H).trans hr_.out) (by decide)
                  · rw [if_neg c17] at H
                    have c17b0 : (t146 == 17179840000) = false := beq_eq_false_iff_ne.mpr c17
                    have c17b1 : (t146 != 17179840000) = true := bne_iff_ne.mpr c17
                    exact absurd ((Option.some.inj H).trans hr_.out) (by decide)
                · rw [if_neg c16] at H
                  have c16b0 : (t140 == 0) = false := beq_eq_false_iff_ne.mpr c16
                  have c16b1 : (t140 != 0) = true := bne_iff_ne.mpr c16
                  exact absurd ((Option.some.inj H).trans hr_.out) (by decide)
              · replace c15 := Bool.eq_false_iff.mpr c15
                subst c15
                have H1 : (some false) = some r := by rw [if_neg (show ¬ (false = true) by decide)] at H; exact H
                clear H
                have H := H1
                clear H1
                exact absurd ((Option.some.inj H).trans hr_.out) (by decide)
            · rw [if_neg c13] at H
              have c13b0 : (t137 == 0) = false := beq_eq_false_iff_ne.mpr c13
              have c13b1 : (t137 != 0) = true := bne_iff_ne.mpr c13
              exact absurd ((Option.some.inj H).trans hr_.out) (by decide)
          · rw [if_neg c12] at H
            have c12b0 : (t135 == 5 && (t136 == 7)) = false := by simpa using c12
            (try (have c12b1 : decide (t135 = 5 && (t136 == 7)) = false := by simpa using c12))
            (try (have c12b2 : (t135 == 5 && (t136 == 7)) = false := by simpa using c12))
            (try (have c12b3 : ¬ (t135 = 5 && (t136 == 7)) := by simpa using c12))
            clear c12
            exact absurd ((Option.some.inj H).trans hr_.out) (by decide)
        · rw [if_neg c11] at H
          have c11b0 : (t134 == 0) = false := beq_eq_false_iff_ne.mpr c11
          have c11b1 : (t134 != 0) = true := bne_iff_ne.mpr c11
          exact absurd ((Option.some.inj H).trans hr_.out) (by decide)
      · rw [if_neg c10] at H
        have c10b0 : (t133 == 7) = false := beq_eq_false_iff_ne.mpr c10
        have c10b1 : (t133 != 7) = true := bne_iff_ne.mpr c10
        exact absurd ((Option.some.inj H).trans hr_.out) (by decide)
    · rw [if_neg c9] at H
      have c9b0 : (t132 == 0) = false := beq_eq_false_iff_ne.mpr c9
      have c9b1 : (t132 != 0) = true := bne_iff_ne.mpr c9
      exact absurd ((Option.some.inj H).trans hr_.out) (by decide)
  · rw [if_neg c8] at H
    have c8b0 : (t131 == 30) = false := beq_eq_false_iff_ne.mpr c8
    have c8b1 : (t131 != 30) = true := bne_iff_ne.mpr c8
    exact absurd ((Option.some.inj H).trans hr_.out) (by decide)

def papermilllaw29_awake.f (k : Nat) : Option Bool := (papermilllaw29_awake.g k ).bind fun b => if b = true then some b else none
theorem papermilllaw29_awake.mono : ∀ k, LeO (papermilllaw29_awake.f k) (papermilllaw29_awake.f (k + 1)) := fun k => LeO.bind (papermilllaw29_awake.gmono k) (fun _ => LeO.refl _)
theorem papermilllaw29_awake.calls (k : Nat) (r : Bool) (w : World) (h : papermilllaw29_awake.f k = some r) :
    Calls Try.prog 13 #[] w fun e w' => e = .returned (.bool r) ∧ Below w.heap.size w w' := by
  obtain ⟨b, hb, h2⟩ := Option.bind_eq_some_iff.mp h
  have e : b = true ∧ r = true := by
    cases b with
    | true => exact ⟨rfl, (Option.some.inj h2).symm⟩
    | false => simp at h2
  obtain ⟨rfl, rfl⟩ := e
  exact papermilllaw29_awake.gcalls k true w ⟨rfl⟩ hb

/-! ### papermillref29_moment: function 32 -/
def papermillref29_moment.f (a0 : Int) : Option (Bool) := if a0 ≥ 0 then (some (decide (a0 ≤ 2147483647))) else (some false)
set_option maxHeartbeats 8000000 in
set_option maxRecDepth 100000 in
theorem papermillref29_moment.calls (a0 : Int) (r : Bool) (w : World) (h : papermillref29_moment.f a0 = some r) :
    Calls Try.prog 32 #[.int .i64 a0] w fun e w' => e = .returned (.bool r) ∧ Drawn0 w w' := by
  have H : (if a0 ≥ 0 then (some (decide (a0 ≤ 2147483647))) else (some false)) = some r := h
  clear h
  by_cases c2 : a0 ≥ 0
  · rw [if_pos c2] at H
    have c2b0 : decide (0 ≤ a0) = true := decide_eq_true c2
    clear c2
    obtain rfl := Option.some.inj H
    go_enter Try.func32, Try.ntmps32
    go_wp2
    go_ret
    exact ⟨by first | rfl | (simp; done) | (simp [*]; done), by repeat (first | exact Drawn0.refl _ | apply Drawn0.step)⟩
  · rw [if_neg c2] at H
    have c2b0 : decide (0 ≤ a0) = false := decide_eq_false c2
    clear c2
    obtain rfl := Option.some.inj H
    go_enter Try.func32, Try.ntmps32
    go_wp2
    go_ret
    exact ⟨by first | rfl | (simp; done) | (simp [*]; done), by repeat (first | exact Drawn0.refl _ | apply Drawn0.step)⟩

end Go.Proofs.Ytfjeekjlhgjckaa.P
