-- Written by a program (wip/prog/pp.py) over the kit's print; some of its functions are proved by hand. Not trusted: Lean checks it.
import Derived.Test.YthbfkmgcomomfaaPx0
import Derived.Test.YthbfkmgcomomfaaPx3
import Derived.Test.YthbfkmgcomomfaaPx4
import Derived.Test.YthbfkmgcomomfaaPx5
import Derived.Test.YthbfkmgcomomfaaHandMulDiv
namespace Go.Proofs.Ythbfkmgcomomfaa.P
open Go.RowKit Go.Proofs.YthbfkmgcomomfaaW.PrintWords Go.Proofs.YthbfkmgcomomfaaW.PrintLast Go.Proofs.YthbfkmgcomomfaaW.PrintMore
attribute [local go_sem] max2_int min2_int max_two min_two max_three min_three max_four min_four   -- for this text's walks alone
set_option linter.unusedVariables false
set_option linter.unusedSimpArgs false

/-! ### papermilllaw01_awake: function 8 -/
def papermilllaw01_awake.g (k : Nat)  : Option (Bool) := (num_Mul.f 33554432 33554432).bind fun bt132 => ((num_Mul.f 33554432 33554433).bind fun bt134 => ((num_Sum.f k (([1125899906842624, 1125899906842624, (-1125899906842624)] : List Int))).bind fun bt139 => ((num_MulDiv.f 7 1 (-2) 0).bind fun bt141 => ((num_MulDiv.f 7 1 (-2) 1).bind fun bt143 => ((num_MulDiv.f 7 1 (-2) 2).bind fun bt145 => ((num_Gcd.f k (-12) 18).bind fun bt147 => ((num_Sqrt.f k 15).bind fun bt149 => ((num_Add.f k 1125899906842624 1).bind fun bt151 => ((num_Add.f k 1125899906842625 0).bind fun bt153 => (if bt132.1 = 1125899906842624 then (if bt132.2 = 0 then (if bt134.2 = 2 then (if bt139.1 = 1125899906842624 then (if bt139.2 = 0 then (if bt141.1 = (-4) then (if bt141.2 = 0 then (if bt143.1 = (-3) then (if bt143.2 = 0 then (if bt145.1 = (-4) then (if bt145.2 = 0 then (if bt147.1 = 6 then (if bt147.2 = 0 then (if bt149.1 = 3 then (if bt149.2 = 0 then (if bt151.2 = 2 then (some (bt153.2 == 1)) else (some false)) else (some false)) else (some false)) else (some false)) else (some false)) else (some false)) else (some false)) else (some false)) else (some false)) else (some false)) else (some false)) else (some false)) else (some false)) else (some false)) else (some false)) else (some false)))))))))))
theorem papermilllaw01_awake.gmono : ∀ k, LeO (papermilllaw01_awake.g k ) (papermilllaw01_awake.g (k + 1) ) := by
  intro  k
  unfold papermilllaw01_awake.g
  repeat' first
      | (with_reducible exact num_Add.mono _ _ _)
      | (with_reducible exact num_Gcd.mono _ _ _)
      | (with_reducible exact num_Sqrt.mono _ _)
      | (with_reducible exact num_Sum.mono _ _)
      | (with_reducible exact LeO.refl _)
      | (with_reducible exact LeO.none _)
      | (with_reducible refine LeO.ite ?_ ?_)
      | (with_reducible refine LeO.bind ?_ (fun _ => ?_))
      | exact num_Add.mono _ _ _
      | exact num_Gcd.mono _ _ _
      | exact num_Sqrt.mono _ _
      | exact num_Sum.mono _ _
      | exact LeO.none _
      | refine LeO.ite ?_ ?_
      | refine LeO.bind ?_ (fun _ => ?_)
set_option maxHeartbeats 8000000 in
set_option maxRecDepth 100000 in
theorem papermilllaw01_awake.gcalls (k : Nat)  (r : Bool) (w : World) (hr_ : Aside0 (r = true)) (h : papermilllaw01_awake.g k  = some r) :
    Calls Try.prog 8 #[] w fun e w' => e = .returned (.bool r) ∧ Below w.heap.size w w' := by
  have HB := Aside0.mk (Below.refl w.heap.size w)
  have H : ((num_Mul.f 33554432 33554432).bind fun bt132 => ((num_Mul.f 33554432 33554433).bind fun bt134 => ((num_Sum.f k (([1125899906842624, 1125899906842624, (-1125899906842624)] : List Int))).bind fun bt139 => ((num_MulDiv.f 7 1 (-2) 0).bind fun bt141 => ((num_MulDiv.f 7 1 (-2) 1).bind fun bt143 => ((num_MulDiv.f 7 1 (-2) 2).bind fun bt145 => ((num_Gcd.f k (-12) 18).bind fun bt147 => ((num_Sqrt.f k 15).bind fun bt149 => ((num_Add.f k 1125899906842624 1).bind fun bt151 => ((num_Add.f k 1125899906842625 0).bind fun bt153 => (if bt132.1 = 1125899906842624 then (if bt132.2 = 0 then (if bt134.2 = 2 then (if bt139.1 = 1125899906842624 then (if bt139.2 = 0 then (if bt141.1 = (-4) then (if bt141.2 = 0 then (if bt143.1 = (-3) then (if bt143.2 = 0 then (if bt145.1 = (-4) then (if bt145.2 = 0 then (if bt147.1 = 6 then (if bt147.2 = 0 then (if bt149.1 = 3 then (if bt149.2 = 0 then (if bt151.2 = 2 then (some (bt153.2 == 1)) else (some false)) else (some false)) else (some false)) else (some false)) else (some false)) else (some false)) else (some false)) else (some false)) else (some false)) else (some false)) else (some false)) else (some false)) else (some false)) else (some false)) else (some false)) else (some false)))))))))))) = some r := h
  clear h
  replace H := Option.bind_eq_some_iff.mp H
  obtain ⟨⟨t132, t133⟩, A10, H⟩ := H
  replace H : ((num_Mul.f 33554432 33554433).bind fun bt134 => ((num_Sum.f k (([1125899906842624, 1125899906842624, (-1125899906842624)] : List Int))).bind fun bt139 => ((num_MulDiv.f 7 1 (-2) 0).bind fun bt141 => ((num_MulDiv.f 7 1 (-2) 1).bind fun bt143 => ((num_MulDiv.f 7 1 (-2) 2).bind fun bt145 => ((num_Gcd.f k (-12) 18).bind fun bt147 => ((num_Sqrt.f k 15).bind fun bt149 => ((num_Add.f k 1125899906842624 1).bind fun bt151 => ((num_Add.f k 1125899906842625 0).bind fun bt153 => (if t132 = 1125899906842624 then (if t133 = 0 then (if bt134.2 = 2 then (if bt139.1 = 1125899906842624 then (if bt139.2 = 0 then (if bt141.1 = (-4) then (if bt141.2 = 0 then (if bt143.1 = (-3) then (if bt143.2 = 0 then (if bt145.1 = (-4) then (if bt145.2 = 0 then (if bt147.1 = 6 then (if bt147.2 = 0 then (if bt149.1 = 3 then (if bt149.2 = 0 then (if bt151.2 = 2 then (some (bt153.2 == 1)) else (some false)) else (some false)) else (some false)) else (some false)) else (some false)) else (some false)) else (some false)) else (some false)) else (some false)) else (some false)) else (some false)) else (some false)) else (some false)) else (some false)) else (some false)) else (some false))))))))))) = some r := H
  have A1 := Aside0.mk A10
  clear A10
  replace H := Option.bind_eq_some_iff.mp H
  obtain ⟨⟨t134, t135⟩, A20, H⟩ := H
  replace H : ((num_Sum.f k (([1125899906842624, 1125899906842624, (-1125899906842624)] : List Int))).bind fun bt139 => ((num_MulDiv.f 7 1 (-2) 0).bind fun bt141 => ((num_MulDiv.f 7 1 (-2) 1).bind fun bt143 => ((num_MulDiv.f 7 1 (-2) 2).bind fun bt145 => ((num_Gcd.f k (-12) 18).bind fun bt147 => ((num_Sqrt.f k 15).bind fun bt149 => ((num_Add.f k 1125899906842624 1).bind fun bt151 => ((num_Add.f k 1125899906842625 0).bind fun bt153 => (if t132 = 1125899906842624 then (if t133 = 0 then (if t135 = 2 then (if bt139.1 = 1125899906842624 then (if bt139.2 = 0 then (if bt141.1 = (-4) then (if bt141.2 = 0 then (if bt143.1 = (-3) then (if bt143.2 = 0 then (if bt145.1 = (-4) then (if bt145.2 = 0 then (if bt147.1 = 6 then (if bt147.2 = 0 then (if bt149.1 = 3 then (if bt149.2 = 0 then (if bt151.2 = 2 then (some (bt153.2 == 1)) else (some false)) else (some false)) else (some false)) else (some false)) else (some false)) else (some false)) else (some false)) else (some false)) else (some false)) else (some false)) else (some false)) else (some false)) else (some false)) else (some false)) else (some false)) else (some false)))))))))) = some r := H
  have A2 := Aside0.mk A20
  clear A20
  obtain ⟨y136, hy136⟩ : ∃ y_ : List Int, y_ = (([1125899906842624, 1125899906842624, (-1125899906842624)] : List Int)) := ⟨_, rfl⟩
  replace H : ((num_Sum.f k y136).bind fun bt139 => ((num_MulDiv.f 7 1 (-2) 0).bind fun bt141 => ((num_MulDiv.f 7 1 (-2) 1).bind fun bt143 => ((num_MulDiv.f 7 1 (-2) 2).bind fun bt145 => ((num_Gcd.f k (-12) 18).bind fun bt147 => ((num_Sqrt.f k 15).bind fun bt149 => ((num_Add.f k 1125899906842624 1).bind fun bt151 => ((num_Add.f k 1125899906842625 0).bind fun bt153 => (if t132 = 1125899906842624 then (if t133 = 0 then (if t135 = 2 then (if bt139.1 = 1125899906842624 then (if bt139.2 = 0 then (if bt141.1 = (-4) then (if bt141.2 = 0 then (if bt143.1 = (-3) then (if bt143.2 = 0 then (if bt145.1 = (-4) then (if bt145.2 = 0 then (if bt147.1 = 6 then (if bt147.2 = 0 then (if bt149.1 = 3 then (if bt149.2 = 0 then (if bt151.2 = 2 then (some (bt153.2 == 1)) else (some false)) else (some false)) else (some false)) else (some false)) else (some false)) else (some false)) else (some false)) else (some false)) else (some false)) else (some false)) else (some false)) else (some false)) else (some false)) else (some false)) else (some false)) else (some false)))))))))) = some r := by first | (rw [hy136]; with_reducible exact H) | (have H2_ := (Option.bind_some _ _).symm.trans H; rw [hy136]; with_reducible exact H2_) | (have H2_ := (Option.bind_some _ _).symm.trans H; with_reducible exact H2_) | with_reducible exact H | (rw [hy136]; exact H) | exact H
  have Ny136 := Aside0.mk hy136
  clear hy136
  replace H := Option.bind_eq_some_iff.mp H
  obtain ⟨⟨t139, t140⟩, A30, H⟩ := H
  replace H : ((num_MulDiv.f 7 1 (-2) 0).bind fun bt141 => ((num_MulDiv.f 7 1 (-2) 1).bind fun bt143 => ((num_MulDiv.f 7 1 (-2) 2).bind fun bt145 => ((num_Gcd.f k (-12) 18).bind fun bt147 => ((num_Sqrt.f k 15).bind fun bt149 => ((num_Add.f k 1125899906842624 1).bind fun bt151 => ((num_Add.f k 1125899906842625 0).bind fun bt153 => (if t132 = 1125899906842624 then (if t133 = 0 then (if t135 = 2 then (if t139 = 1125899906842624 then (if t140 = 0 then (if bt141.1 = (-4) then (if bt141.2 = 0 then (if bt143.1 = (-3) then (if bt143.2 = 0 then (if bt145.1 = (-4) then (if bt145.2 = 0 then (if bt147.1 = 6 then (if bt147.2 = 0 then (if bt149.1 = 3 then (if bt149.2 = 0 then (if bt151.2 = 2 then (some (bt153.2 == 1)) else (some false)) else (some false)) else (some false)) else (some false)) else (some false)) else (some false)) else (some false)) else (some false)) else (some false)) else (some false)) else (some false)) else (some false)) else (some false)) else (some false)) else (some false)) else (some false))))))))) = some r := H
  have A3 := Aside0.mk A30
  clear A30
  replace H := Option.bind_eq_some_iff.mp H
  obtain ⟨⟨t141, t142⟩, A40, H⟩ := H
  replace H : ((num_MulDiv.f 7 1 (-2) 1).bind fun bt143 => ((num_MulDiv.f 7 1 (-2) 2).bind fun bt145 => ((num_Gcd.f k (-12) 18).bind fun bt147 => ((num_Sqrt.f k 15).bind fun bt149 => ((num_Add.f k 1125899906842624 1).bind fun bt151 => ((num_Add.f k 1125899906842625 0).bind fun bt153 => (if t132 = 1125899906842624 then (if t133 = 0 then (if t135 = 2 then (if t139 = 1125899906842624 then (if t140 = 0 then (if t141 = (-4) then (if t142 = 0 then (if bt143.1 = (-3) then (if bt143.2 = 0 then (if bt145.1 = (-4) then (if bt145.2 = 0 then (if bt147.1 = 6 then (if bt147.2 = 0 then (if bt149.1 = 3 then (if bt149.2 = 0 then (if bt151.2 = 2 then (some (bt153.2 == 1)) else (some false)) else (some false)) else (some false)) else (some false)) else (some false)) else (some false)) else (some false)) else (some false)) else (some false)) else (some false)) else (some false)) else (some false)) else (some false)) else (some false)) else (some false)) else (some false)))))))) = some r := H
  have A4 := Aside0.mk A40
  clear A40
  replace H := Option.bind_eq_some_iff.mp H
  obtain ⟨⟨t143, t144⟩, A50, H⟩ := H
  replace H : ((num_MulDiv.f 7 1 (-2) 2).bind fun bt145 => ((num_Gcd.f k (-12) 18).bind fun bt147 => ((num_Sqrt.f k 15).bind fun bt149 => ((num_Add.f k 1125899906842624 1).bind fun bt151 => ((num_Add.f k 1125899906842625 0).bind fun bt153 => (if t132 = 1125899906842624 then (if t133 = 0 then (if t135 = 2 then (if t139 = 1125899906842624 then (if t140 = 0 then (if t141 = (-4) then (if t142 = 0 then (if t143 = (-3) then (if t144 = 0 then (if bt145.1 = (-4) then (if bt145.2 = 0 then (if bt147.1 = 6 then (if bt147.2 = 0 then (if bt149.1 = 3 then (if bt149.2 = 0 then (if bt151.2 = 2 then (some (bt153.2 == 1)) else (some false)) else (some false)) else (some false)) else (some false)) else (some false)) else (some false)) else (some false)) else (some false)) else (some false)) else (some false)) else (some false)) else (some false)) else (some false)) else (some false)) else (some false)) else (some false))))))) = some r := H
  have A5 := Aside0.mk A50
  clear A50
  replace H := Option.bind_eq_some_iff.mp H
  obtain ⟨⟨t145, t146⟩, A60, H⟩ := H
  replace H : ((num_Gcd.f k (-12) 18).bind fun bt147 => ((num_Sqrt.f k 15).bind fun bt149 => ((num_Add.f k 1125899906842624 1).bind fun bt151 => ((num_Add.f k 1125899906842625 0).bind fun bt153 => (if t132 = 1125899906842624 then (if t133 = 0 then (if t135 = 2 then (if t139 = 1125899906842624 then (if t140 = 0 then (if t141 = (-4) then (if t142 = 0 then (if t143 = (-3) then (if t144 = 0 then (if t145 = (-4) then (if t146 = 0 then (if bt147.1 = 6 then (if bt147.2 = 0 then (if bt149.1 = 3 then (if bt149.2 = 0 then (if bt151.2 = 2 then (some (bt153.2 == 1)) else (some false)) else (some false)) else (some false)) else (some false)) else (some false)) else (some false)) else (some false)) else (some false)) else (some false)) else (some false)) else (some false)) else (some false)) else (some false)) else (some false)) else (some false)) else (some false)))))) = some r := H
  have A6 := Aside0.mk A60
  clear A60
  replace H := Option.bind_eq_some_iff.mp H
  obtain ⟨⟨t147, t148⟩, A70, H⟩ := H
  replace H : ((num_Sqrt.f k 15).bind fun bt149 => ((num_Add.f k 1125899906842624 1).bind fun bt151 => ((num_Add.f k 1125899906842625 0).bind fun bt153 => (if t132 = 1125899906842624 then (if t133 = 0 then (if t135 = 2 then (if t139 = 1125899906842624 then (if t140 = 0 then (if t141 = (-4) then (if t142 = 0 then (if t143 = (-3) then (if t144 = 0 then (if t145 = (-4) then (if t146 = 0 then (if t147 = 6 then (if t148 = 0 then (if bt149.1 = 3 then (if bt149.2 = 0 then (if bt151.2 = 2 then (some (bt153.2 == 1)) else (some false)) else (some false)) else (some false)) else (some false)) else (some false)) else (some false)) else (some false)) else (some false)) else (some false)) else (some false)) else (some false)) else (some false)) else (some false)) else (some false)) else (some false)) else (some false))))) = some r := H
  have A7 := Aside0.mk A70
  clear A70
  replace H := Option.bind_eq_some_iff.mp H
  obtain ⟨⟨t149, t150⟩, A80, H⟩ := H
  replace H : ((num_Add.f k 1125899906842624 1).bind fun bt151 => ((num_Add.f k 1125899906842625 0).bind fun bt153 => (if t132 = 1125899906842624 then (if t133 = 0 then (if t135 = 2 then (if t139 = 1125899906842624 then (if t140 = 0 then (if t141 = (-4) then (if t142 = 0 then (if t143 = (-3) then (if t144 = 0 then (if t145 = (-4) then (if t146 = 0 then (if t147 = 6 then (if t148 = 0 then (if t149 = 3 then (if t150 = 0 then (if bt151.2 = 2 then (some (bt153.2 == 1)) else (some false)) else (some false)) else (some false)) else (some false)) else (some false)) else (some false)) else (some false)) else (some false)) else (some false)) else (some false)) else (some false)) else (some false)) else (some false)) else (some false)) else (some false)) else (some false)))) = some r := H
  have A8 := Aside0.mk A80
  clear A80
  replace H := Option.bind_eq_some_iff.mp H
  obtain ⟨⟨t151, t152⟩, A90, H⟩ := H
  replace H : ((num_Add.f k 1125899906842625 0).bind fun bt153 => (if t132 = 1125899906842624 then (if t133 = 0 then (if t135 = 2 then (if t139 = 1125899906842624 then (if t140 = 0 then (if t141 = (-4) then (if t142 = 0 then (if t143 = (-3) then (if t144 = 0 then (if t145 = (-4) then (if t146 = 0 then (if t147 = 6 then (if t148 = 0 then (if t149 = 3 then (if t150 = 0 then (if t152 = 2 then (some (bt153.2 == 1)) else (some false)) else (some false)) else (some false)) else (some false)) else (some false)) else (some false)) else (some false)) else (some false)) else (some false)) else (some false)) else (some false)) else (some false)) else (some false)) else (some false)) else (some false)) else (some false))) = some r := H
  have A9 := Aside0.mk A90
  clear A90
  replace H := Option.bind_eq_some_iff.mp H
  obtain ⟨⟨t153, t154⟩, A100, H⟩ := H
  replace H : (if t132 = 1125899906842624 then (if t133 = 0 then (if t135 = 2 then (if t139 = 1125899906842624 then (if t140 = 0 then (if t141 = (-4) then (if t142 = 0 then (if t143 = (-3) then (if t144 = 0 then (if t145 = (-4) then (if t146 = 0 then (if t147 = 6 then (if t148 = 0 then (if t149 = 3 then (if t150 = 0 then (if t152 = 2 then (some (t154 == 1)) else (some false)) else (some false)) else (some false)) else (some false)) else (some false)) else (some false)) else (some false)) else (some false)) else (some false)) else (some false)) else (some false)) else (some false)) else (some false)) else (some false)) else (some false)) else (some false)) = some r := H
  have A10 := Aside0.mk A100
  clear A100
  by_cases c11 : t132 = 1125899906842624
  · rw [if_pos c11] at H
    have c11b0 : (t132 == 1125899906842624) = true := beq_iff_eq.mpr c11
    have c11b1 : (t132 != 1125899906842624) = false := bne_eq_false_iff_eq.mpr c11
    clear c11
    by_cases c12 : t133 = 0
    · rw [if_pos c12] at H
      have c12b0 : (t133 == 0) = true := beq_iff_eq.mpr c12
      have c12b1 : (t133 != 0) = false := bne_eq_false_iff_eq.mpr c12
      clear c12
      by_cases c13 : t135 = 2
      · rw [if_pos c13] at H
        have c13b0 : (t135 == 2) = true := beq_iff_eq.mpr c13
        have c13b1 : (t135 != 2) = false := bne_eq_false_iff_eq.mpr c13
        clear c13
        by_cases c14 : t139 = 1125899906842624
        · rw [if_pos c14] at H
          have c14b0 : (t139 == 1125899906842624) = true := beq_iff_eq.mpr c14
          have c14b1 : (t139 != 1125899906842624) = false := bne_eq_false_iff_eq.mpr c14
          clear c14
          by_cases c15 : t140 = 0
          · rw [if_pos c15] at H
            have c15b0 : (t140 == 0) = true := beq_iff_eq.mpr c15
            have c15b1 : (t140 != 0) = false := bne_eq_false_iff_eq.mpr c15
            clear c15
            by_cases c16 : t141 = (-4)
            · rw [if_pos c16] at H
              have c16b0 : (t141 == (-4)) = true := beq_iff_eq.mpr c16
              have c16b1 : (t141 != (-4)) = false := bne_eq_false_iff_eq.mpr c16
              clear c16
              by_cases c17 : t142 = 0
              · rw [if_pos c17] at H
                have c17b0 : (t142 == 0) = true := beq_iff_eq.mpr c17
                have c17b1 : (t142 != 0) = false := bne_eq_false_iff_eq.mpr c17
                clear c17
                by_cases c18 : t143 = (-3)
                · rw [if_pos c18] at H
                  have c18b0 : (t143 == (-3)) = true := beq_iff_eq.mpr c18
                  have c18b1 : (t143 != (-3)) = false := bne_eq_false_iff_eq.mpr c18
                  clear c18
                  by_cases c19 : t144 = 0
                  · rw [if_pos c19] at H
                    have c19b0 : (t144 == 0) = true := beq_iff_eq.mpr c19
                    have c19b1 : (t144 != 0) = false := bne_eq_false_iff_eq.mpr c19
                    clear c19
                    by_cases c20 : t145 = (-4)
                    · rw [if_pos c20] at H
                      have c20b0 : (t145 == (-4)) = true := beq_iff_eq.mpr c20
                      have c20b1 : (t145 != (-4)) = false := bne_eq_false_iff_eq.mpr c20
                      clear c20
                      by_cases c21 : t146 = 0
                      · rw [if_pos c21] at H
                        have c21b0 : (t146 == 0) = true := beq_iff_eq.mpr c21
                        have c21b1 : (t146 != 0) = false := bne_eq_false_iff_eq.mpr c21
                        clear c21
                        by_cases c22 : t147 = 6
                        · rw [if_pos c22] at H
                          have c22b0 : (t147 == 6) = true := beq_iff_eq.mpr c22
                          have c22b1 : (t147 != 6) = false := bne_eq_false_iff_eq.mpr c22
                          clear c22
                          by_cases c23 : t148 = 0
                          · rw [if_pos c23] at H
                            have c23b0 : (t148 == 0) = true := beq_iff_eq.mpr c23
                            have c23b1 : (t148 != 0) = false := bne_eq_false_iff_eq.mpr c23
                            clear c23
                            by_cases c24 : t149 = 3
                            · rw [if_pos c24] at H
                              have c24b0 : (t149 == 3) = true := beq_iff_eq.mpr c24
                              have c24b1 : (t149 != 3) = false := bne_eq_false_iff_eq.mpr c24
                              clear c24
                              by_cases c25 : t150 = 0
                              · rw [if_pos c25] at H
                                have c25b0 : (t150 == 0) = true := beq_iff_eq.mpr c25
                                have c25b1 : (t150 != 0) = false := bne_eq_false_iff_eq.mpr c25
                                clear c25
                                by_cases c26 : t152 = 2
                                · rw [if_pos c26] at H
                                  have c26b0 : (t152 == 2) = true := beq_iff_eq.mpr c26
                                  have c26b1 : (t152 != 2) = false := bne_eq_false_iff_eq.mpr c26
                                  clear c26
                                  first
                                    | exact absurd ((Option.some.inj H).trans hr_.out) (by decide)
                                    | (skip
                                       obtain rfl := Option.some.inj H
                                       go_enter Try.func8, Try.ntmps8
                                       go_wp2_with (first | ((with_reducible refine gate_callee (f := 4) rfl ?_); refine goesL_ (some 22) rfl rfl Try.func4 (by kernel_rfl) rfl #[.int .i64 33554432, .int .i64 33554432] rfl (by (try simp only [List.map_toArray, List.map_cons, List.map_nil]); first | done | rfl | (simp only [List.length_drop, List.length_take]; rfl)) ?_; (with_reducible refine (num_Mul.calls 33554432 33554432 t132 t133 _ A1.out).mono ?_); rintro e w27 ⟨rfl, hb⟩; refine ⟨_, rfl, ?_⟩; have n0_ := Aside0.mk (below_step (by repeat (first | (with_reducible first | exact HB.out | apply below_alloc | apply pw_below_drewN | apply below_drew1) | exact HB.out)) hb); clear HB; have HB := n0_; clear n0_; (try clear hb); (try clear hb2); (try clear hk); (try clear hi)) | ((with_reducible refine gate_callee (f := 4) rfl ?_); refine goesL_ (some 26) rfl rfl Try.func4 (by kernel_rfl) rfl #[.int .i64 33554432, .int .i64 33554433] rfl (by (try simp only [List.map_toArray, List.map_cons, List.map_nil]); first | done | rfl | (simp only [List.length_drop, List.length_take]; rfl)) ?_; (with_reducible refine (num_Mul.calls 33554432 33554433 t134 t135 _ A2.out).mono ?_); rintro e w28 ⟨rfl, hb⟩; refine ⟨_, rfl, ?_⟩; have n0_ := Aside0.mk (below_step (by repeat (first | (with_reducible first | exact HB.out | apply below_alloc | apply pw_below_drewN | apply below_drew1) | exact HB.out)) hb); clear HB; have HB := n0_; clear n0_; (try clear hb); (try clear hb2); (try clear hk); (try clear hi)) | ((with_reducible refine gate_dst (N := 30) rfl ?_); refine Kd.R_lit (Kd.int .i64) _ 3 ?hg (N := 30) ?hd (xs := ([1125899906842624, 1125899906842624, (-1125899906842624)] : List Int)) (inner := [.int .i64 1125899906842624, .int .i64 1125899906842624, .int .i64 (-1125899906842624)]) (ok := fun _ => True) (okp := fun _ => True) ?hr ?hp (fun _ hk => hk) trivial (Below.refl _ _) (Nat.le_refl _) (by simp) ?_; (case hd => rfl); (case hg => rfl); (case hr => first | (go_simp; done) | (go_simp; rfl)); (case hp => exact (Reps.one (show Kd.M (Kd.int .i64) _ _ _ 1125899906842624 [.int .i64 1125899906842624] from rfl) (Reps.one (show Kd.M (Kd.int .i64) _ _ _ 1125899906842624 [.int .i64 1125899906842624] from rfl) (Reps.one (show Kd.M (Kd.int .i64) _ _ _ (-1125899906842624) [.int .i64 (-1125899906842624)] from rfl) (Reps.none _ _))))); intro v137 w29 ho30 hb hg_ hnew_; clear hg_ hnew_; (first | rw [← Ny136.out] at ho30 | (simp only [Int.reduceToNat] at ho30; rw [← Ny136.out] at ho30)); have n0_ := Aside0.mk (Kd.R_lower ho30 (below_size (by repeat (first | (with_reducible first | exact HB.out | apply below_alloc | apply pw_below_drewN | apply below_drew1) | exact HB.out)))); have n1_ := Aside0.mk (below_step (by repeat (first | (with_reducible first | exact HB.out | apply below_alloc | apply pw_below_drewN | apply below_drew1) | exact HB.out)) hb); clear HB; have HO138 := n0_; have HB := n1_; clear n0_ n1_; clear hb ho30; obtain ⟨Ao31, co31, eo31⟩ := Kd.R_slice HO138.out; subst eo31) | ((with_reducible refine gate_callee (f := 14) rfl ?_); refine goesL_ (some 31) rfl rfl Try.func14 (by kernel_rfl) rfl #[.slice Ao31 y136.length co31] rfl (by (try simp only [List.map_toArray, List.map_cons, List.map_nil]); first | done | rfl | (simp only [List.length_drop, List.length_take]; rfl)) ?_; (with_reducible refine (num_Sum.calls k _ _ y136 t139 t140 _ ?side1 ?side2 A3.out).mono ?_); (case side1 => repeat (first | exact (Kd.R_reads' HO138.out).2.2 | (with_reducible refine Kd.C_alloc ?_ _) | (with_reducible refine Kd.C_drewN ?_ _) | (with_reducible refine Kd.C_drew ?_))); (case side2 => exact (Kd.R_reads' HO138.out).2.1); rintro e w32 ⟨rfl, hb⟩; refine ⟨_, rfl, ?_⟩; have n0_ := Aside0.mk (Kd.R_below (by (with_reducible repeat (first | apply Kd.R_alloc | apply Kd.R_drewN | apply Kd.R_drew)); exact HO138.out) hb); have n1_ := Aside0.mk (below_step (by repeat (first | (with_reducible first | exact HB.out | apply below_alloc | apply pw_below_drewN | apply below_drew1) | exact HB.out)) hb); clear HO138; clear HB; have HO138 := n0_; have HB := n1_; clear n0_ n1_; (try clear hb); (try clear hb2); (try clear hk); (try clear hi)) | ((with_reducible refine gate_callee (f := 7) rfl ?_); refine goesL_ (some 35) rfl rfl Try.func7 (by kernel_rfl) rfl #[.int .i64 7, .int .i64 1, .int .i64 (-2), .int .i64 0] rfl (by (try simp only [List.map_toArray, List.map_cons, List.map_nil]); first | done | rfl | (simp only [List.length_drop, List.length_take]; rfl)) ?_; (with_reducible refine (num_MulDiv.calls 7 1 (-2) 0 t141 t142 _ A4.out).mono ?_); rintro e w33 ⟨rfl, hb⟩; refine ⟨_, rfl, ?_⟩; have n0_ := Aside0.mk (Kd.R_below (by (with_reducible repeat (first | apply Kd.R_alloc | apply Kd.R_drewN | apply Kd.R_drew)); exact HO138.out) hb); have n1_ := Aside0.mk (below_step (by repeat (first | (with_reducible first | exact HB.out | apply below_alloc | apply pw_below_drewN | apply below_drew1) | exact HB.out)) hb); clear HO138; clear HB; have HO138 := n0_; have HB := n1_; clear n0_ n1_; (try clear hb); (try clear hb2); (try clear hk); (try clear hi)) | ((with_reducible refine gate_callee (f := 7) rfl ?_); refine goesL_ (some 39) rfl rfl Try.func7 (by kernel_rfl) rfl #[.int .i64 7, .int .i64 1, .int .i64 (-2), .int .i64 1] rfl (by (try simp only [List.map_toArray, List.map_cons, List.map_nil]); first | done | rfl | (simp only [List.length_drop, List.length_take]; rfl)) ?_; (with_reducible refine (num_MulDiv.calls 7 1 (-2) 1 t143 t144 _ A5.out).mono ?_); rintro e w34 ⟨rfl, hb⟩; refine ⟨_, rfl, ?_⟩; have n0_ := Aside0.mk (Kd.R_below (by (with_reducible repeat (first | apply Kd.R_alloc | apply Kd.R_drewN | apply Kd.R_drew)); exact HO138.out) hb); have n1_ := Aside0.mk (below_step (by repeat (first | (with_reducible first | exact HB.out | apply below_alloc | apply pw_below_drewN | apply below_drew1) | exact HB.out)) hb); clear HO138; clear HB; have HO138 := n0_; have HB := n1_; clear n0_ n1_; (try clear hb); (try clear hb2); (try clear hk); (try clear hi)) | ((with_reducible refine gate_callee (f := 7) rfl ?_); refine goesL_ (some 43) rfl rfl Try.func7 (by kernel_rfl) rfl #[.int .i64 7, .int .i64 1, .int .i64 (-2), .int .i64 2] rfl (by (try simp only [List.map_toArray, List.map_cons, List.map_nil]); first | done | rfl | (simp only [List.length_drop, List.length_take]; rfl)) ?_; (with_reducible refine (num_MulDiv.calls 7 1 (-2) 2 t145 t146 _ A6.out).mono ?_); rintro e w35 ⟨rfl, hb⟩; refine ⟨_, rfl, ?_⟩; have n0_ := Aside0.mk (Kd.R_below (by (with_reducible repeat (first | apply Kd.R_alloc | apply Kd.R_drewN | apply Kd.R_drew)); exact HO138.out) hb); have n1_ := Aside0.mk (below_step (by repeat (first | (with_reducible first | exact HB.out | apply below_alloc | apply pw_below_drewN | apply below_drew1) | exact HB.out)) hb); clear HO138; clear HB; have HO138 := n0_; have HB := n1_; clear n0_ n1_; (try clear hb); (try clear hb2); (try clear hk); (try clear hi)) | ((with_reducible refine gate_callee (f := 15) rfl ?_); refine goesL_ (some 47) rfl rfl Try.func15 (by kernel_rfl) rfl #[.int .i64 (-12), .int .i64 18] rfl (by (try simp only [List.map_toArray, List.map_cons, List.map_nil]); first | done | rfl | (simp only [List.length_drop, List.length_take]; rfl)) ?_; (with_reducible refine (num_Gcd.calls k (-12) 18 t147 t148 _ A7.out).mono ?_); rintro e w36 ⟨rfl, hb⟩; refine ⟨_, rfl, ?_⟩; have n0_ := Aside0.mk (Kd.R_below (by (with_reducible repeat (first | apply Kd.R_alloc | apply Kd.R_drewN | apply Kd.R_drew)); exact HO138.out) hb); have n1_ := Aside0.mk (below_step (by repeat (first | (with_reducible first | exact HB.out | apply below_alloc | apply pw_below_drewN | apply below_drew1) | exact HB.out)) hb); clear HO138; clear HB; have HO138 := n0_; have HB := n1_; clear n0_ n1_; (try clear hb); (try clear hb2); (try clear hk); (try clear hi)) | ((with_reducible refine gate_callee (f := 16) rfl ?_); refine goesL_ (some 51) rfl rfl Try.func16 (by kernel_rfl) rfl #[.int .i64 15] rfl (by (try simp only [List.map_toArray, List.map_cons, List.map_nil]); first | done | rfl | (simp only [List.length_drop, List.length_take]; rfl)) ?_; (with_reducible refine (num_Sqrt.calls k 15 t149 t150 _ A8.out).mono ?_); rintro e w37 ⟨rfl, hb⟩; refine ⟨_, rfl, ?_⟩; have n0_ := Aside0.mk (Kd.R_below (by (with_reducible repeat (first | apply Kd.R_alloc | apply Kd.R_drewN | apply Kd.R_drew)); exact HO138.out) hb); have n1_ := Aside0.mk (below_step (by repeat (first | (with_reducible first | exact HB.out | apply below_alloc | apply pw_below_drewN | apply below_drew1) | exact HB.out)) hb); clear HO138; clear HB; have HO138 := n0_; have HB := n1_; clear n0_ n1_; (try clear hb); (try clear hb2); (try clear hk); (try clear hi)) | ((with_reducible refine gate_callee (f := 5) rfl ?_); refine goesL_ (some 55) rfl rfl Try.func5 (by kernel_rfl) rfl #[.int .i64 1125899906842624, .int .i64 1] rfl (by (try simp only [List.map_toArray, List.map_cons, List.map_nil]); first | done | rfl | (simp only [List.length_drop, List.length_take]; rfl)) ?_; (with_reducible refine (num_Add.calls k 1125899906842624 1 t151 t152 _ A9.out).mono ?_); rintro e w38 ⟨rfl, hb⟩; refine ⟨_, rfl, ?_⟩; have n0_ := Aside0.mk (Kd.R_below (by (with_reducible repeat (first | apply Kd.R_alloc | apply Kd.R_drewN | apply Kd.R_drew)); exact HO138.out) hb); have n1_ := Aside0.mk (below_step (by repeat (first | (with_reducible first | exact HB.out | apply below_alloc | apply pw_below_drewN | apply below_drew1) | exact HB.out)) hb); clear HO138; clear HB; have HO138 := n0_; have HB := n1_; clear n0_ n1_; (try clear hb); (try clear hb2); (try clear hk); (try clear hi)) | ((with_reducible refine gate_callee (f := 5) rfl ?_); refine goesL_ (some 59) rfl rfl Try.func5 (by kernel_rfl) rfl #[.int .i64 1125899906842625, .int .i64 0] rfl (by (try simp only [List.map_toArray, List.map_cons, List.map_nil]); first | done | rfl | (simp only [List.length_drop, List.length_take]; rfl)) ?_; (with_reducible refine (num_Add.calls k 1125899906842625 0 t153 t154 _ A10.out).mono ?_); rintro e w39 ⟨rfl, hb⟩; refine ⟨_, rfl, ?_⟩; have n0_ := Aside0.mk (Kd.R_below (by (with_reducible repeat (first | apply Kd.R_alloc | apply Kd.R_drewN | apply Kd.R_drew)); exact HO138.out) hb); have n1_ := Aside0.mk (below_step (by repeat (first | (with_reducible first | exact HB.out | apply below_alloc | apply pw_below_drewN | apply below_drew1) | exact HB.out)) hb); clear HO138; clear HB; have HO138 := n0_; have HB := n1_; clear n0_ n1_; (try clear hb); (try clear hb2); (try clear hk); (try clear hi)))
                                       go_ret
                                       exact ⟨by first | rfl | (simp [errW_none, errW_some] <;> rfl) | (simp [*, errW_none, errW_some] <;> rfl), by repeat (first | (with_reducible first | exact HB.out | apply below_alloc | apply pw_below_drewN | apply below_drew1) | exact HB.out)⟩)
                                · rw [if_neg c26] at H
                                  have c26b0 : (t152 == 2) = false := beq_eq_false_iff_ne.mpr c26
                                  have c26b1 : (t152 != 2) = true := bne_iff_ne.mpr c26
                                  exact absurd ((Option.some.inj H).trans hr_.out) (by decide)
                              · rw [if_neg c25] at H
                                have c25b0 : (t150 == 0) = false := beq_eq_false_iff_ne.mpr c25
                                have c25b1 : (t150 != 0) = true := bne_iff_ne.mpr c25
                                exact absurd ((Option.some.inj H).trans hr_.out) (by decide)
                            · rw [if_neg c24] at H
                              have c24b0 : (t149 == 3) = false := beq_eq_false_iff_ne.mpr c24
                              have c24b1 : (t149 != 3) = true := bne_iff_ne.mpr c24
                              exact absurd ((Option.some.inj H).trans hr_.out) (by decide)
                          · rw [if_neg c23] at H
                            have c23b0 : (t148 == 0) = false := beq_eq_false_iff_ne.mpr c23
                            have c23b1 : (t148 != 0) = true := bne_iff_ne.mpr c23
                            exact absurd ((Option.some.inj H).trans hr_.out) (by decide)
                        · rw [if_neg c22] at H
                          have c22b0 : (t147 == 6) = false := beq_eq_false_iff_ne.mpr c22
                          have c22b1 : (t147 != 6) = true := bne_iff_ne.mpr c22
                          exact absurd ((Option.some.inj H).trans hr_.out) (by decide)
                      · rw [if_neg c21] at H
                        have c21b0 : (t146 == 0) = false := beq_eq_false_iff_ne.mpr c21
                        have c21b1 : (t146 != 0) = true := bne_iff_ne.mpr c21
                        exact absurd ((Option.some.inj H).trans hr_.out) (by decide)
                    · rw [if_neg c20] at H
                      have c20b0 : (t145 == (-4)) = false := beq_eq_false_iff_ne.mpr c20
                      have c20b1 : (t145 != (-4)) = true := bne_iff_ne.mpr c20
                      exact absurd ((Option.some.inj H).trans hr_.out) (by decide)
                  · rw [if_neg c19] at H
                    have c19b0 : (t144 == 0) = false := beq_eq_false_iff_ne.mpr c19
                    have c19b1 : (t144 != 0) = true := bne_iff_ne.mpr c19
                    exact absurd ((Option.some.inj H).trans hr_.out) (by decide)
                · rw [if_neg c18] at H
                  have c18b0 : (t143 == (-3)) = false := beq_eq_false_iff_ne.mpr c18
                  have c18b1 : (t143 != (-3)) = true := bne_iff_ne.mpr c18
                  exact absurd ((Option.some.inj H).trans hr_.out) (by decide)
              · rw [if_neg c17] at H
                have c17b0 : (t142 == 0) = false := beq_eq_false_iff_ne.mpr c17
                have c17b1 : (t142 != 0) = true := bne_iff_ne.mpr c17
                exact absurd ((Option.some.inj H).trans hr_.out) (by decide)
            · rw [if_neg c16] at H
              have c16b0 : (t141 == (-4)) = false := beq_eq_false_iff_ne.mpr c16
              have c16b1 : (t141 != (-4)) = true := bne_iff_ne.mpr c16
              exact absurd ((Option.some.inj H).trans hr_.out) (by decide)
          · rw [if_neg c15] at H
            have c15b0 : (t140 == 0) = false := beq_eq_false_iff_ne.mpr c15
            have c15b1 : (t140 != 0) = true := bne_iff_ne.mpr c15
            exact absurd ((Option.some.inj H).trans hr_.out) (by decide)
        · rw [if_neg c14] at H
          have c14b0 : (t139 == 1125899906842624) = false := beq_eq_false_iff_ne.mpr c14
          have c14b1 : (t139 != 1125899906842624) = true := bne_iff_ne.mpr c14
          exact absurd ((Option.some.inj H).trans hr_.out) (by decide)
      · rw [if_neg c13] at H
        have c13b0 : (t135 == 2) = false := beq_eq_false_iff_ne.mpr c13
        have c13b1 : (t135 != 2) = true := bne_iff_ne.mpr c13
        exact absurd ((Option.some.inj H).trans hr_.out) (by decide)
    · rw [if_neg c12] at H
      have c12b0 : (t133 == 0) = false := beq_eq_false_iff_ne.mpr c12
      have c12b1 : (t133 != 0) = true := bne_iff_ne.mpr c12
      exact absurd ((Option.some.inj H).trans hr_.out) (by decide)
  · rw [if_neg c11] at H
    have c11b0 : (t132 == 1125899906842624) = false := beq_eq_false_iff_ne.mpr c11
    have c11b1 : (t132 != 1125899906842624) = true := bne_iff_ne.mpr c11
    exact absurd ((Option.some.inj H).trans hr_.out) (by decide)

def papermilllaw01_awake.f (k : Nat) : Option Bool := (papermilllaw01_awake.g k ).bind fun b => if b = true then some b else none
theorem papermilllaw01_awake.mono : ∀ k, LeO (papermilllaw01_awake.f k) (papermilllaw01_awake.f (k + 1)) := fun k => LeO.bind (papermilllaw01_awake.gmono k) (fun _ => LeO.refl _)
theorem papermilllaw01_awake.calls (k : Nat) (r : Bool) (w : World) (h : papermilllaw01_awake.f k = some r) :
    Calls Try.prog 8 #[] w fun e w' => e = .returned (.bool r) ∧ Below w.heap.size w w' := by
  obtain ⟨b, hb, h2⟩ := Option.bind_eq_some_iff.mp h
  have e : b = true ∧ r = true := by
    cases b with
    | true => exact ⟨rfl, (Option.some.inj h2).symm⟩
    | false => simp at h2
  obtain ⟨rfl, rfl⟩ := e
  exact papermilllaw01_awake.gcalls k true w ⟨rfl⟩ hb

end Go.Proofs.Ythbfkmgcomomfaa.P
