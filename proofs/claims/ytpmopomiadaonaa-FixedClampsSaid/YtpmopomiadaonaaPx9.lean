-- Written by a program (wip/prog/pp.py) over the kit's print; some of its functions are proved by hand. Not trusted: Lean checks it.
import Derived.Test.YtpmopomiadaonaaPx0
import Derived.Test.YtpmopomiadaonaaPx1
import Derived.Test.YtpmopomiadaonaaPx4
import Derived.Test.YtpmopomiadaonaaPx8
import Derived.Test.YtpmopomiadaonaaHandText
namespace Go.Proofs.Ytpmopomiadaonaa.P
open Go.RowKit Go.Proofs.YtpmopomiadaonaaW.PrintWords Go.Proofs.YtpmopomiadaonaaW.PrintLast Go.Proofs.YtpmopomiadaonaaW.PrintMore
attribute [local go_sem] max2_int min2_int max_two min_two max_three min_three max_four min_four   -- for this text's walks alone
set_option linter.unusedVariables false
set_option linter.unusedSimpArgs false

/-! ### papermilllaw23_awake: function 16 -/
def papermilllaw23_awake.g (k : Nat)  : Option (Bool) := (fixed_Of.f 16777216).bind fun bt153 => ((fixed_Of.f 16777217).bind fun bt155 => ((fixed_Ratio.f k 1 3).bind fun bt157 => ((fixed_Mul.f k 3 32768).bind fun bt159 => ((fixed_Mul.f k 1 32768).bind fun bt161 => ((fixed_Round.f k 163840).bind fun bt163 => ((fixed_Round.f k 229376).bind fun bt165 => ((fixed_Text.f (-32768)).bind fun bt167 => ((fixed_Text.f 1).bind fun bt169 => (if bt153.1 = 1099511627776 then (if bt153.2 = 0 then (if bt155.2 = 2 then (if bt157.1 = 21845 then (if bt157.2 = 0 then (if bt159.1 = 2 then (if bt159.2 = 0 then (if bt161.1 = 0 then (if bt161.2 = 0 then (if bt163.1 = 2 then (if bt163.2 = 0 then (if bt165.1 = 4 then (if bt165.2 = 0 then (if bt167.1.toList = ([45, 48, 46, 53] : List UInt8) then (if bt167.2 = 0 then (if bt169.1.toList = ([48, 46, 48, 48, 48, 48, 49, 53, 50, 53, 56, 55, 56, 57, 48, 54, 50, 53] : List UInt8) then (some (bt169.2 == 0)) else (some false)) else (some false)) else (some false)) else (some false)) else (some false)) else (some false)) else (some false)) else (some false)) else (some false)) else (some false)) else (some false)) else (some false)) else (some false)) else (some false)) else (some false)) else (some false))))))))))
theorem papermilllaw23_awake.gmono : ∀ k, LeO (papermilllaw23_awake.g k ) (papermilllaw23_awake.g (k + 1) ) := by
  intro  k
  unfold papermilllaw23_awake.g
  repeat' first
      | (with_reducible exact fixed_Mul.mono _ _ _)
      | (with_reducible exact fixed_Ratio.mono _ _ _)
      | (with_reducible exact fixed_Round.mono _ _)
      | (with_reducible exact LeO.refl _)
      | (with_reducible exact LeO.none _)
      | (with_reducible refine LeO.ite ?_ ?_)
      | (with_reducible refine LeO.bind ?_ (fun _ => ?_))
      | exact fixed_Mul.mono _ _ _
      | exact fixed_Ratio.mono _ _ _
      | exact fixed_Round.mono _ _
      | exact LeO.none _
      | refine LeO.ite ?_ ?_
      | refine LeO.bind ?_ (fun _ => ?_)
set_option maxHeartbeats 8000000 in
set_option maxRecDepth 100000 in
theorem papermilllaw23_awake.gcalls (k : Nat)  (r : Bool) (w : World) (hr_ : Aside0 (r = true)) (h : papermilllaw23_awake.g k  = some r) :
    Calls Try.prog 16 #[] w fun e w' => e = .returned (.bool r) ∧ Below w.heap.size w w' := by
  have HB := Aside0.mk (Below.refl w.heap.size w)
  have H : ((fixed_Of.f 16777216).bind fun bt153 => ((fixed_Of.f 16777217).bind fun bt155 => ((fixed_Ratio.f k 1 3).bind fun bt157 => ((fixed_Mul.f k 3 32768).bind fun bt159 => ((fixed_Mul.f k 1 32768).bind fun bt161 => ((fixed_Round.f k 163840).bind fun bt163 => ((fixed_Round.f k 229376).bind fun bt165 => ((fixed_Text.f (-32768)).bind fun bt167 => ((fixed_Text.f 1).bind fun bt169 => (if bt153.1 = 1099511627776 then (if bt153.2 = 0 then (if bt155.2 = 2 then (if bt157.1 = 21845 then (if bt157.2 = 0 then (if bt159.1 = 2 then (if bt159.2 = 0 then (if bt161.1 = 0 then (if bt161.2 = 0 then (if bt163.1 = 2 then (if bt163.2 = 0 then (if bt165.1 = 4 then (if bt165.2 = 0 then (if bt167.1.toList = ([45, 48, 46, 53] : List UInt8) then (if bt167.2 = 0 then (if bt169.1.toList = ([48, 46, 48, 48, 48, 48, 49, 53, 50, 53, 56, 55, 56, 57, 48, 54, 50, 53] : List UInt8) then (some (bt169.2 == 0)) else (some false)) else (some false)) else (some false)) else (some false)) else (some false)) else (some false)) else (some false)) else (some false)) else (some false)) else (some false)) else (some false)) else (some false)) else (some false)) else (some false)) else (some false)) else (some false))))))))))) = some r := h
  clear h
  replace H := Option.bind_eq_some_iff.mp H
  obtain ⟨⟨t153, t154⟩, A10, H⟩ := H
  replace H : ((fixed_Of.f 16777217).bind fun bt155 => ((fixed_Ratio.f k 1 3).bind fun bt157 => ((fixed_Mul.f k 3 32768).bind fun bt159 => ((fixed_Mul.f k 1 32768).bind fun bt161 => ((fixed_Round.f k 163840).bind fun bt163 => ((fixed_Round.f k 229376).bind fun bt165 => ((fixed_Text.f (-32768)).bind fun bt167 => ((fixed_Text.f 1).bind fun bt169 => (if t153 = 1099511627776 then (if t154 = 0 then (if bt155.2 = 2 then (if bt157.1 = 21845 then (if bt157.2 = 0 then (if bt159.1 = 2 then (if bt159.2 = 0 then (if bt161.1 = 0 then (if bt161.2 = 0 then (if bt163.1 = 2 then (if bt163.2 = 0 then (if bt165.1 = 4 then (if bt165.2 = 0 then (if bt167.1.toList = ([45, 48, 46, 53] : List UInt8) then (if bt167.2 = 0 then (if bt169.1.toList = ([48, 46, 48, 48, 48, 48, 49, 53, 50, 53, 56, 55, 56, 57, 48, 54, 50, 53] : List UInt8) then (some (bt169.2 == 0)) else (some false)) else (some false)) else (some false)) else (some false)) else (some false)) else (some false)) else (some false)) else (some false)) else (some false)) else (some false)) else (some false)) else (some false)) else (some false)) else (some false)) else (some false)) else (some false)))))))))) = some r := H
  have A1 := Aside0.mk A10
  clear A10
  replace H := Option.bind_eq_some_iff.mp H
  obtain ⟨⟨t155, t156⟩, A20, H⟩ := H
  replace H : ((fixed_Ratio.f k 1 3).bind fun bt157 => ((fixed_Mul.f k 3 32768).bind fun bt159 => ((fixed_Mul.f k 1 32768).bind fun bt161 => ((fixed_Round.f k 163840).bind fun bt163 => ((fixed_Round.f k 229376).bind fun bt165 => ((fixed_Text.f (-32768)).bind fun bt167 => ((fixed_Text.f 1).bind fun bt169 => (if t153 = 1099511627776 then (if t154 = 0 then (if t156 = 2 then (if bt157.1 = 21845 then (if bt157.2 = 0 then (if bt159.1 = 2 then (if bt159.2 = 0 then (if bt161.1 = 0 then (if bt161.2 = 0 then (if bt163.1 = 2 then (if bt163.2 = 0 then (if bt165.1 = 4 then (if bt165.2 = 0 then (if bt167.1.toList = ([45, 48, 46, 53] : List UInt8) then (if bt167.2 = 0 then (if bt169.1.toList = ([48, 46, 48, 48, 48, 48, 49, 53, 50, 53, 56, 55, 56, 57, 48, 54, 50, 53] : List UInt8) then (some (bt169.2 == 0)) else (some false)) else (some false)) else (some false)) else (some false)) else (some false)) else (some false)) else (some false)) else (some false)) else (some false)) else (some false)) else (some false)) else (some false)) else (some false)) else (some false)) else (some false)) else (some false))))))))) = some r := H
  have A2 := Aside0.mk A20
  clear A20
  replace H := Option.bind_eq_some_iff.mp H
  obtain ⟨⟨t157, t158⟩, A30, H⟩ := H
  replace H : ((fixed_Mul.f k 3 32768).bind fun bt159 => ((fixed_Mul.f k 1 32768).bind fun bt161 => ((fixed_Round.f k 163840).bind fun bt163 => ((fixed_Round.f k 229376).bind fun bt165 => ((fixed_Text.f (-32768)).bind fun bt167 => ((fixed_Text.f 1).bind fun bt169 => (if t153 = 1099511627776 then (if t154 = 0 then (if t156 = 2 then (if t157 = 21845 then (if t158 = 0 then (if bt159.1 = 2 then (if bt159.2 = 0 then (if bt161.1 = 0 then (if bt161.2 = 0 then (if bt163.1 = 2 then (if bt163.2 = 0 then (if bt165.1 = 4 then (if bt165.2 = 0 then (if bt167.1.toList = ([45, 48, 46, 53] : List UInt8) then (if bt167.2 = 0 then (if bt169.1.toList = ([48, 46, 48, 48, 48, 48, 49, 53, 50, 53, 56, 55, 56, 57, 48, 54, 50, 53] : List UInt8) then (some (bt169.2 == 0)) else (some false)) else (some false)) else (some false)) else (some false)) else (some false)) else (some false)) else (some false)) else (some false)) else (some false)) else (some false)) else (some false)) else (some false)) else (some false)) else (some false)) else (some false)) else (some false)))))))) = some r := H
  have A3 := Aside0.mk A30
  clear A30
  replace H := Option.bind_eq_some_iff.mp H
  obtain ⟨⟨t159, t160⟩, A40, H⟩ := H
  replace H : ((fixed_Mul.f k 1 32768).bind fun bt161 => ((fixed_Round.f k 163840).bind fun bt163 => ((fixed_Round.f k 229376).bind fun bt165 => ((fixed_Text.f (-32768)).bind fun bt167 => ((fixed_Text.f 1).bind fun bt169 => (if t153 = 1099511627776 then (if t154 = 0 then (if t156 = 2 then (if t157 = 21845 then (if t158 = 0 then (if t159 = 2 then (if t160 = 0 then (if bt161.1 = 0 then (if bt161.2 = 0 then (if bt163.1 = 2 then (if bt163.2 = 0 then (if bt165.1 = 4 then (if bt165.2 = 0 then (if bt167.1.toList = ([45, 48, 46, 53] : List UInt8) then (if bt167.2 = 0 then (if bt169.1.toList = ([48, 46, 48, 48, 48, 48, 49, 53, 50, 53, 56, 55, 56, 57, 48, 54, 50, 53] : List UInt8) then (some (bt169.2 == 0)) else (some false)) else (some false)) else (some false)) else (some false)) else (some false)) else (some false)) else (some false)) else (some false)) else (some false)) else (some false)) else (some false)) else (some false)) else (some false)) else (some false)) else (some false)) else (some false))))))) = some r := H
  have A4 := Aside0.mk A40
  clear A40
  replace H := Option.bind_eq_some_iff.mp H
  obtain ⟨⟨t161, t162⟩, A50, H⟩ := H
  replace H : ((fixed_Round.f k 163840).bind fun bt163 => ((fixed_Round.f k 229376).bind fun bt165 => ((fixed_Text.f (-32768)).bind fun bt167 => ((fixed_Text.f 1).bind fun bt169 => (if t153 = 1099511627776 then (if t154 = 0 then (if t156 = 2 then (if t157 = 21845 then (if t158 = 0 then (if t159 = 2 then (if t160 = 0 then (if t161 = 0 then (if t162 = 0 then (if bt163.1 = 2 then (if bt163.2 = 0 then (if bt165.1 = 4 then (if bt165.2 = 0 then (if bt167.1.toList = ([45, 48, 46, 53] : List UInt8) then (if bt167.2 = 0 then (if bt169.1.toList = ([48, 46, 48, 48, 48, 48, 49, 53, 50, 53, 56, 55, 56, 57, 48, 54, 50, 53] : List UInt8) then (some (bt169.2 == 0)) else (some false)) else (some false)) else (some false)) else (some false)) else (some false)) else (some false)) else (some false)) else (some false)) else (some false)) else (some false)) else (some false)) else (some false)) else (some false)) else (some false)) else (some false)) else (some false)))))) = some r := H
  have A5 := Aside0.mk A50
  clear A50
  replace H := Option.bind_eq_some_iff.mp H
  obtain ⟨⟨t163, t164⟩, A60, H⟩ := H
  replace H : ((fixed_Round.f k 229376).bind fun bt165 => ((fixed_Text.f (-32768)).bind fun bt167 => ((fixed_Text.f 1).bind fun bt169 => (if t153 = 1099511627776 then (if t154 = 0 then (if t156 = 2 then (if t157 = 21845 then (if t158 = 0 then (if t159 = 2 then (if t160 = 0 then (if t161 = 0 then (if t162 = 0 then (if t163 = 2 then (if t164 = 0 then (if bt165.1 = 4 then (if bt165.2 = 0 then (if bt167.1.toList = ([45, 48, 46, 53] : List UInt8) then (if bt167.2 = 0 then (if bt169.1.toList = ([48, 46, 48, 48, 48, 48, 49, 53, 50, 53, 56, 55, 56, 57, 48, 54, 50, 53] : List UInt8) then (some (bt169.2 == 0)) else (some false)) else (some false)) else (some false)) else (some false)) else (some false)) else (some false)) else (some false)) else (some false)) else (some false)) else (some false)) else (some false)) else (some false)) else (some false)) else (some false)) else (some false)) else (some false))))) = some r := H
  have A6 := Aside0.mk A60
  clear A60
  replace H := Option.bind_eq_some_iff.mp H
  obtain ⟨⟨t165, t166⟩, A70, H⟩ := H
  replace H : ((fixed_Text.f (-32768)).bind fun bt167 => ((fixed_Text.f 1).bind fun bt169 => (if t153 = 1099511627776 then (if t154 = 0 then (if t156 = 2 then (if t157 = 21845 then (if t158 = 0 then (if t159 = 2 then (if t160 = 0 then (if t161 = 0 then (if t162 = 0 then (if t163 = 2 then (if t164 = 0 then (if t165 = 4 then (if t166 = 0 then (if bt167.1.toList = ([45, 48, 46, 53] : List UInt8) then (if bt167.2 = 0 then (if bt169.1.toList = ([48, 46, 48, 48, 48, 48, 49, 53, 50, 53, 56, 55, 56, 57, 48, 54, 50, 53] : List UInt8) then (some (bt169.2 == 0)) else (some false)) else (some false)) else (some false)) else (some false)) else (some false)) else (some false)) else (some false)) else (some false)) else (some false)) else (some false)) else (some false)) else (some false)) else (some false)) else (some false)) else (some false)) else (some false)))) = some r := H
  have A7 := Aside0.mk A70
  clear A70
  replace H := Option.bind_eq_some_iff.mp H
  obtain ⟨⟨t167, t168⟩, A80, H⟩ := H
  replace H : ((fixed_Text.f 1).bind fun bt169 => (if t153 = 1099511627776 then (if t154 = 0 then (if t156 = 2 then (if t157 = 21845 then (if t158 = 0 then (if t159 = 2 then (if t160 = 0 then (if t161 = 0 then (if t162 = 0 then (if t163 = 2 then (if t164 = 0 then (if t165 = 4 then (if t166 = 0 then (if t167.toList = ([45, 48, 46, 53] : List UInt8) then (if t168 = 0 then (if bt169.1.toList = ([48, 46, 48, 48, 48, 48, 49, 53, 50, 53, 56, 55, 56, 57, 48, 54, 50, 53] : List UInt8) then (some (bt169.2 == 0)) else (some false)) else (some false)) else (some false)) else (some false)) else (some false)) else (some false)) else (some false)) else (some false)) else (some false)) else (some false)) else (some false)) else (some false)) else (some false)) else (some false)) else (some false)) else (some false))) = some r := H
  have A8 := Aside0.mk A80
  clear A80
  replace H := Option.bind_eq_some_iff.mp H
  obtain ⟨⟨t169, t170⟩, A90, H⟩ := H
  replace H : (if t153 = 1099511627776 then (if t154 = 0 then (if t156 = 2 then (if t157 = 21845 then (if t158 = 0 then (if t159 = 2 then (if t160 = 0 then (if t161 = 0 then (if t162 = 0 then (if t163 = 2 then (if t164 = 0 then (if t165 = 4 then (if t166 = 0 then (if t167.toList = ([45, 48, 46, 53] : List UInt8) then (if t168 = 0 then (if t169.toList = ([48, 46, 48, 48, 48, 48, 49, 53, 50, 53, 56, 55, 56, 57, 48, 54, 50, 53] : List UInt8) then (some (t170 == 0)) else (some false)) else (some false)) else (some false)) else (some false)) else (some false)) else (some false)) else (some false)) else (some false)) else (some false)) else (some false)) else (some false)) else (some false)) else (some false)) else (some false)) else (some false)) else (some false)) = some r := H
  have A9 := Aside0.mk A90
  clear A90
  by_cases c10 : t153 = 1099511627776
  · rw [if_pos c10] at H
    have c10b0 : (t153 == 1099511627776) = true := beq_iff_eq.mpr c10
    have c10b1 : (t153 != 1099511627776) = false := bne_eq_false_iff_eq.mpr c10
    clear c10
    by_cases c11 : t154 = 0
    · rw [if_pos c11] at H
      have c11b0 : (t154 == 0) = true := beq_iff_eq.mpr c11
      have c11b1 : (t154 != 0) = false := bne_eq_false_iff_eq.mpr c11
      clear c11
      by_cases c12 : t156 = 2
      · rw [if_pos c12] at H
        have c12b0 : (t156 == 2) = true := beq_iff_eq.mpr c12
        have c12b1 : (t156 != 2) = false := bne_eq_false_iff_eq.mpr c12
        clear c12
        by_cases c13 : t157 = 21845
        · rw [if_pos c13] at H
          have c13b0 : (t157 == 21845) = true := beq_iff_eq.mpr c13
          have c13b1 : (t157 != 21845) = false := bne_eq_false_iff_eq.mpr c13
          clear c13
          by_cases c14 : t158 = 0
          · rw [if_pos c14] at H
            have c14b0 : (t158 == 0) = true := beq_iff_eq.mpr c14
            have c14b1 : (t158 != 0) = false := bne_eq_false_iff_eq.mpr c14
            clear c14
            by_cases c15 : t159 = 2
            · rw [if_pos c15] at H
              have c15b0 : (t159 == 2) = true := beq_iff_eq.mpr c15
              have c15b1 : (t159 != 2) = false := bne_eq_false_iff_eq.mpr c15
              clear c15
              by_cases c16 : t160 = 0
              · rw [if_pos c16] at H
                have c16b0 : (t160 == 0) = true := beq_iff_eq.mpr c16
                have c16b1 : (t160 != 0) = false := bne_eq_false_iff_eq.mpr c16
                clear c16
                by_cases c17 : t161 = 0
                · rw [if_pos c17] at H
                  have c17b0 : (t161 == 0) = true := beq_iff_eq.mpr c17
                  have c17b1 : (t161 != 0) = false := bne_eq_false_iff_eq.mpr c17
                  clear c17
                  by_cases c18 : t162 = 0
                  · rw [if_pos c18] at H
                    have c18b0 : (t162 == 0) = true := beq_iff_eq.mpr c18
                    have c18b1 : (t162 != 0) = false := bne_eq_false_iff_eq.mpr c18
                    clear c18
                    by_cases c19 : t163 = 2
                    · rw [if_pos c19] at H
                      have c19b0 : (t163 == 2) = true := beq_iff_eq.mpr c19
                      have c19b1 : (t163 != 2) = false := bne_eq_false_iff_eq.mpr c19
                      clear c19
                      by_cases c20 : t164 = 0
                      · rw [if_pos c20] at H
                        have c20b0 : (t164 == 0) = true := beq_iff_eq.mpr c20
                        have c20b1 : (t164 != 0) = false := bne_eq_false_iff_eq.mpr c20
                        clear c20
                        by_cases c21 : t165 = 4
                        · rw [if_pos c21] at H
                          have c21b0 : (t165 == 4) = true := beq_iff_eq.mpr c21
                          have c21b1 : (t165 != 4) = false := bne_eq_false_iff_eq.mpr c21
                          clear c21
                          by_cases c22 : t166 = 0
                          · rw [if_pos c22] at H
                            have c22b0 : (t166 == 0) = true := beq_iff_eq.mpr c22
                            have c22b1 : (t166 != 0) = false := bne_eq_false_iff_eq.mpr c22
                            clear c22
                            by_cases c23 : t167.toList = ([45, 48, 46, 53] : List UInt8)
                            · rw [if_pos c23] at H
                              have c23b0 : (t167.toList == ([45, 48, 46, 53] : List UInt8)) = true := beq_iff_eq.mpr c23
                              have c23b1 : (t167.toList != ([45, 48, 46, 53] : List UInt8)) = false := bne_eq_false_iff_eq.mpr c23
                              clear c23
                              by_cases c24 : t168 = 0
                              · rw [if_pos c24] at H
                                have c24b0 : (t168 == 0) = true := beq_iff_eq.mpr c24
                                have c24b1 : (t168 != 0) = false := bne_eq_false_iff_eq.mpr c24
                                clear c24
                                by_cases c25 : t169.toList = ([48, 46, 48, 48, 48, 48, 49, 53, 50, 53, 56, 55, 56, 57, 48, 54, 50, 53] : List UInt8)
                                · rw [if_pos c25] at H
                                  have c25b0 : (t169.toList == ([48, 46, 48, 48, 48, 48, 49, 53, 50, 53, 56, 55, 56, 57, 48, 54, 50, 53] : List UInt8)) = true := beq_iff_eq.mpr c25
                                  have c25b1 : (t169.toList != ([48, 46, 48, 48, 48, 48, 49, 53, 50, 53, 56, 55, 56, 57, 48, 54, 50, 53] : List UInt8)) = false := bne_eq_false_iff_eq.mpr c25
                                  clear c25
                                  first
                                    | exact absurd ((Option.some.inj H).trans hr_.out) (by decide)
                                    | (skip
                                       obtain rfl := Option.some.inj H
                                       go_enter Try.func16, Try.ntmps16
                                       go_wp2_with (first | ((with_reducible refine gate_callee (f := 12) rfl ?_); refine goesL_ (some 20) rfl rfl Try.func12 (by kernel_rfl) rfl #[.int .i64 16777216] rfl (by (try simp only [List.map_toArray, List.map_cons, List.map_nil]); first | done | rfl | (simp only [List.length_drop, List.length_take]; rfl)) ?_; (with_reducible refine (fixed_Of.calls 16777216 t153 t154 _ A1.out).mono ?_); rintro e w' ⟨rfl, ⟨nd, rfl⟩⟩; refine ⟨_, rfl, ?_⟩) | ((with_reducible refine gate_callee (f := 12) rfl ?_); refine goesL_ (some 24) rfl rfl Try.func12 (by kernel_rfl) rfl #[.int .i64 16777217] rfl (by (try simp only [List.map_toArray, List.map_cons, List.map_nil]); first | done | rfl | (simp only [List.length_drop, List.length_take]; rfl)) ?_; (with_reducible refine (fixed_Of.calls 16777217 t155 t156 _ A2.out).mono ?_); rintro e w' ⟨rfl, ⟨nd, rfl⟩⟩; refine ⟨_, rfl, ?_⟩) | ((with_reducible refine gate_callee (f := 14) rfl ?_); refine goesL_ (some 28) rfl rfl Try.func14 (by kernel_rfl) rfl #[.int .i64 1, .int .i64 3] rfl (by (try simp only [List.map_toArray, List.map_cons, List.map_nil]); first | done | rfl | (simp only [List.length_drop, List.length_take]; rfl)) ?_; (with_reducible refine (fixed_Ratio.calls k 1 3 t157 t158 _ A3.out).mono ?_); rintro e w26 ⟨rfl, hb⟩; refine ⟨_, rfl, ?_⟩; have n0_ := Aside0.mk (below_step (by repeat (first | (with_reducible first | exact HB.out | apply below_alloc | apply pw_below_drewN | apply below_drew1) | exact HB.out)) hb); clear HB; have HB := n0_; clear n0_; (try clear hb); (try clear hb2); (try clear hk); (try clear hi)) | ((with_reducible refine gate_callee (f := 19) rfl ?_); refine goesL_ (some 32) rfl rfl Try.func19 (by kernel_rfl) rfl #[.int .i64 3, .int .i64 32768] rfl (by (try simp only [List.map_toArray, List.map_cons, List.map_nil]); first | done | rfl | (simp only [List.length_drop, List.length_take]; rfl)) ?_; (with_reducible refine (fixed_Mul.calls k 3 32768 t159 t160 _ A4.out).mono ?_); rintro e w27 ⟨rfl, hb⟩; refine ⟨_, rfl, ?_⟩; have n0_ := Aside0.mk (below_step (by repeat (first | (with_reducible first | exact HB.out | apply below_alloc | apply pw_below_drewN | apply below_drew1) | exact HB.out)) hb); clear HB; have HB := n0_; clear n0_; (try clear hb); (try clear hb2); (try clear hk); (try clear hi)) | ((with_reducible refine gate_callee (f := 19) rfl ?_); refine goesL_ (some 36) rfl rfl Try.func19 (by kernel_rfl) rfl #[.int .i64 1, .int .i64 32768] rfl (by (try simp only [List.map_toArray, List.map_cons, List.map_nil]); first | done | rfl | (simp only [List.length_drop, List.length_take]; rfl)) ?_; (with_reducible refine (fixed_Mul.calls k 1 32768 t161 t162 _ A5.out).mono ?_); rintro e w28 ⟨rfl, hb⟩; refine ⟨_, rfl, ?_⟩; have n0_ := Aside0.mk (below_step (by repeat (first | (with_reducible first | exact HB.out | apply below_alloc | apply pw_below_drewN | apply below_drew1) | exact HB.out)) hb); clear HB; have HB := n0_; clear n0_; (try clear hb); (try clear hb2); (try clear hk); (try clear hi)) | ((with_reducible refine gate_callee (f := 24) rfl ?_); refine goesL_ (some 40) rfl rfl Try.func24 (by kernel_rfl) rfl #[.int .i64 163840] rfl (by (try simp only [List.map_toArray, List.map_cons, List.map_nil]); first | done | rfl | (simp only [List.length_drop, List.length_take]; rfl)) ?_; (with_reducible refine (fixed_Round.calls k 163840 t163 t164 _ A6.out).mono ?_); rintro e w29 ⟨rfl, hb⟩; refine ⟨_, rfl, ?_⟩; have n0_ := Aside0.mk (below_step (by repeat (first | (with_reducible first | exact HB.out | apply below_alloc | apply pw_below_drewN | apply below_drew1) | exact HB.out)) hb); clear HB; have HB := n0_; clear n0_; (try clear hb); (try clear hb2); (try clear hk); (try clear hi)) | ((with_reducible refine gate_callee (f := 24) rfl ?_); refine goesL_ (some 44) rfl rfl Try.func24 (by kernel_rfl) rfl #[.int .i64 229376] rfl (by (try simp only [List.map_toArray, List.map_cons, List.map_nil]); first | done | rfl | (simp only [List.length_drop, List.length_take]; rfl)) ?_; (with_reducible refine (fixed_Round.calls k 229376 t165 t166 _ A7.out).mono ?_); rintro e w30 ⟨rfl, hb⟩; refine ⟨_, rfl, ?_⟩; have n0_ := Aside0.mk (below_step (by repeat (first | (with_reducible first | exact HB.out | apply below_alloc | apply pw_below_drewN | apply below_drew1) | exact HB.out)) hb); clear HB; have HB := n0_; clear n0_; (try clear hb); (try clear hb2); (try clear hk); (try clear hi)) | ((with_reducible refine gate_callee (f := 17) rfl ?_); refine goesL_ (some 48) rfl rfl Try.func17 (by kernel_rfl) rfl #[.int .i64 (-32768)] rfl (by (try simp only [List.map_toArray, List.map_cons, List.map_nil]); first | done | rfl | (simp only [List.length_drop, List.length_take]; rfl)) ?_; (with_reducible refine (fixed_Text.calls (-32768) t167 t168 _ A8.out).mono ?_); rintro e w31 ⟨rfl, hb⟩; refine ⟨_, rfl, ?_⟩; have n0_ := Aside0.mk (below_step (by repeat (first | (with_reducible first | exact HB.out | apply below_alloc | apply pw_below_drewN | apply below_drew1) | exact HB.out)) hb); clear HB; have HB := n0_; clear n0_; (try clear hb); (try clear hb2); (try clear hk); (try clear hi)) | ((with_reducible refine gate_callee (f := 17) rfl ?_); refine goesL_ (some 52) rfl rfl Try.func17 (by kernel_rfl) rfl #[.int .i64 1] rfl (by (try simp only [List.map_toArray, List.map_cons, List.map_nil]); first | done | rfl | (simp only [List.length_drop, List.length_take]; rfl)) ?_; (with_reducible refine (fixed_Text.calls 1 t169 t170 _ A9.out).mono ?_); rintro e w32 ⟨rfl, hb⟩; refine ⟨_, rfl, ?_⟩; have n0_ := Aside0.mk (below_step (by repeat (first | (with_reducible first | exact HB.out | apply below_alloc | apply pw_below_drewN | apply below_drew1) | exact HB.out)) hb); clear HB; have HB := n0_; clear n0_; (try clear hb); (try clear hb2); (try clear hk); (try clear hi)))
                                       go_ret
                                       exact ⟨by first | rfl | (simp [errW_none, errW_some] <;> rfl) | (simp [*, errW_none, errW_some] <;> rfl), by repeat (first | (with_reducible first | exact HB.out | apply below_alloc | apply pw_below_drewN | apply below_drew1) | exact HB.out)⟩)
                                · rw [if_neg c25] at H
                                  have c25b0 : (t169.toList == ([48, 46, 48, 48, 48, 48, 49, 53, 50, 53, 56, 55, 56, 57, 48, 54, 50, 53] : List UInt8)) = false := beq_eq_false_iff_ne.mpr c25
                                  have c25b1 : (t169.toList != ([48, 46, 48, 48, 48, 48, 49, 53, 50, 53, 56, 55, 56, 57, 48, 54, 50, 53] : List UInt8)) = true := bne_iff_ne.mpr c25
                                  exact absurd ((Option.some.inj H).trans hr_.out) (by decide)
                              · rw [if_neg c24] at H
                                have c24b0 : (t168 == 0) = false := beq_eq_false_iff_ne.mpr c24
                                have c24b1 : (t168 != 0) = true := bne_iff_ne.mpr c24
                                exact absurd ((Option.some.inj H).trans hr_.out) (by decide)
                            · rw [if_neg c23] at H
                              have c23b0 : (t167.toList == ([45, 48, 46, 53] : List UInt8)) = false := beq_eq_false_iff_ne.mpr c23
                              have c23b1 : (t167.toList != ([45, 48, 46, 53] : List UInt8)) = true := bne_iff_ne.mpr c23
                              exact absurd ((Option.some.inj H).trans hr_.out) (by decide)
                          · rw [if_neg c22] at H
                            have c22b0 : (t166 == 0) = false := beq_eq_false_iff_ne.mpr c22
                            have c22b1 : (t166 != 0) = true := bne_iff_ne.mpr c22
                            exact absurd ((Option.some.inj H).trans hr_.out) (by decide)
                        · rw [if_neg c21] at H
                          have c21b0 : (t165 == 4) = false := beq_eq_false_iff_ne.mpr c21
                          have c21b1 : (t165 != 4) = true := bne_iff_ne.mpr c21
                          exact absurd ((Option.some.inj H).trans hr_.out) (by decide)
                      · rw [if_neg c20] at H
                        have c20b0 : (t164 == 0) = false := beq_eq_false_iff_ne.mpr c20
                        have c20b1 : (t164 != 0) = true := bne_iff_ne.mpr c20
                        exact absurd ((Option.some.inj H).trans hr_.out) (by decide)
                    · rw [if_neg c19] at H
                      have c19b0 : (t163 == 2) = false := beq_eq_false_iff_ne.mpr c19
                      have c19b1 : (t163 != 2) = true := bne_iff_ne.mpr c19
                      exact absurd ((Option.some.inj H).trans hr_.out) (by decide)
                  · rw [if_neg c18] at H
                    have c18b0 : (t162 == 0) = false := beq_eq_false_iff_ne.mpr c18
                    have c18b1 : (t162 != 0) = true := bne_iff_ne.mpr c18
                    exact absurd ((Option.some.inj H).trans hr_.out) (by decide)
                · rw [if_neg c17] at H
                  have c17b0 : (t161 == 0) = false := beq_eq_false_iff_ne.mpr c17
                  have c17b1 : (t161 != 0) = true := bne_iff_ne.mpr c17
                  exact absurd ((Option.some.inj H).trans hr_.out) (by decide)
              · rw [if_neg c16] at H
                have c16b0 : (t160 == 0) = false := beq_eq_false_iff_ne.mpr c16
                have c16b1 : (t160 != 0) = true := bne_iff_ne.mpr c16
                exact absurd ((Option.some.inj H).trans hr_.out) (by decide)
            · rw [if_neg c15] at H
              have c15b0 : (t159 == 2) = false := beq_eq_false_iff_ne.mpr c15
              have c15b1 : (t159 != 2) = true := bne_iff_ne.mpr c15
              exact absurd ((Option.some.inj H).trans hr_.out) (by decide)
          · rw [if_neg c14] at H
            have c14b0 : (t158 == 0) = false := beq_eq_false_iff_ne.mpr c14
            have c14b1 : (t158 != 0) = true := bne_iff_ne.mpr c14
            exact absurd ((Option.some.inj H).trans hr_.out) (by decide)
        · rw [if_neg c13] at H
          have c13b0 : (t157 == 21845) = false := beq_eq_false_iff_ne.mpr c13
          have c13b1 : (t157 != 21845) = true := bne_iff_ne.mpr c13
          exact absurd ((Option.some.inj H).trans hr_.out) (by decide)
      · rw [if_neg c12] at H
        have c12b0 : (t156 == 2) = false := beq_eq_false_iff_ne.mpr c12
        have c12b1 : (t156 != 2) = true := bne_iff_ne.mpr c12
        exact absurd ((Option.some.inj H).trans hr_.out) (by decide)
    · rw [if_neg c11] at H
      have c11b0 : (t154 == 0) = false := beq_eq_false_iff_ne.mpr c11
      have c11b1 : (t154 != 0) = true := bne_iff_ne.mpr c11
      exact absurd ((Option.some.inj H).trans hr_.out) (by decide)
  · rw [if_neg c10] at H
    have c10b0 : (t153 == 1099511627776) = false := beq_eq_false_iff_ne.mpr c10
    have c10b1 : (t153 != 1099511627776) = true := bne_iff_ne.mpr c10
    exact absurd ((Option.some.inj H).trans hr_.out) (by decide)

def papermilllaw23_awake.f (k : Nat) : Option Bool := (papermilllaw23_awake.g k ).bind fun b => if b = true then some b else none
theorem papermilllaw23_awake.mono : ∀ k, LeO (papermilllaw23_awake.f k) (papermilllaw23_awake.f (k + 1)) := fun k => LeO.bind (papermilllaw23_awake.gmono k) (fun _ => LeO.refl _)
theorem papermilllaw23_awake.calls (k : Nat) (r : Bool) (w : World) (h : papermilllaw23_awake.f k = some r) :
    Calls Try.prog 16 #[] w fun e w' => e = .returned (.bool r) ∧ Below w.heap.size w w' := by
  obtain ⟨b, hb, h2⟩ := Option.bind_eq_some_iff.mp h
  have e : b = true ∧ r = true := by
    cases b with
    | true => exact ⟨rfl, (Option.some.inj h2).symm⟩
    | false => simp at h2
  obtain ⟨rfl, rfl⟩ := e
  exact papermilllaw23_awake.gcalls k true w ⟨rfl⟩ hb

end Go.Proofs.Ytpmopomiadaonaa.P
