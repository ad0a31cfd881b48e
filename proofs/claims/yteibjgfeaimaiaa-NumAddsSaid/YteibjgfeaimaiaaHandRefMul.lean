/- The reference's Mul. -/
import Derived.Test.YteibjgfeaimaiaaRefBase
namespace Go.Proofs.Yteibjgfeaimaiaa.P
open Go.RowKit Go.Proofs.YteibjgfeaimaiaaW.PrintWords Go.Proofs.YteibjgfeaimaiaaW.PrintLast Go.Proofs.YteibjgfeaimaiaaW.PrintMore Go.Proofs.Yteibjgfeaimaiaa.Math
set_option linter.unusedVariables false

/-- What the reference's Mul answers. -/
def refMul (a b : Int) : Int × Int :=
  if a < -1125899906842624 ∨ 1125899906842624 < a ∨ b < -1125899906842624 ∨ 1125899906842624 < b then (0, 1)
  else if a ≠ 0 ∧ 1125899906842624 / (if a < 0 then -a else a) < (if b < 0 then -b else b) then (0, 2) else (wrap64 (a * b), 0)

set_option maxHeartbeats 2000000 in
set_option maxRecDepth 100000 in
theorem refMul_out1 (a0 a1 : Int) (w : World) (h : inR a0 = false) :
    Calls Try.prog 26 #[.int .i64 a0, .int .i64 a1] w fun e w' => e = .returned (.tuple #[.int .i64 0, .int .i64 1]) ∧ Drawn0 w w' := by
  have i0 := rIn_eq a0
  rw [h] at i0
  have I0 := Aside0.mk i0
  clear i0 h
  go_enter Try.func26, Try.ntmps26
  go_wp2_with (go_at_call 29; (with_reducible refine (papermillref01_In.calls a0 false _ I0.out).mono ?_); rintro e w' ⟨rfl, ⟨nd, rfl⟩⟩)
  go_ret2
  exact ⟨rfl, by repeat (first | exact Drawn0.refl _ | apply Drawn0.step)⟩

set_option maxHeartbeats 2000000 in
set_option maxRecDepth 100000 in
theorem refMul_out2 (a0 a1 : Int) (w : World) (h : inR a0 = true) (h2 : inR a1 = false) :
    Calls Try.prog 26 #[.int .i64 a0, .int .i64 a1] w fun e w' => e = .returned (.tuple #[.int .i64 0, .int .i64 1]) ∧ Drawn0 w w' := by
  have i0 := rIn_eq a0
  have i1 := rIn_eq a1
  rw [h] at i0
  rw [h2] at i1
  have I0 := Aside0.mk i0
  have I1 := Aside0.mk i1
  clear i0 i1 h h2
  go_enter Try.func26, Try.ntmps26
  go_wp2_with fail
  refine (papermillref01_In.calls a0 true _ I0.out).mono ?_
  rintro e w' ⟨rfl, ⟨nd, rfl⟩⟩
  go_wp2_with fail
  refine (papermillref01_In.calls a1 false _ I1.out).mono ?_
  rintro e w' ⟨rfl, ⟨nd2, rfl⟩⟩
  go_wp2
  go_ret2
  exact ⟨rfl, by repeat (first | exact Drawn0.refl _ | apply Drawn0.step)⟩

set_option maxHeartbeats 2000000 in
set_option maxRecDepth 100000 in
theorem refMul_zero (a0 a1 : Int) (w : World) (h : inR a0 = true) (h2 : inR a1 = true) (hz : a0 = 0) :
    Calls Try.prog 26 #[.int .i64 a0, .int .i64 a1] w fun e w' => e = .returned (.tuple #[.int .i64 (wrap64 (a0 * a1)), .int .i64 0]) ∧ Drawn0 w w' := by
  have i0 := rIn_eq a0
  have i1 := rIn_eq a1
  rw [h] at i0
  rw [h2] at i1
  have I0 := Aside0.mk i0
  have I1 := Aside0.mk i1
  clear i0 i1 h h2
  have z0 : (a0 != 0) = false := bne_eq_false_iff_eq.mpr hz
  clear hz
  go_enter Try.func26, Try.ntmps26
  go_wp2_with fail
  refine (papermillref01_In.calls a0 true _ I0.out).mono ?_
  rintro e w' ⟨rfl, ⟨nd, rfl⟩⟩
  go_wp2_with fail
  refine (papermillref01_In.calls a1 true _ I1.out).mono ?_
  rintro e w' ⟨rfl, ⟨nd2, rfl⟩⟩
  go_wp2
  go_ret2
  exact ⟨rfl, by repeat (first | exact Drawn0.refl _ | apply Drawn0.step)⟩

set_option maxHeartbeats 2000000 in
set_option maxRecDepth 100000 in
theorem refMul_more (a0 a1 : Int) (w : World) (h : inR a0 = true) (h2 : inR a1 = true) (hz : a0 ≠ 0) (A B : Int) (hA : papermillref01_abs.f a0 = some A) (hB : papermillref01_abs.f a1 = some B) (hA0 : 0 < A) (r1 r2 : Int)
    (hr : (if 1125899906842624 / A < B then ((0 : Int), (2 : Int)) else (wrap64 (a0 * a1), 0)) = (r1, r2)) :
    Calls Try.prog 26 #[.int .i64 a0, .int .i64 a1] w fun e w' => e = .returned (.tuple #[.int .i64 r1, .int .i64 r2]) ∧ Drawn0 w w' := by
  have i0 := rIn_eq a0
  have i1 := rIn_eq a1
  rw [h] at i0
  rw [h2] at i1
  have I0 := Aside0.mk i0
  have I1 := Aside0.mk i1
  have HA := Aside0.mk hA
  have HB := Aside0.mk hB
  have HR := Aside0.mk hr
  clear i0 i1 h h2 hA hB hr
  have z0 : (a0 != 0) = true := bne_iff_ne.mpr hz
  have zA : (A == 0) = false := beq_eq_false_iff_ne.mpr (by omega)
  have zA2 : ¬ A = 0 := by omega
  have q0 : wrap64 ((1125899906842624 : Int).tdiv A) = 1125899906842624 / A := by
    rw [Int.tdiv_eq_ediv_of_nonneg (by omega)]
    have g1 := Int.ediv_nonneg (show (0 : Int) ≤ 1125899906842624 by omega) (show 0 ≤ A by omega)
    have g2 := Int.ediv_le_self A (show (0 : Int) ≤ 1125899906842624 by omega)
    exact wrap64_id (by omega) (by omega)
  clear hz
  go_enter Try.func26, Try.ntmps26
  go_wp2_with fail
  refine (papermillref01_In.calls a0 true _ I0.out).mono ?_
  rintro e w' ⟨rfl, ⟨nd, rfl⟩⟩
  go_wp2_with fail
  refine (papermillref01_In.calls a1 true _ I1.out).mono ?_
  rintro e w' ⟨rfl, ⟨nd2, rfl⟩⟩
  go_wp2_with fail
  refine (papermillref01_abs.calls a1 B _ HB.out).mono ?_
  rintro e w' ⟨rfl, ⟨nd3, rfl⟩⟩
  go_wp2_with fail
  refine (papermillref01_abs.calls a0 A _ HA.out).mono ?_
  rintro e w' ⟨rfl, ⟨nd4, rfl⟩⟩
  have hr := HR.out
  clear HR
  by_cases c : 1125899906842624 / A < B
  · rw [if_pos c] at hr
    obtain ⟨rfl, rfl⟩ := Prod.mk.inj hr
    clear hr
    have cb : decide (1125899906842624 / A < B) = true := decide_eq_true c
    go_wp2
    go_ret2
    exact ⟨rfl, by repeat (first | exact Drawn0.refl _ | apply Drawn0.step)⟩
  · rw [if_neg c] at hr
    obtain ⟨rfl, rfl⟩ := Prod.mk.inj hr
    clear hr
    have cb : decide (1125899906842624 / A < B) = false := decide_eq_false c
    go_wp2
    go_ret2
    exact ⟨rfl, by repeat (first | exact Drawn0.refl _ | apply Drawn0.step)⟩

def papermillref01_Mul.f (a0 a1 : Int) : Option (Int × Int) := some (refMul a0 a1)

theorem papermillref01_Mul.calls (a0 a1 r1 r2 : Int) (w : World) (h : papermillref01_Mul.f a0 a1 = some (r1, r2)) :
    Calls Try.prog 26 #[.int .i64 a0, .int .i64 a1] w fun e w' => e = .returned (.tuple #[.int .i64 r1, .int .i64 r2]) ∧ Drawn0 w w' := by
  have h' : refMul a0 a1 = (r1, r2) := Option.some.inj h
  unfold refMul at h'
  by_cases h0 : inR a0 = true
  · have b0 := (rInR_iff a0).1 h0
    by_cases h1 : inR a1 = true
    · have b1 := (rInR_iff a1).1 h1
      rw [if_neg (by omega)] at h'
      by_cases hz : a0 = 0
      · rw [if_neg (by omega)] at h'
        obtain ⟨rfl, rfl⟩ := Prod.mk.inj h'
        exact refMul_zero a0 a1 w h0 h1 hz
      · refine refMul_more a0 a1 w h0 h1 hz _ _ (rabs_eq a0 (by omega) (by omega)) (rabs_eq a1 (by omega) (by omega)) (by split <;> omega) r1 r2 ?_
        rw [← h']
        simp only [ne_eq, hz, not_false_eq_true, true_and]
    · have b1 : ¬ (-1125899906842624 ≤ a1 ∧ a1 ≤ 1125899906842624) := fun hh => h1 ((rInR_iff a1).2 hh)
      rw [if_pos (by omega)] at h'
      obtain ⟨rfl, rfl⟩ := Prod.mk.inj h'
      exact refMul_out2 a0 a1 w h0 (Bool.eq_false_iff.2 h1)
  · have b0 : ¬ (-1125899906842624 ≤ a0 ∧ a0 ≤ 1125899906842624) := fun hh => h0 ((rInR_iff a0).2 hh)
    rw [if_pos (by omega)] at h'
    obtain ⟨rfl, rfl⟩ := Prod.mk.inj h'
    exact refMul_out1 a0 a1 w (Bool.eq_false_iff.2 h0)
end Go.Proofs.Yteibjgfeaimaiaa.P
