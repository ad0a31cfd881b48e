/- diameter.Dia: the least diameter with a length, by sort.Search over a closure. -/
import Derived.Test.YtnjcedkgnjohfaaHandSearch
import Derived.Test.YtnjcedkgnjohfaaPx1
import Derived.Test.YtnjcedkgnjohfaaPx6
import Derived.Deep.QuietTactic
import Derived.BigQuiet
import Derived.Shelf.Abstract
import Derived.Test.YtnjcedkgnjohfaaNumIn
namespace Go.Proofs.Ytnjcedkgnjohfaa.P
open Go.RowKit Go.Proofs.YtnjcedkgnjohfaaW.PrintWords Go.Proofs.YtnjcedkgnjohfaaW.PrintLast Go.Proofs.YtnjcedkgnjohfaaW.PrintMore Go.Proofs.Ytnjcedkgnjohfaa.First Go.Proofs.Ytnjcedkgnjohfaa.Math
set_option linter.unusedVariables false

/-- The length of the paper between two diameters. -/
def woundZ (core dia cal : Int) : Int := 3141592653 * ((dia * dia - core * core) * 250) / (1000000000 * cal)

theorem sq_bound (x : Int) (h0 : 0 ≤ x) (h1 : x ≤ 2500) : 0 ≤ x * x ∧ x * x ≤ 6250000 :=
  ⟨Int.mul_nonneg h0 h0, Int.le_trans (Int.mul_le_mul_of_nonneg_right h1 h0) (by omega)⟩

theorem sq_mono {x y : Int} (h0 : 0 ≤ x) (h : x ≤ y) : x * x ≤ y * y :=
  Int.le_trans (Int.mul_le_mul_of_nonneg_right h h0) (Int.mul_le_mul_of_nonneg_left h (by omega))

theorem wound_eq (core dia cal : Int) (h1 : 1 ≤ core) (h2 : core ≤ dia) (h3 : dia ≤ 2500) (h4 : 1 ≤ cal) (h5 : cal ≤ 5000) : diameter_wound.f core dia cal = some (woundZ core dia cal) := by
  unfold diameter_wound.f woundZ
  have b1 := sq_bound core (by omega) (by omega)
  have b2 := sq_bound dia (by omega) (by omega)
  have b3 := sq_mono (show 0 ≤ core by omega) h2
  generalize dia * dia = D at *
  generalize core * core = C at *
  rw [wrap64_id (x := 1000000000 * cal) (by omega) (by omega), if_neg (by omega), wrap64_id (x := D) (by omega) (by omega), wrap64_id (x := C) (by omega) (by omega), wrap64_id (x := D - C) (by omega) (by omega), wrap64_id (x := (D - C) * 250) (by omega) (by omega), wrap64_id (x := 3141592653 * ((D - C) * 250)) (by omega) (by omega), Int.tdiv_eq_ediv_of_nonneg (by omega)]
  have g1 := Int.ediv_nonneg (show 0 ≤ 3141592653 * ((D - C) * 250) by omega) (show 0 ≤ 1000000000 * cal by omega)
  have g2 := Int.ediv_le_self (1000000000 * cal) (show 0 ≤ 3141592653 * ((D - C) * 250) by omega)
  rw [wrap64_id (by omega) (by omega)]

theorem wound_mono (core x y cal : Int) (h1 : 0 ≤ x) (h2 : x ≤ y) (h4 : 1 ≤ cal) : woundZ core x cal ≤ woundZ core y cal := by
  unfold woundZ
  have b3 := sq_mono h1 h2
  exact Int.ediv_le_ediv (by omega) (by omega)

/-- What Dia answers. -/
def diaSpec (core len cal : Int) : Int × Int :=
  if core < 1 ∨ 2500 < core ∨ cal < 1 ∨ 5000 < cal ∨ len < 0 ∨ 17179869184 < len then (0, 1)
  else if 2500 < core + (first (fun n => decide (len ≤ woundZ core (core + n) cal)) (2500 - core + 1).toNat : Nat) then (0, 32)
  else (core + (first (fun n => decide (len ≤ woundZ core (core + n) cal)) (2500 - core + 1).toNat : Nat), 0)

set_option maxHeartbeats 2000000 in
set_option maxRecDepth 100000 in
theorem dia_closure (core len cal : Int) (i : Nat) (b1 b2 b3 : Nat) (W : World) (h1 : 1 ≤ core) (h3 : core + i ≤ 2500) (h4 : 1 ≤ cal) (h5 : cal ≤ 5000)
    (c1 : W.cell? ⟨b1, 0, none⟩ = some (.int .i64 core)) (c2 : W.cell? ⟨b2, 0, none⟩ = some (.int .i64 cal)) (c3 : W.cell? ⟨b3, 0, none⟩ = some (.int .i64 len)) :
    Calls Try.prog 23 (#[.int .i64 i] ++ #[.pointer (some ⟨b1, 0, none⟩), .pointer (some ⟨b2, 0, none⟩), .pointer (some ⟨b3, 0, none⟩)]) W fun e w' => e = .returned (.bool (decide (len ≤ woundZ core (core + i) cal))) ∧ Below W.heap.size W w' := by
  have hw := wound_eq core (core + i) cal h1 (by omega) h3 h4 h5
  have HW := Aside0.mk hw
  clear hw
  generalize woundZ core (core + i) cal = z at *
  have e1 : IntKind.i64.wrap (core + (i : Int)) = core + (i : Int) := by rw [IntKind.wrap_i64]; omega
  go_enter Try.func23, Try.ntmps23
  go_wp2
  go_quiet ((go_at_call 24; exact Calls.quiet_of ((diameter_wound.calls core (core + i) cal z _ HW.out).mono fun e w' h => ⟨h.1, h.2.out⟩)))
  go_wp2
  go_ret
  exact ⟨by first | rfl | simp, by exact pw_below_drewN (Below.refl _ _) _⟩

theorem within_eq (core cal : Int) : diameter_within.f core cal = some (decide (1 ≤ core ∧ core ≤ 2500 ∧ 1 ≤ cal ∧ cal ≤ 5000)) := by
  unfold diameter_within.f
  by_cases c1 : core ≥ 1
  · rw [if_pos c1]
    by_cases c2 : core ≤ 2500
    · rw [if_pos c2]
      by_cases c3 : cal ≥ 1
      · rw [if_pos c3]; congr 1; rw [decide_eq_decide]; omega
      · rw [if_neg c3, decide_eq_false (by omega)]
    · rw [if_neg c2, decide_eq_false (by omega)]
  · rw [if_neg c1, decide_eq_false (by omega)]

theorem cell_old {w : World} {o : Obj} {a : Addr} {v : Value} (h : w.cell? a = some v) : (w.alloc o).cell? a = some v := pw_cell_below (below_alloc (Below.refl _ _) o) h
theorem cell_new (w : World) (v : Value) (t : TypeId) : (w.alloc (.cells #[v] t)).cell? ⟨w.heap.size, 0, none⟩ = some v := by
  rw [World.cell?_alloc_at _ _ _ _ (by simp)]; rfl

set_option maxHeartbeats 2000000 in
set_option maxRecDepth 100000 in
theorem dia_bad (a0 a1 a2 : Int) (w : World) (h : a0 < 1 ∨ 2500 < a0 ∨ a2 < 1 ∨ 5000 < a2 ∨ a1 < 0 ∨ 17179869184 < a1) :
    Calls Try.prog 10 #[.int .i64 a0, .int .i64 a1, .int .i64 a2] w fun e w' => e = .returned (.tuple #[.int .i64 0, .int .i64 1]) ∧ Below w.heap.size w w' := by
  have hin := within_eq a0 a2
  by_cases hd : 1 ≤ a0 ∧ a0 ≤ 2500 ∧ 1 ≤ a2 ∧ a2 ≤ 5000
  · rw [decide_eq_true hd] at hin
    have HI := Aside0.mk hin
    clear hin
    by_cases h1 : a1 < 0
    · have h1b : decide (a1 < 0) = true := decide_eq_true h1
      clear hd h
      go_enter Try.func10, Try.ntmps10
      go_wp2_with (go_at_call 21; (with_reducible refine (diameter_within.calls a0 a2 true _ HI.out).mono ?_); rintro e w' ⟨rfl, ⟨nd, rfl⟩⟩)
      go_ret2
      exact ⟨rfl, by repeat (first | exact Below.refl _ _ | apply below_alloc | apply pw_below_drewN)⟩
    · have h1b : decide (a1 < 0) = false := decide_eq_false h1
      have h2b : decide (17179869184 < a1) = true := decide_eq_true (by omega)
      clear hd h
      go_enter Try.func10, Try.ntmps10
      go_wp2_with (go_at_call 21; (with_reducible refine (diameter_within.calls a0 a2 true _ HI.out).mono ?_); rintro e w' ⟨rfl, ⟨nd, rfl⟩⟩)
      go_ret2
      exact ⟨rfl, by repeat (first | exact Below.refl _ _ | apply below_alloc | apply pw_below_drewN)⟩
  · rw [decide_eq_false hd] at hin
    have HI := Aside0.mk hin
    clear hin hd h
    go_enter Try.func10, Try.ntmps10
    go_wp2_with (go_at_call 21; (with_reducible refine (diameter_within.calls a0 a2 false _ HI.out).mono ?_); rintro e w' ⟨rfl, ⟨nd, rfl⟩⟩)
    go_ret2
    exact ⟨rfl, by repeat (first | exact Below.refl _ _ | apply below_alloc | apply pw_below_drewN)⟩

set_option maxHeartbeats 2000000 in
set_option maxRecDepth 100000 in
theorem dia_good (a0 a1 a2 : Int) (w : World) (m : Nat) (h1 : 1 ≤ a0) (h2 : a0 ≤ 2500) (h3 : 1 ≤ a2) (h4 : a2 ≤ 5000) (h5 : 0 ≤ a1) (h6 : a1 ≤ 17179869184)
    (hm : first (fun n => decide (a1 ≤ woundZ a0 (a0 + n) a2)) (2500 - a0 + 1).toNat = m) (r1 r2 : Int) (hr : (if 2500 < a0 + (m : Int) then ((0 : Int), (32 : Int)) else (a0 + m, 0)) = (r1, r2)) :
    Calls Try.prog 10 #[.int .i64 a0, .int .i64 a1, .int .i64 a2] w fun e w' => e = .returned (.tuple #[.int .i64 r1, .int .i64 r2]) ∧ Below w.heap.size w w' := by
  have hin := within_eq a0 a2
  rw [decide_eq_true ⟨h1, h2, h3, h4⟩] at hin
  have HI := Aside0.mk hin
  clear hin
  have hle : m ≤ (2500 - a0 + 1).toNat := by rw [← hm]; exact (first_spec _ _).1
  have h1b : decide (a1 < 0) = false := decide_eq_false (by omega)
  have h2b : decide (17179869184 < a1) = false := decide_eq_false (by omega)
  have HM := Aside0.mk hm
  have HR := Aside0.mk hr
  clear hm hr
  have eg : ∀ args w, (callFunc 23 args).run Try.prog w = .ok (.enter 23 args) w := Go.Proofs.enters_of Try.func23 (by kernel_rfl) rfl
  have EG := Aside0.mk eg
  clear eg
  obtain ⟨N, hN⟩ : ∃ N : Nat, (N : Int) = 2500 - a0 + 1 := ⟨(2500 - a0 + 1).toNat, by omega⟩
  have HN := Aside0.mk hN
  clear hN
  have hS := fun (W : World) (c1 : W.cell? ⟨w.heap.size, 0, none⟩ = some (.int .i64 a0)) (c2 : W.cell? ⟨w.heap.size + 1 + 1, 0, none⟩ = some (.int .i64 a2)) (c3 : W.cell? ⟨w.heap.size + 1, 0, none⟩ = some (.int .i64 a1)) =>
    sort_Search_calls 23 #[.pointer (some ⟨w.heap.size, 0, none⟩), .pointer (some ⟨w.heap.size + 1 + 1, 0, none⟩), .pointer (some ⟨w.heap.size + 1, 0, none⟩)] N (fun n => decide (a1 ≤ woundZ a0 (a0 + n) a2)) W EG.out (by have := HN.out; omega)
      (fun W' i hb hi => dia_closure a0 a1 a2 i _ _ _ W' h1 (by have := HN.out; omega) h3 h4 (pw_cell_below hb c1) (pw_cell_below hb c2) (pw_cell_below hb c3))
      (fun x y hxy hy hx => decide_eq_true (Int.le_trans (of_decide_eq_true hx) (wound_mono a0 (a0 + x) (a0 + y) a2 (by omega) (by omega) h3)))
  have hNN : (2500 - a0 + 1).toNat = N := by have := HN.out; omega
  rw [HN.out] at hS
  have HM2 := HM.out
  rw [hNN] at HM2
  rw [HM2] at hS
  have HS := Aside0.mk hS
  clear hS HM2 hNN
  have HB := Aside0.mk (Below.refl w.heap.size w)
  go_enter Try.func10, Try.ntmps10
  go_wp2_with (go_at_call 21; (with_reducible refine (diameter_within.calls a0 a2 true _ HI.out).mono ?_); rintro e w' ⟨rfl, ⟨nd, rfl⟩⟩)
  refine (HS.out _ (by go_simp) (by go_simp) (by go_simp)).mono ?_
  rintro e w5 ⟨rfl, hb⟩
  have hc1 : w5.cell? ⟨w.heap.size, 0, none⟩ = some (.int .i64 a0) := pw_cell_below hb (by go_simp)
  have HBB := Aside0.mk (below_then (B := w.heap.size) (w := w) (by repeat (first | exact Below.refl _ _ | apply below_alloc | apply pw_below_drewN)) (by go_simp; omega) hb)
  clear hb HB
  have hr := HR.out
  by_cases c : 2500 < a0 + (m : Int)
  · rw [if_pos c] at hr
    obtain ⟨rfl, rfl⟩ := Prod.mk.inj hr
    clear hr HR
    have cb : decide (2500 < a0 + (m : Int)) = true := decide_eq_true c
    go_wp2
    go_ret2
    exact ⟨rfl, HBB.out⟩
  · rw [if_neg c] at hr
    obtain ⟨rfl, rfl⟩ := Prod.mk.inj hr
    clear hr HR
    have cb : decide (2500 < a0 + (m : Int)) = false := decide_eq_false c
    go_wp2
    go_ret2
    exact ⟨rfl, HBB.out⟩

def diameter_Dia.f (a0 a1 a2 : Int) : Option (Int × Int) := some (diaSpec a0 a1 a2)

theorem diameter_Dia.calls (a0 a1 a2 r1 r2 : Int) (w : World) (h : diameter_Dia.f a0 a1 a2 = some (r1, r2)) :
    Calls Try.prog 10 #[.int .i64 a0, .int .i64 a1, .int .i64 a2] w fun e w' => e = .returned (.tuple #[.int .i64 r1, .int .i64 r2]) ∧ Below w.heap.size w w' := by
  have h' : diaSpec a0 a1 a2 = (r1, r2) := Option.some.inj h
  unfold diaSpec at h'
  split at h'
  · rename_i hb
    obtain ⟨rfl, rfl⟩ := Prod.mk.inj h'
    exact dia_bad a0 a1 a2 w hb
  · rename_i hb
    exact dia_good a0 a1 a2 w _ (by omega) (by omega) (by omega) (by omega) (by omega) (by omega) rfl r1 r2 h'
end Go.Proofs.Ytnjcedkgnjohfaa.P
