/- drive.When: the least moment behind which a length is passed, by sort.Search over a closure. -/
import Derived.Test.YtfjeekjlhgjckaaHandSearch
import Derived.Test.YtfjeekjlhgjckaaDriveSpec0
import Derived.Deep.QuietTactic
import Derived.BigQuiet
import Derived.RegionTactic
import Derived.Shelf.Abstract
namespace Go.Proofs.Ytfjeekjlhgjckaa.P
open Go.RowKit Go.Proofs.YtfjeekjlhgjckaaW.PrintWords Go.Proofs.YtfjeekjlhgjckaaW.PrintLast Go.Proofs.YtfjeekjlhgjckaaW.PrintMore Go.Proofs.Ytfjeekjlhgjckaa.First
set_option linter.unusedVariables false
set_option linter.unusedSimpArgs false

set_option maxHeartbeats 2000000 in
set_option maxRecDepth 100000 in
theorem when_inner (l : List Pace) (A0 : Option Addr) (c : Nat) (x : Int) (t : Nat) (bl bx : Nat) (W : World) (hr : Kd.C k42 W A0 l.length l) (hc : l.length ≤ c) (hl : l.length ≤ 512) (hok : ∀ p ∈ l, okE p) (ht : t < 2147483648)
    (c1 : W.cell? ⟨bl, 0, none⟩ = some (.slice A0 l.length c)) (c2 : W.cell? ⟨bx, 0, none⟩ = some (.int .i64 x)) :
    Calls Try.prog 30 (#[.int .i64 t] ++ #[.pointer (some ⟨bl, 0, none⟩), .pointer (some ⟨bx, 0, none⟩)]) W fun e w' => e = .returned (.bool (decide (x < beforeZ l ((t : Int) + 1)))) ∧ Below W.heap.size W w' := by
  have H := Aside0.mk (dbefore_eq l ((t : Int) + 1) hl hok (by omega) (by omega) 520 (Nat.le_refl _))
  have HR := Aside0.mk hr
  clear hr hok
  generalize beforeZ l ((t : Int) + 1) = z at *
  have e1 : IntKind.i64.wrap ((t : Int) + 1) = (t : Int) + 1 := by rw [IntKind.wrap_i64]; omega
  go_enter Try.func30, Try.ntmps30
  go_wp2
  go_region_with ((go_at_call 27; (with_reducible refine (drive_before.calls 520 A0 c l ((t : Int) + 1) z _ ?s1 ?s2 H.out).mono ?_); (case s1 => first | exact HR.out | exact Kd.C_drewN HR.out _ | exact Kd.C_drew HR.out); (case s2 => exact hc); rintro e w5 ⟨rfl, hb⟩; have hx5 : w5.cell? ⟨bx, 0, none⟩ = some (.int .i64 x) := pw_cell_below hb c2; have HBB := Aside0.mk (below_then (B := W.heap.size) (w := W) (by repeat (first | exact Below.refl _ _ | apply pw_below_drewN | apply below_drew)) (by first | exact Nat.le_refl _ | (go_simp; done)) hb); clear hb))
  all_goals (try go_wp2)

  all_goals (go_ret; exact ⟨by first | rfl | simp, by repeat (first | exact HBB.out | apply pw_below_drewN | apply below_drew)⟩)

theorem wnew (w : World) (v : Value) (t : TypeId) : (w.alloc (.cells #[v] t)).cell? ⟨w.heap.size, 0, none⟩ = some v := by
  rw [World.cell?_alloc_at _ _ _ _ rfl]; rfl
theorem wnew2 (w : World) (o : Obj) (v : Value) (t : TypeId) : ((w.alloc o).alloc (.cells #[v] t)).cell? ⟨w.heap.size + 1, 0, none⟩ = some v := by
  rw [World.cell?_alloc_at _ _ _ _ (by simp)]; rfl
theorem wold {w : World} {o : Obj} {a : Addr} {v : Value} (h : w.cell? a = some v) : (w.alloc o).cell? a = some v := pw_cell_below (below_alloc (Below.refl _ _) o) h
theorem below_made2 {w w2 : World} {o1 o2 : Obj} (k : Below ((w.alloc o1).alloc o2).heap.size ((w.alloc o1).alloc o2) w2) : Below w.heap.size w w2 := below_step (below_alloc (below_alloc (Below.refl _ _) o1) o2) k

set_option maxHeartbeats 2000000 in
set_option maxRecDepth 100000 in
theorem when_bad (l : List Pace) (A0 : Option Addr) (c : Nat) (x r : Int) (w : World) (hr : Kd.C k42 w A0 l.length l) (hc : l.length ≤ c) (h : drive_Check.f 1100 l = some r) (hr0 : r ≠ 0) :
    Calls Try.prog 16 #[.slice A0 l.length c, .int .i64 x] w fun e w' => e = .returned (.tuple #[.int .i64 0, .int .i64 r]) ∧ Below w.heap.size w w' := by
  have H := Aside0.mk h
  have HR := Aside0.mk hr
  clear h hr
  have b0 : (r != 0) = true := by simpa using hr0
  have b1 : (r == 0) = false := by simpa using hr0
  go_enter Try.func16, Try.ntmps16
  go_wp2_with (go_at_call 23; (with_reducible refine (drive_Check.calls 1100 A0 c l r _ ?s1 ?s2 H.out).mono ?_); (case s1 => exact Kd.C_alloc (Kd.C_alloc HR.out _) _); (case s2 => exact hc); rintro e w' ⟨rfl, hb⟩)
  go_ret2
  exact ⟨rfl, below_made2 hb⟩

set_option maxHeartbeats 2000000 in
set_option maxRecDepth 100000 in
theorem when_low (l : List Pace) (A0 : Option Addr) (c : Nat) (x : Int) (w : World) (hr : Kd.C k42 w A0 l.length l) (hc : l.length ≤ c) (h : drive_Check.f 1100 l = some 0) (hx : x < 0) :
    Calls Try.prog 16 #[.slice A0 l.length c, .int .i64 x] w fun e w' => e = .returned (.tuple #[.int .i64 0, .int .i64 1]) ∧ Below w.heap.size w w' := by
  have H := Aside0.mk h
  have HR := Aside0.mk hr
  clear h hr
  have b0 : decide (x < 0) = true := decide_eq_true hx
  go_enter Try.func16, Try.ntmps16
  go_wp2_with (go_at_call 23; (with_reducible refine (drive_Check.calls 1100 A0 c l 0 _ ?s1 ?s2 H.out).mono ?_); (case s1 => exact Kd.C_alloc (Kd.C_alloc HR.out _) _); (case s2 => exact hc); rintro e w' ⟨rfl, hb⟩; have cx : w'.cell? ⟨w.heap.size + 1, 0, none⟩ = some (.int .i64 x) := pw_cell_below hb (wnew2 _ _ _ _))
  go_ret2
  exact ⟨rfl, below_made2 hb⟩

set_option maxHeartbeats 2000000 in
set_option maxRecDepth 100000 in
theorem when_high (l : List Pace) (A0 : Option Addr) (c : Nat) (x : Int) (w : World) (hr : Kd.C k42 w A0 l.length l) (hc : l.length ≤ c) (h : drive_Check.f 1100 l = some 0) (hx : 17179869184 ≤ x) :
    Calls Try.prog 16 #[.slice A0 l.length c, .int .i64 x] w fun e w' => e = .returned (.tuple #[.int .i64 0, .int .i64 1]) ∧ Below w.heap.size w w' := by
  have H := Aside0.mk h
  have HR := Aside0.mk hr
  clear h hr
  have b0 : decide (x < 0) = false := decide_eq_false (by omega)
  have b1 : decide (17179869184 ≤ x) = true := decide_eq_true hx
  go_enter Try.func16, Try.ntmps16
  go_wp2_with (go_at_call 23; (with_reducible refine (drive_Check.calls 1100 A0 c l 0 _ ?s1 ?s2 H.out).mono ?_); (case s1 => exact Kd.C_alloc (Kd.C_alloc HR.out _) _); (case s2 => exact hc); rintro e w' ⟨rfl, hb⟩; have cx : w'.cell? ⟨w.heap.size + 1, 0, none⟩ = some (.int .i64 x) := pw_cell_below hb (wnew2 _ _ _ _))
  go_ret2
  exact ⟨rfl, below_made2 hb⟩

set_option maxHeartbeats 4000000 in
set_option maxRecDepth 100000 in
theorem when_good (l : List Pace) (A0 : Option Addr) (c : Nat) (x : Int) (m : Nat) (w : World) (hr : Kd.C k42 w A0 l.length l) (hc : l.length ≤ c) (h : drive_Check.f 1100 l = some 0) (hx : 0 ≤ x) (hx2 : x < 17179869184) (hl : l.length ≤ 512) (hok : ∀ p ∈ l, okE p) (hm : whenAt l x = m) :
    Calls Try.prog 16 #[.slice A0 l.length c, .int .i64 x] w fun e w' => e = .returned (.tuple #[.int .i64 (if m = 2147483648 then 0 else (m : Int)), .int .i64 (if m = 2147483648 then 7 else 0)]) ∧ Below w.heap.size w w' := by
  have H := Aside0.mk h
  have HR := Aside0.mk hr
  have hmb : m ≤ 2147483648 := by rw [← hm]; exact (whenAt_spec l x).1
  have eg : ∀ args w, (callFunc 30 args).run Try.prog w = .ok (.enter 30 args) w := Go.Proofs.enters_of Try.func30 (by kernel_rfl) rfl
  have hS := fun (W' : World) (hr : Kd.C k42 W' A0 l.length l) (c1 : W'.cell? ⟨w.heap.size, 0, none⟩ = some (.slice A0 l.length c)) (c2 : W'.cell? ⟨w.heap.size + 1, 0, none⟩ = some (.int .i64 x)) =>
    sort_Search_calls 30 #[.pointer (some ⟨w.heap.size, 0, none⟩), .pointer (some ⟨w.heap.size + 1, 0, none⟩)] 2147483648 (fun t => decide (x < beforeZ l ((t : Int) + 1))) W' eg (by omega)
      (fun W'' i hb hi => when_inner l A0 c x i _ _ W'' (Kd.C_below hr hb) hc hl hok hi (pw_cell_below hb c1) (pw_cell_below hb c2))
      (fun a b hab hb ha => decide_eq_true (Int.lt_of_lt_of_le (of_decide_eq_true ha) (before_mono l _ _ hok (by omega))))
  rw [← whenAt_def, hm, show ((2147483648 : Nat) : Int) = 2147483648 from rfl] at hS
  have HS := Aside0.mk hS
  clear hS eg h hr hok hm
  have b0 : decide (x < 0) = false := decide_eq_false (by omega)
  have b1 : decide (17179869184 ≤ x) = false := decide_eq_false (by omega)
  go_enter Try.func16, Try.ntmps16
  go_wp2_with (go_at_call 23; (with_reducible refine (drive_Check.calls 1100 A0 c l 0 _ ?s1 ?s2 H.out).mono ?_); (case s1 => exact Kd.C_alloc (Kd.C_alloc HR.out _) _); (case s2 => exact hc); rintro e w' ⟨rfl, hb⟩; have cl : w'.cell? ⟨w.heap.size, 0, none⟩ = some (.slice A0 l.length c) := pw_cell_below hb (wold (wnew _ _ _)); have cx : w'.cell? ⟨w.heap.size + 1, 0, none⟩ = some (.int .i64 x) := pw_cell_below hb (wnew2 _ _ _ _); have HRC := Aside0.mk (Kd.C_below HR.out (below_made2 hb)); have HB := Aside0.mk (below_made2 hb); clear hb)
  refine (HS.out w' HRC.out cl cx).mono ?_
  rintro e w6 ⟨rfl, hb6⟩
  have HBB := Aside0.mk (below_step HB.out hb6)
  clear hb6 HS HRC cl cx HB H HR
  by_cases hm7 : m = 2147483648
  · have d0 : decide (2147483647 < (m : Int)) = true := decide_eq_true (by omega)
    go_wp2
    go_ret2
    exact ⟨by first | rfl | (rw [if_pos hm7, if_pos hm7]; rfl), HBB.out⟩
  · have d0 : decide (2147483647 < (m : Int)) = false := decide_eq_false (by omega)
    go_wp2
    go_ret2
    exact ⟨by first | rfl | (rw [if_neg hm7, if_neg hm7]; rfl), HBB.out⟩

/-- What When answers. -/
def drive_When.f (l : List Pace) (x : Int) : Option (Int × Int) := some (whenSpec l x)

theorem drive_When.calls (A0 : Option Addr) (c0 : Nat) (l0 : List (S42)) (a1 : Int) (r1 : Int) (r2 : Int) (w : World) (hr0 : Kd.C k42 w A0 l0.length l0) (hc0 : l0.length ≤ c0) (h : drive_When.f l0 a1 = some (r1, r2)) :
    Calls Try.prog 16 #[.slice A0 l0.length c0, .int .i64 a1] w fun e w' => e = .returned (.tuple #[.int .i64 r1, .int .i64 r2]) ∧ Below w.heap.size w w' := by
  have hc := dCheck_eq l0 1100 (Nat.le_refl _)
  unfold drive_When.f at h
  injection h with h
  unfold whenSpec at h
  by_cases c : chkSpec l0 = 0
  · rw [if_pos c] at h
    rw [c] at hc
    obtain ⟨z1, z2, z3⟩ := chk_zero c
    by_cases d : a1 < 0 ∨ 17179869184 ≤ a1
    · rw [if_pos d] at h
      cases h
      by_cases d1 : a1 < 0
      · exact when_low l0 A0 c0 a1 w hr0 hc0 hc d1
      · exact when_high l0 A0 c0 a1 w hr0 hc0 hc (by omega)
    · rw [if_neg d] at h
      have hg := when_good l0 A0 c0 a1 (whenAt l0 a1) w hr0 hc0 hc (by omega) (by omega) z1 z2 rfl
      by_cases e : whenAt l0 a1 = 2147483648
      · rw [if_pos e] at h
        rw [if_pos e, if_pos e] at hg
        cases h; exact hg
      · rw [if_neg e] at h
        rw [if_neg e, if_neg e] at hg
        cases h; exact hg
  · rw [if_neg c] at h
    cases h
    exact when_bad l0 A0 c0 a1 (chkSpec l0) w hr0 hc0 hc c
end Go.Proofs.Ytfjeekjlhgjckaa.P
