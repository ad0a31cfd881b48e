/- align.Back: the least a with at least this Forward; the walk. -/
import Derived.Test.YthdjlejljipjmaaHandForward
namespace Go.Proofs.Ythdjlejljipjmaa.P
open Go.RowKit Go.Proofs.YthdjlejljipjmaaW.PrintWords Go.Proofs.YthdjlejljipjmaaW.PrintLast Go.Proofs.YthdjlejljipjmaaW.PrintMore Go.Proofs.Ythdjlejljipjmaa.First Go.Proofs.Ythdjlejljipjmaa.Math
set_option linter.unusedVariables false
set_option linter.unusedSimpArgs false

theorem add_zz (ad : Addr) : ad.add (0 * 2) = ad := by simp [Addr.add]

theorem below_box {w w5 : World} {o : Obj} (hb : Below (w.alloc o).heap.size (w.alloc o) w5) : Below w.heap.size w w5 := below_step (below_alloc (Below.refl w.heap.size w) o) hb

set_option maxHeartbeats 1000000 in
set_option maxRecDepth 100000 in
theorem back_bad (l : List Mk) (A0 : Option Addr) (c : Nat) (b r : Int) (w : World) (hr : Kd.C k41 w A0 l.length l) (hc : l.length ≤ c) (h : align_Check.f 300 l = some r) (hr0 : r ≠ 0) :
    Calls Try.prog 17 #[.slice A0 l.length c, .int .i64 b] w fun e w' => e = .returned (.tuple #[.int .i64 0, .int .i64 r]) ∧ Below w.heap.size w w' := by
  have H := Aside0.mk h
  have HR := Aside0.mk hr
  have hb0 : (r == 0) = false := beq_eq_false_iff_ne.mpr hr0
  have hb1 : (r != 0) = true := bne_iff_ne.mpr hr0
  clear h hr hr0
  go_enter Try.func17, Try.ntmps17
  go_wp2_with (go_at_call 13; (with_reducible refine (align_Check.calls 300 A0 c l r _ (Kd.C_alloc HR.out _) hc H.out).mono ?_); rintro e w5 ⟨rfl, hb⟩)
  go_ret2
  exact ⟨rfl, below_box hb⟩

set_option maxHeartbeats 1000000 in
set_option maxRecDepth 100000 in
theorem back_out (l : List Mk) (A0 : Option Addr) (c : Nat) (b : Int) (w : World) (hr : Kd.C k41 w A0 l.length l) (hc : l.length ≤ c) (hok : okM l) (h : align_Check.f 300 l = some 0) (hout : b < mB l 0 ∨ mB l (l.length - 1) < b) :
    Calls Try.prog 17 #[.slice A0 l.length c, .int .i64 b] w fun e w' => e = .returned (.tuple #[.int .i64 0, .int .i64 1]) ∧ Below w.heap.size w w' := by
  have H := Aside0.mk h
  have HR := Aside0.mk hr
  have h2 := hok.1
  have h64 := hok.2.1
  clear h hr hok
  have hu := Try.underlying41
  have hsub : wrap64 ((l.length : Int) - 1) = ((l.length - 1 : Nat) : Int) := by unfold wrap64; omega
  have hsub2 : IntKind.i64.wrap ((l.length : Int) - 1) = ((l.length - 1 : Nat) : Int) := by rw [IntKind.wrap_i64]; omega
  have hsub3 : (l.length : Int) - 1 = ((l.length - 1 : Nat) : Int) := by omega
  have l1 : l.length - 1 < l.length := by omega
  have l2 : 0 < l.length := by omega
  by_cases c1 : b < mB l 0
  · have k1 : decide (b < mB l 0) = true := decide_eq_true c1
    clear hout
    go_enter Try.func17, Try.ntmps17
    go_wp2_with (go_at_call 13; (with_reducible refine (align_Check.calls 300 A0 c l 0 _ (Kd.C_alloc HR.out _) hc H.out).mono ?_); rintro e w5 ⟨rfl, hb⟩
                 have hx : w5.cell? ⟨w.heap.size, 0, none⟩ = some (.int .i64 b) := pw_cell_below hb (fnew w _ _)
                 have HB := Aside0.mk (below_box hb)
                 clear hb
                 obtain ⟨ad, ea, hx0, hx1⟩ := at_T41 (Kd.C_below HR.out HB.out) ((0 : Nat) : Int) (by omega) (by omega)
                 subst ea
                 rw [Int.toNat_natCast] at hx0 hx1
                 have hx2 : w5.cell? ⟨ad.block, ad.off + 1, none⟩ = some (.int .i64 (mB l 0)) := by rw [← add_zz ad]; exact hx1
                 clear hx0 hx1)
    go_quiet (fail)
    go_wp2
    go_ret2
    exact ⟨rfl, pw_below_drewN HB.out _⟩
  · have c2 : mB l (l.length - 1) < b := by omega
    have k1 : decide (b < mB l 0) = false := decide_eq_false c1
    have k2 : decide (mB l (l.length - 1) < b) = true := decide_eq_true c2
    clear hout
    go_enter Try.func17, Try.ntmps17
    go_wp2_with (go_at_call 13; (with_reducible refine (align_Check.calls 300 A0 c l 0 _ (Kd.C_alloc HR.out _) hc H.out).mono ?_); rintro e w5 ⟨rfl, hb⟩
                 have hx : w5.cell? ⟨w.heap.size, 0, none⟩ = some (.int .i64 b) := pw_cell_below hb (fnew w _ _)
                 have HB := Aside0.mk (below_box hb)
                 clear hb
                 obtain ⟨ad, ea, hx0, hx1⟩ := at_T41 (Kd.C_below HR.out HB.out) ((0 : Nat) : Int) (by omega) (by omega)
                 obtain ⟨ad', ea', hy0, hy1⟩ := at_T41 (Kd.C_below HR.out HB.out) ((l.length - 1 : Nat) : Int) (by omega) (by omega)
                 subst ea
                 injection ea' with ea'
                 subst ea'
                 rw [Int.toNat_natCast] at hx0 hx1 hy0 hy1
                 have hx2 : w5.cell? ⟨ad.block, ad.off + 1, none⟩ = some (.int .i64 (mB l 0)) := by rw [← add_zz ad]; exact hx1
                 have hy2 : w5.cell? ⟨(ad.add ((l.length - 1) * 2)).block, (ad.add ((l.length - 1) * 2)).off + 1, none⟩ = some (.int .i64 (mB l (l.length - 1))) := hy1
                 clear hx0 hx1 hy0 hy1)
    go_quiet (fail)
    go_wp2
    go_ret2
    exact ⟨rfl, pw_below_drewN HB.out _⟩

set_option maxHeartbeats 2000000 in
set_option maxRecDepth 100000 in
theorem back_good (l : List Mk) (A0 : Option Addr) (c : Nat) (b : Int) (w : World) (hr : Kd.C k41 w A0 l.length l) (hc : l.length ≤ c) (hok : okM l) (h : align_Check.f 300 l = some 0) (h0 : mB l 0 ≤ b) (h1 : b ≤ mB l (l.length - 1)) :
    Calls Try.prog 17 #[.slice A0 l.length c, .int .i64 b] w fun e w' => e = .returned (.tuple #[.int .i64 (bck l b), .int .i64 0]) ∧ Below w.heap.size w w' := by
  have H := Aside0.mk h
  have hsg := segB_spec hok h0 h1
  have hk := seg_le fB l b
  have h2 := hok.1
  have h64 := hok.2.1
  have b1 := hok.2.2.1 (seg fB l b) (by omega)
  have b2 := hok.2.2.1 (seg fB l b + 1) (by omega)
  have b3 := hok.2.2.2 (seg fB l b) (by omega)
  have eg : ∀ args w, (callFunc 32 args).run Try.prog w = .ok (.enter 32 args) w := Go.Proofs.enters_of Try.func32 (by kernel_rfl) rfl
  have hA : ∀ W : World, Below w.heap.size w W → W.cell? ⟨w.heap.size, 0, none⟩ = some (.int .i64 b) → _ := fun W hb hx => around_calls 32 fB b w.heap.size l A0 c W (fun W y h => bck_inner y.f0 y.f1 b _ W h) eg (Kd.C_below hr hb) hc hok (befB_mono hok b) hx
  have HA := Aside0.mk hA
  have HR := Aside0.mk hr
  unfold bck
  have k1 : decide (b < mB l 0) = false := decide_eq_false (by omega)
  have k2 : decide (mB l (l.length - 1) < b) = false := decide_eq_false (by omega)
  clear hA eg hr hok h0 h1 h
  generalize hp0 : mA l (seg fB l b) = p0 at *
  generalize hp1 : mB l (seg fB l b) = p1 at *
  generalize hq0 : mA l (seg fB l b + 1) = q0 at *
  generalize hq1 : mB l (seg fB l b + 1) = q1 at *
  clear hp0 hp1 hq0 hq1
  obtain ⟨d1, d2, d3⟩ := md_up (b - p1) (q0 - p0) (q1 - p1) (by omega) (by omega) (by omega) (by omega) (by omega) (by omega)
  have hmd : num_MulDiv.f (b - p1) (q0 - p0) (q1 - p1) 1 = some (-(-((b - p1) * (q0 - p0)) / (q1 - p1)), 0) := by unfold num_MulDiv.f; rw [d1]
  generalize -(-((b - p1) * (q0 - p0)) / (q1 - p1)) = d at *
  have HM := Aside0.mk hmd
  clear hmd d1
  have g1 : wrap64 (b - p1) = b - p1 := by unfold wrap64; omega
  have g2 : wrap64 (q1 - p1) = q1 - p1 := by unfold wrap64; omega
  have g3 : wrap64 (q0 - p0) = q0 - p0 := by unfold wrap64; omega
  have g4 : wrap64 (p0 + d) = p0 + d := by unfold wrap64; omega
  have hsub : wrap64 ((l.length : Int) - 1) = ((l.length - 1 : Nat) : Int) := by unfold wrap64; omega
  have hsub2 : IntKind.i64.wrap ((l.length : Int) - 1) = ((l.length - 1 : Nat) : Int) := by rw [IntKind.wrap_i64]; omega
  have hsub3 : (l.length : Int) - 1 = ((l.length - 1 : Nat) : Int) := by omega
  have l1 : l.length - 1 < l.length := by omega
  have l2 : 0 < l.length := by omega
  have hu := Try.underlying41
  go_enter Try.func17, Try.ntmps17
  go_wp2_with (go_at_call 13; (with_reducible refine (align_Check.calls 300 A0 c l 0 _ (Kd.C_alloc HR.out _) hc H.out).mono ?_); rintro e w5 ⟨rfl, hb⟩
               have hx : w5.cell? ⟨w.heap.size, 0, none⟩ = some (.int .i64 b) := pw_cell_below hb (fnew w _ _)
               have HB := Aside0.mk (below_box hb)
               clear hb
               obtain ⟨ad, ea, hx0, hx1⟩ := at_T41 (Kd.C_below HR.out HB.out) ((0 : Nat) : Int) (by omega) (by omega)
               obtain ⟨ad', ea', hy0, hy1⟩ := at_T41 (Kd.C_below HR.out HB.out) ((l.length - 1 : Nat) : Int) (by omega) (by omega)
               subst ea
               injection ea' with ea'
               subst ea'
               rw [Int.toNat_natCast] at hx0 hx1 hy0 hy1
               have hx2 : w5.cell? ⟨ad.block, ad.off + 1, none⟩ = some (.int .i64 (mB l 0)) := by rw [← add_zz ad]; exact hx1
               have hy2 : w5.cell? ⟨(ad.add ((l.length - 1) * 2)).block, (ad.add ((l.length - 1) * 2)).off + 1, none⟩ = some (.int .i64 (mB l (l.length - 1))) := hy1
               clear hx0 hx1 hy0 hy1)
  go_quiet (fail)
  go_wp2_with (first
    | (go_at_call 31; (with_reducible refine (HA.out _ ?c1 ?c2).mono ?_); (case c1 => exact pw_below_drewN HB.out _); (case c2 => exact hx); rintro e w6 ⟨rfl, hb⟩
       have hx6 : w6.cell? ⟨w.heap.size, 0, none⟩ = some (.int .i64 b) := pw_cell_below hb hx
       have hlt : w.heap.size < w6.heap.size := World.block_lt_of_cell? w6 _ hx6
       have HB6 := Aside0.mk (below_step (pw_below_drewN HB.out _) hb)
       clear hb)
    | (go_at_call 33; (with_reducible refine (num_MulDiv.calls _ _ _ _ d 0 _ HM.out).mono ?_); rintro e w7 ⟨rfl, hb⟩
       have hx7 : w7.cell? ⟨w6.heap.size, 0, none⟩ = some (.int .i64 p0) := pw_cell_below hb (pw_cell_below (below_alloc (Below.refl _ _) _) (mnew0 w6 _ _ _))
       have HB7 := Aside0.mk (below_step (below_alloc (below_alloc HB6.out _) _) hb)
       clear hb))
  go_ret2
  exact ⟨rfl, HB7.out⟩

/-- What Back answers. -/
def align_Back.f (l0 : List Mk) (b : Int) : Option (Int × Int) := some (if chkM l0 = 0 then (if mB l0 0 ≤ b ∧ b ≤ mB l0 (l0.length - 1) then (bck l0 b, 0) else (0, 1)) else (0, chkM l0))

theorem align_Back.calls (A0 : Option Addr) (c0 : Nat) (l0 : List Mk) (a1 : Int) (r1 r2 : Int) (w : World) (hr0 : Kd.C k41 w A0 l0.length l0) (hc0 : l0.length ≤ c0) (h : align_Back.f l0 a1 = some (r1, r2)) :
    Calls Try.prog 17 #[.slice A0 l0.length c0, .int .i64 a1] w fun e w' => e = .returned (.tuple #[.int .i64 r1, .int .i64 r2]) ∧ Below w.heap.size w w' := by
  have hc := checkM_eq l0 300 (by omega)
  unfold align_Back.f at h
  injection h with h
  by_cases hz : chkM l0 = 0
  · rw [if_pos hz] at h
    rw [hz] at hc
    have hok := (chkM_zero l0).1 hz
    by_cases hb : mB l0 0 ≤ a1 ∧ a1 ≤ mB l0 (l0.length - 1)
    · rw [if_pos hb] at h
      cases h
      exact back_good l0 A0 c0 a1 w hr0 hc0 hok hc hb.1 hb.2
    · rw [if_neg hb] at h
      cases h
      exact back_out l0 A0 c0 a1 w hr0 hc0 hok hc (by omega)
  · rw [if_neg hz] at h
    cases h
    exact back_bad l0 A0 c0 a1 _ w hr0 hc0 hc hz
end Go.Proofs.Ythdjlejljipjmaa.P
