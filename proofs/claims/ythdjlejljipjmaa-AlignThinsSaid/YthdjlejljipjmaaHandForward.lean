/- align.forward: what B shows; the walk. -/
import Derived.Test.YthdjlejljipjmaaHandAround
import Derived.Test.YthdjlejljipjmaaHandMulDiv
namespace Go.Proofs.Ythdjlejljipjmaa.P
open Go.RowKit Go.Proofs.YthdjlejljipjmaaW.PrintWords Go.Proofs.YthdjlejljipjmaaW.PrintLast Go.Proofs.YthdjlejljipjmaaW.PrintMore Go.Proofs.Ythdjlejljipjmaa.First Go.Proofs.Ythdjlejljipjmaa.Math
set_option linter.unusedVariables false
set_option linter.unusedSimpArgs false

theorem befA_mono {l : List Mk} (hok : okM l) (x : Int) : ∀ a b, a ≤ b → b < l.length - 2 → bef fA l x a = true → bef fA l x b = true := by
  intro a b hab hb h
  unfold bef fA at h ⊢
  rw [show (a : Int) + 1 = ((a + 1 : Nat) : Int) by omega] at h
  rw [show (b : Int) + 1 = ((b + 1 : Nat) : Int) by omega]
  have h' : ¬ mA l (a + 1) < x := by simpa [mA] using h
  have hm : mA l (a + 1) ≤ mA l (b + 1) := by
    by_cases e : a = b
    · subst e; exact Int.le_refl _
    · exact Int.le_of_lt (mono_of hok (show a + 1 < b + 1 by omega) (by omega)).1
  have : ¬ mA l (b + 1) < x := by omega
  simpa [mA] using this

theorem befB_mono {l : List Mk} (hok : okM l) (x : Int) : ∀ a b, a ≤ b → b < l.length - 2 → bef fB l x a = true → bef fB l x b = true := by
  intro a b hab hb h
  unfold bef fB at h ⊢
  rw [show (a : Int) + 1 = ((a + 1 : Nat) : Int) by omega] at h
  rw [show (b : Int) + 1 = ((b + 1 : Nat) : Int) by omega]
  have h' : ¬ mB l (a + 1) < x := by simpa [mB] using h
  have hm : mB l (a + 1) ≤ mB l (b + 1) := by
    by_cases e : a = b
    · subst e; exact Int.le_refl _
    · exact Int.le_of_lt (mono_of hok (show a + 1 < b + 1 by omega) (by omega)).2
  have : ¬ mB l (b + 1) < x := by omega
  simpa [mB] using this

theorem fnew (w : World) (v : Value) (t : TypeId) : (w.alloc (.cells #[v] t)).cell? ⟨w.heap.size, 0, none⟩ = some v := by
  rw [World.cell?_alloc_at _ _ _ _ (by simp)]; rfl

theorem mnew (w : World) (a b : Value) (t : TypeId) : (w.alloc (.cells #[a, b] t)).cell? ⟨w.heap.size, 1, none⟩ = some b := by
  rw [World.cell?_alloc_at _ _ _ _ (by simp)]; rfl
theorem mnew0 (w : World) (a b : Value) (t : TypeId) : (w.alloc (.cells #[a, b] t)).cell? ⟨w.heap.size, 0, none⟩ = some a := by
  rw [World.cell?_alloc_at _ _ _ _ (by simp)]; rfl

set_option maxHeartbeats 1000000 in
set_option maxRecDepth 100000 in
theorem fwd_walk (l : List Mk) (A0 : Option Addr) (c : Nat) (a : Int) (w : World) (hr : Kd.C k41 w A0 l.length l) (hc : l.length ≤ c) (hok : okM l) (h0 : mA l 0 ≤ a) (h1 : a ≤ mA l (l.length - 1)) :
    Calls Try.prog 29 #[.slice A0 l.length c, .int .i64 a] w fun e w' => e = .returned (.int .i64 (fwd l a)) ∧ Below w.heap.size w w' := by
  have hsg := segA_spec hok h0 h1
  have hk := seg_le fA l a
  have h2 := hok.1
  have b1 := hok.2.2.1 (seg fA l a) (by omega)
  have b2 := hok.2.2.1 (seg fA l a + 1) (by omega)
  have b3 := hok.2.2.2 (seg fA l a) (by omega)
  have eg : ∀ args w, (callFunc 36 args).run Try.prog w = .ok (.enter 36 args) w := Go.Proofs.enters_of Try.func36 (by kernel_rfl) rfl
  have hA := around_calls 36 fA a w.heap.size l A0 c (w.alloc (.cells #[.int .i64 a] 3)) (fun W y h => fwd_inner y.f0 y.f1 a _ W h) eg (Kd.C_alloc hr _) hc hok (befA_mono hok a) (fnew w _ _)
  have HA := Aside0.mk hA
  unfold fwd
  clear hA eg hr hok h0 h1
  generalize mA l (seg fA l a) = p0 at *
  generalize mB l (seg fA l a) = p1 at *
  generalize mA l (seg fA l a + 1) = q0 at *
  generalize mB l (seg fA l a + 1) = q1 at *
  obtain ⟨d1, d2, d3⟩ := md_down (a - p0) (q1 - p1) (q0 - p0) (by omega) (by omega) (by omega) (by omega) (by omega) (by omega)
  have hmd : num_MulDiv.f (a - p0) (q1 - p1) (q0 - p0) 0 = some ((a - p0) * (q1 - p1) / (q0 - p0), 0) := by unfold num_MulDiv.f; rw [d1]
  generalize (a - p0) * (q1 - p1) / (q0 - p0) = d at *
  have HM := Aside0.mk hmd
  clear hmd d1
  have g1 : wrap64 (a - p0) = a - p0 := by unfold wrap64; omega
  have g2 : wrap64 (q1 - p1) = q1 - p1 := by unfold wrap64; omega
  have g3 : wrap64 (q0 - p0) = q0 - p0 := by unfold wrap64; omega
  have g4 : wrap64 (p1 + d) = p1 + d := by unfold wrap64; omega
  have hu := Try.underlying41
  go_enter Try.func29, Try.ntmps29
  go_wp2_with (first
    | (go_at_call 31; (with_reducible refine HA.out.mono ?_); rintro e w5 ⟨rfl, hb⟩
       have hx : w5.cell? ⟨w.heap.size, 0, none⟩ = some (.int .i64 a) := pw_cell_below hb (fnew w _ _)
       have hlt : w.heap.size < w5.heap.size := World.block_lt_of_cell? w5 _ hx
       have HB := Aside0.mk (below_step (below_alloc (Below.refl w.heap.size w) _) hb)
       clear hb)
    | (go_at_call 33; (with_reducible refine (num_MulDiv.calls _ _ _ _ d 0 _ HM.out).mono ?_); rintro e w6 ⟨rfl, hb⟩
       have hx1 : w6.cell? ⟨w5.heap.size, 1, none⟩ = some (.int .i64 p1) := pw_cell_below hb (pw_cell_below (below_alloc (Below.refl _ _) _) (mnew w5 _ _ _))
       have HB6 := Aside0.mk (below_step (below_alloc (below_alloc HB.out _) _) hb)
       clear hb))
  go_ret
  exact ⟨rfl, HB6.out⟩

/-- What forward answers; it is asked of valid marks and of a place on them alone. -/
def align_forward.f (l0 : List Mk) (a1 : Int) : Option Int := if chkM l0 = 0 ∧ mA l0 0 ≤ a1 ∧ a1 ≤ mA l0 (l0.length - 1) then some (fwd l0 a1) else none

theorem align_forward.calls (A0 : Option Addr) (c0 : Nat) (l0 : List Mk) (a1 : Int) (r : Int) (w : World) (hr0 : Kd.C k41 w A0 l0.length l0) (hc0 : l0.length ≤ c0) (h : align_forward.f l0 a1 = some r) :
    Calls Try.prog 29 #[.slice A0 l0.length c0, .int .i64 a1] w fun e w' => e = .returned (.int .i64 r) ∧ Below w.heap.size w w' := by
  unfold align_forward.f at h
  split at h
  · rename_i hh
    cases h
    exact fwd_walk l0 A0 c0 a1 w hr0 hc0 ((chkM_zero l0).1 hh.1) hh.2.1 hh.2.2
  · cases h
end Go.Proofs.Ythdjlejljipjmaa.P
