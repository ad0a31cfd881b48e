/- The statement DriveRamp over numbers alone. -/
import Derived.Test.YtfjeekjlhgjckaaPx20
import Derived.Test.YtfjeekjlhgjckaaDriveLen
import Derived.Test.YtfjeekjlhgjckaaDriveAwake
import Derived.Test.YtfjeekjlhgjckaaDriveRamp
namespace Go.Proofs.Ytfjeekjlhgjckaa.Pure
open Go.RowKit Go.Proofs.Ytfjeekjlhgjckaa.P Go.Proofs.YtfjeekjlhgjckaaW.PrintWords Go.Proofs.YtfjeekjlhgjckaaW.PrintLast
set_option linter.unusedVariables false

theorem rampL_len (a b c d : Int) (n : Nat) : (rampL a b c d n).length = n := by unfold rampL; simp
theorem rampL_rd (a b c d : Int) (n i : Nat) (h : i < n) : rd_T42 (rampL a b c d n) (i : Int) = ⟨a + (i : Int), rampV b c d (i : Int)⟩ := by
  unfold rd_T42 rampL
  rw [Int.toNat_natCast, List.getD_eq_getElem?_getD, List.getElem?_map, List.getElem?_range h]; rfl

theorem rd_cons (p : S42) (l : List S42) (i : Nat) : rd_T42 (p :: l) ((i + 1 : Nat) : Int) = rd_T42 l (i : Int) := by
  unfold rd_T42
  rw [Int.toNat_natCast, Int.toNat_natCast, List.getD_cons_succ]

theorem incr_of (l : List S42) : (∀ i : Nat, i + 1 < l.length → (rd_T42 l (i : Int)).f0 < (rd_T42 l ((i + 1 : Nat) : Int)).f0) → incr l = true := by
  induction l with
  | nil => intro _; rfl
  | cons p a ih =>
    intro h
    cases a with
    | nil => rfl
    | cons q r =>
      rw [incr_two, Bool.and_eq_true]
      refine ⟨decide_eq_true ?_, ih (fun i hi => ?_)⟩
      · have := h 0 (by simp)
        rw [rd_cons] at this
        exact this
      · have := h (i + 1) (by simp at hi ⊢; omega)
        rw [rd_cons, rd_cons] at this
        exact this

theorem ramp_chk (a b c d : Int) (n : Nat) (h : rampOk a b c d) (hn : n ≤ 512) (ha : a + (n : Int) ≤ 2147483648) : chkSpec (rampL a b c d n) = 0 := by
  unfold rampOk at h
  unfold chkSpec
  rw [rampL_len, if_neg (by omega), if_neg, if_pos]
  · refine incr_of _ (fun i hi => ?_)
    rw [rampL_len] at hi
    rw [rampL_rd _ _ _ _ _ _ (by omega), rampL_rd _ _ _ _ _ _ (by omega)]
    dsimp only; omega
  · intro hh
    apply hh
    intro p hp
    obtain ⟨i, hi, rfl⟩ := List.mem_map.1 hp
    have hi' := List.mem_range.1 hi
    have := ramp_bounds b c d i (by omega) (by omega) (by omega) (by omega) (by omega) (by omega)
    unfold okE
    dsimp only; omega

theorem ramp_loop (a b c d : Int) (h : rampOk a b c d) (m : Nat) (hm : (m : Int) = rampN b c d) (hn : m ≤ 511) (ha : a + (m : Int) ≤ 2147483647) (k : Nat) (hk : 1500 ≤ k) :
    ∀ e i : Nat, i + 1 + e = m + 1 → papermilllaw29_DriveRamp.l0 (k + e + 1) (rampL a b c d (m + 1)) ((i : Int) + 1) a b c d = some true := by
  unfold rampOk at h
  intro e
  induction e with
  | zero =>
    intro i hi
    unfold papermilllaw29_DriveRamp.l0
    rw [rampL_len, if_neg (by omega), awake_ge (by omega), Option.bind_some]
  | succ e ih =>
    intro i hi
    have g := ih (i + 1) (by omega)
    rw [show ((i + 1 : Nat) : Int) = (i : Int) + 1 by omega] at g
    have r0 := rampL_rd a b c d (m + 1) i (by omega)
    have r1 := rampL_rd a b c d (m + 1) (i + 1) (by omega)
    rw [show ((i + 1 : Nat) : Int) = (i : Int) + 1 by omega] at r1
    have v0 := ramp_bounds b c d i (by omega) (by omega) (by omega) (by omega) (by omega) (by omega)
    have v1 := ramp_bounds b c d ((i : Int) + 1) (by omega) (by omega) (by omega) (by omega) (by omega) (by omega)
    have s := rampV_step b c d i (by omega) (by omega)
    have hlast : (i : Int) + 1 + 1 < ((m + 1 : Nat) : Int) → (b < c → rampV b c d ((i : Int) + 1) < c) ∧ (¬ b < c → c < rampV b c d ((i : Int) + 1)) := fun hh => by
      have s2 := rampV_step b c d ((i : Int) + 1) (by omega) (by omega)
      exact ⟨fun hc => (s2.1 hc).1, fun hc => (s2.2 hc).1⟩
    unfold papermilllaw29_DriveRamp.l0
    rw [rampL_len, if_pos (by omega), if_pos (by omega), dwrap (x := (i : Int) + 1 - 1) (by omega) (by omega), show (i : Int) + 1 - 1 = i by omega, if_pos (by omega), if_pos (by omega), r0, r1, dwrap (x := (i : Int) + 1 + 1) (by omega) (by omega)]
    dsimp only
    rw [dwrap (x := a + (i : Int) + 1) (by omega) (by omega), if_pos (by omega), dwrap (x := rampV b c d ((i : Int) + 1) - rampV b c d (i : Int)) (by omega) (by omega), dwrap (x := -d) (by omega) (by omega)]
    generalize rampV b c d ((i : Int) + 1) = y at *
    generalize rampV b c d (i : Int) = x at *
    by_cases hc : b < c
    · obtain ⟨s1, s2, s3⟩ := s.1 hc
      rw [if_neg (by omega), if_neg (by omega), if_neg (by omega)]
      by_cases hh : (i : Int) + 1 + 1 < ((m + 1 : Nat) : Int)
      · have := (hlast hh).1 hc
        rw [if_pos hh, if_pos (by omega)]; exact g
      · rw [if_neg hh]; exact g
    · obtain ⟨s1, s2, s3⟩ := s.2 hc
      rw [if_neg (by omega), if_neg (by omega), if_neg (by omega)]
      by_cases hh : (i : Int) + 1 + 1 < ((m + 1 : Nat) : Int)
      · have := (hlast hh).2 hc
        rw [if_pos hh, if_neg (by omega), if_pos (by omega)]; exact g
      · rw [if_neg hh]; exact g

theorem DriveRamp (a0_0 a0_1 a0_2 a0_3 : Int) (w0 : (Lit.int .i64 a0_0).wf = true) (w1 : (Lit.int .i64 a0_1).wf = true) (w2 : (Lit.int .i64 a0_2).wf = true) (w3 : (Lit.int .i64 a0_3).wf = true) :
    ∃ k, papermilllaw29_DriveRamp.f k a0_0 a0_1 a0_2 a0_3 = some true := by
  refine ⟨1500 + (rampN a0_1 a0_2 a0_3).toNat + 1 + 1, ?_⟩
  generalize hk : (1500 : Nat) = k0
  have hk2 : 1500 ≤ k0 := by omega
  clear hk
  unfold papermilllaw29_DriveRamp.f
  rw [dRamp_eq _ _ _ _ _ (by omega), awake_ge (by omega), Option.bind_some, Option.bind_some]
  by_cases h : rampOk a0_0 a0_1 a0_2 a0_3
  · have h' := h
    unfold rampOk at h'
    have b0 := (rampN_spec a0_1 a0_2 a0_3 (by omega)).1
    have bl := rampV_last a0_1 a0_2 a0_3 (by omega)
    obtain ⟨m, hm⟩ := Int.eq_ofNat_of_zero_le b0
    by_cases c : 512 < rampN a0_1 a0_2 a0_3 + 1
    · have e : rampSpec a0_0 a0_1 a0_2 a0_3 = ([], 8) := by unfold rampSpec; rw [if_neg (fun hh => hh h), if_pos c]
      rw [e, if_neg (show ¬ ((8 : Int) = 0) by decide), if_pos (show (([] : List S42).length : Int) = 0 from rfl)]
    · by_cases d : 2147483647 < a0_0 + rampN a0_1 a0_2 a0_3
      · have e : rampSpec a0_0 a0_1 a0_2 a0_3 = ([], 37) := by unfold rampSpec; rw [if_neg (fun hh => hh h), if_neg c, if_pos d]
        rw [e, if_neg (show ¬ ((37 : Int) = 0) by decide), if_pos (show (([] : List S42).length : Int) = 0 from rfl)]
      · have e : rampSpec a0_0 a0_1 a0_2 a0_3 = (rampL a0_0 a0_1 a0_2 a0_3 (m + 1), 0) := by unfold rampSpec; rw [if_neg (fun hh => hh h), if_neg c, if_neg d, hm, show ((m : Int) + 1).toNat = m + 1 by omega]
        have hc := ramp_chk a0_0 a0_1 a0_2 a0_3 (m + 1) h (by omega) (by omega)
        have r0 := rampL_rd a0_0 a0_1 a0_2 a0_3 (m + 1) 0 (by omega)
        have rm := rampL_rd a0_0 a0_1 a0_2 a0_3 (m + 1) m (by omega)
        rw [show ((0 : Nat) : Int) = 0 from rfl, rampV_zero, Int.add_zero] at r0
        rw [← hm, bl] at rm
        have hl := ramp_loop a0_0 a0_1 a0_2 a0_3 h m hm.symm (by omega) (by omega) k0 hk2 m 0 (by omega)
        have hj : papermilllaw29_DriveRamp.j0 (k0 + m + 1 + 1) (rampL a0_0 a0_1 a0_2 a0_3 (m + 1)) false a0_0 a0_1 a0_2 a0_3 = some true := by
          unfold papermilllaw29_DriveRamp.j0; dsimp only
          rw [if_neg (by decide)]
          exact hl
        rw [e, if_pos rfl]
        dsimp only
        rw [rampL_len, if_neg (by omega), if_neg (by omega), dCheck_eq _ _ (by omega), hc, Option.bind_some, if_pos rfl, if_pos (by omega), r0, if_neg (by simp), dwrap (x := ((m + 1 : Nat) : Int) - 1) (by omega) (by omega), if_pos (by omega), if_pos (by omega), show ((m + 1 : Nat) : Int) - 1 = rampN a0_1 a0_2 a0_3 by omega, rm]
        dsimp only
        rw [show (a0_2 != a0_2) = false by simp, hm, Int.toNat_natCast]
        exact hj
  · have e : rampSpec a0_0 a0_1 a0_2 a0_3 = ([], 1) := by unfold rampSpec; rw [if_pos h]
    rw [e, if_neg (show ¬ ((1 : Int) = 0) by decide), if_pos (show (([] : List S42).length : Int) = 0 from rfl)]
end Go.Proofs.Ytfjeekjlhgjckaa.Pure
