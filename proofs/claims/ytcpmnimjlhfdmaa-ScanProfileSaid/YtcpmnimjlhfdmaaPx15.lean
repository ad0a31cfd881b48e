-- Written by a program (wip/prog/pp.py) over the kit's print; some of its functions are proved by hand. Not trusted: Lean checks it.
import Derived.Test.YtcpmnimjlhfdmaaPx0
import Derived.Test.YtcpmnimjlhfdmaaPx1
import Derived.Test.YtcpmnimjlhfdmaaPx2
import Derived.Test.YtcpmnimjlhfdmaaPx3
import Derived.Test.YtcpmnimjlhfdmaaPx8
import Derived.Test.YtcpmnimjlhfdmaaHandProfile
namespace Go.Proofs.Ytcpmnimjlhfdmaa.P
open Go.RowKit Go.Proofs.YtcpmnimjlhfdmaaW.PrintWords Go.Proofs.YtcpmnimjlhfdmaaW.PrintLast Go.Proofs.YtcpmnimjlhfdmaaW.PrintMore
attribute [local go_sem] max2_int min2_int max_two min_two max_three min_three max_four min_four   -- for this text's walks alone
set_option linter.unusedVariables false
set_option linter.unusedSimpArgs false

attribute [local go_sem high] eqA47
/-! ### papermilllaw35_ScanProfile: function 7 -/
mutual
def papermilllaw35_ScanProfile.j0 : Nat → List (S49) → Int → List (S47) → Bool → Int → Int → Int → Option (Bool)
  | 0, _, _, _, _, _, _, _ => none
  | k + 1, x1, x2, x7, x45, x266000, x266001, x266002 => if x45 = true then (some false) else (papermilllaw35_ScanProfile.l0 k x1 x2 x7 0 0 0 x266000 x266001 x266002)
def papermilllaw35_ScanProfile.l0 : Nat → List (S49) → Int → List (S47) → Int → Int → Int → Int → Int → Int → Option (Bool)
  | 0, _, _, _, _, _, _, _, _, _ => none
  | k + 1, x1, x2, x7, x9, x10, x11, x266000, x266001, x266002 => if x11 < (x7.length : Int) then (if 0 ≤ x11 then (papermilllaw35_ScanProfile.l0 k x1 x2 x7 (wrap64 (x9 + ((rd_T47 x7 x11).f0))) (wrap64 (x10 + ((rd_T47 x7 x11).f1))) (wrap64 (x11 + 1)) x266000 x266001 x266002) else (none)) else (papermilllaw35_ScanProfile.l1 k x1 x2 x9 x10 0 x266000 x266001 x266002)
def papermilllaw35_ScanProfile.l1 : Nat → List (S49) → Int → Int → Int → Int → Int → Int → Int → Option (Bool)
  | 0, _, _, _, _, _, _, _, _ => none
  | k + 1, x1, x2, x9, x10, x12, x266000, x266001, x266002 => if x12 < (x1.length : Int) then (if 0 ≤ x12 then (papermilllaw35_ScanProfile.l1 k x1 x2 x9 (wrap64 (x10 - ((rd_T49 x1 x12).f1))) (wrap64 (x12 + 1)) x266000 x266001 x266002) else (none)) else (if x9 = (x1.length : Int) then (if x10 = 0 then (papermilllaw35_ScanProfile.j3 k x1 x2 x9 x10 ((x1.length : Int) == 0) x266000 x266001 x266002) else (papermilllaw35_ScanProfile.j3 k x1 x2 x9 x10 true x266000 x266001 x266002)) else (papermilllaw35_ScanProfile.j3 k x1 x2 x9 x10 true x266000 x266001 x266002))
def papermilllaw35_ScanProfile.j3 : Nat → List (S49) → Int → Int → Int → Bool → Int → Int → Int → Option (Bool)
  | 0, _, _, _, _, _, _, _, _ => none
  | k + 1, x1, x2, x9, x10, x91, x266000, x266001, x266002 => if x91 = true then (if (x1.length : Int) = 0 then (if x9 = 0 then (if x10 = 0 then ((papermilllaw35_awake.f k).bind fun t276 => (some t276)) else (some false)) else (some false)) else (some false)) else (if (x1.length : Int) = 0 then (none) else (if 0 ≤ (Int.tmod (wrap64 ((Int.tmod x2 (x1.length : Int)) + (x1.length : Int))) (x1.length : Int)) then (if (Int.tmod (wrap64 ((Int.tmod x2 (x1.length : Int)) + (x1.length : Int))) (x1.length : Int)) ≤ (wrap64 ((Int.tmod (wrap64 ((Int.tmod x2 (x1.length : Int)) + (x1.length : Int))) (x1.length : Int)) + 1)) then (if (wrap64 ((Int.tmod (wrap64 ((Int.tmod x2 (x1.length : Int)) + (x1.length : Int))) (x1.length : Int)) + 1)) ≤ (x1.length : Int) then ((scan_Profile.f x266000 x266001 x266002 ((x1.take ((wrap64 ((Int.tmod (wrap64 ((Int.tmod x2 (x1.length : Int)) + (x1.length : Int))) (x1.length : Int)) + 1)) : Int).toNat).drop ((Int.tmod (wrap64 ((Int.tmod x2 (x1.length : Int)) + (x1.length : Int))) (x1.length : Int)) : Int).toNat)).bind fun bt281 => (if (Int.tmod (wrap64 ((Int.tmod x2 (x1.length : Int)) + (x1.length : Int))) (x1.length : Int)) < (x1.length : Int) then ((scan_Box.f x266000 x266001 x266002 ((rd_T49 x1 (Int.tmod (wrap64 ((Int.tmod x2 (x1.length : Int)) + (x1.length : Int))) (x1.length : Int))).f0)).bind fun bt286 => (if bt281.2 = 0 then (if bt286.2 = 0 then (if (bt281.1.length : Int) = x266001 then (if bt286.1 < 0 then (some false) else (if bt286.1 ≥ (bt281.1.length : Int) then (some false) else (if 0 ≤ bt286.1 then (if bt286.1 < (bt281.1.length : Int) then (if (((rd_T47 bt281.1 bt286.1).f0) == 1 && (((rd_T47 bt281.1 bt286.1).f1) == ((rd_T49 x1 (Int.tmod (wrap64 ((Int.tmod x2 (x1.length : Int)) + (x1.length : Int))) (x1.length : Int))).f1))) = true then ((papermilllaw35_awake.f k).bind fun t290 => (some t290)) else (some false)) else (none)) else (none)))) else (some false)) else (some false)) else (some false))) else (none))) else (none)) else (none)) else (none)))
end
def papermilllaw35_ScanProfile.f (k : Nat) (a0_0 : Int) (a0_1 : Int) (a0_2 : Int) (l1 : List (S49)) (a2 : Int) : Option (Bool) := if (l1.length : Int) > 600 then ((papermilllaw35_awake.f k).bind fun t266 => (some t266)) else ((scan_Profile.f a0_0 a0_1 a0_2 l1).bind fun bt267 => (if bt267.2 = 0 then (if (bt267.1.length : Int) = a0_1 then ((papermillref35_Check.f a0_0 a0_1 a0_2).bind fun t272 => (papermilllaw35_ScanProfile.j0 k l1 a2 bt267.1 (t272 != 0) a0_0 a0_1 a0_2)) else (papermilllaw35_ScanProfile.j0 k l1 a2 bt267.1 true a0_0 a0_1 a0_2)) else (if (bt267.1.length : Int) = 0 then ((papermilllaw35_awake.f k).bind fun t271 => (some t271)) else (some false))))
theorem papermilllaw35_ScanProfile.mono_l : ∀ k, (∀ y0 y1 y2 y3 y4 y5 y6, LeO (papermilllaw35_ScanProfile.j0 k y0 y1 y2 y3 y4 y5 y6) (papermilllaw35_ScanProfile.j0 (k + 1) y0 y1 y2 y3 y4 y5 y6)) ∧ (∀ y0 y1 y2 y3 y4 y5 y6 y7 y8, LeO (papermilllaw35_ScanProfile.l0 k y0 y1 y2 y3 y4 y5 y6 y7 y8) (papermilllaw35_ScanProfile.l0 (k + 1) y0 y1 y2 y3 y4 y5 y6 y7 y8)) ∧ (∀ y0 y1 y2 y3 y4 y5 y6 y7, LeO (papermilllaw35_ScanProfile.l1 k y0 y1 y2 y3 y4 y5 y6 y7) (papermilllaw35_ScanProfile.l1 (k + 1) y0 y1 y2 y3 y4 y5 y6 y7)) ∧ (∀ y0 y1 y2 y3 y4 y5 y6 y7, LeO (papermilllaw35_ScanProfile.j3 k y0 y1 y2 y3 y4 y5 y6 y7) (papermilllaw35_ScanProfile.j3 (k + 1) y0 y1 y2 y3 y4 y5 y6 y7))
  | 0 => ⟨fun _ _ _ _ _ _ _ r h => by simp [papermilllaw35_ScanProfile.j0] at h, fun _ _ _ _ _ _ _ _ _ r h => by simp [papermilllaw35_ScanProfile.l0] at h, fun _ _ _ _ _ _ _ _ r h => by simp [papermilllaw35_ScanProfile.l1] at h, fun _ _ _ _ _ _ _ _ r h => by simp [papermilllaw35_ScanProfile.j3] at h⟩
  | k + 1 => by
    obtain ⟨ih0, ih1, ih2, ih3⟩ := papermilllaw35_ScanProfile.mono_l k
    refine ⟨?_, ?_, ?_, ?_⟩
    · intro y0 y1 y2 y3 y4 y5 y6
      unfold papermilllaw35_ScanProfile.j0
      repeat' first
      | (with_reducible exact ih0 _ _ _ _ _ _ _)
      | (with_reducible exact ih1 _ _ _ _ _ _ _ _ _)
      | (with_reducible exact ih2 _ _ _ _ _ _ _ _)
      | (with_reducible exact ih3 _ _ _ _ _ _ _ _)
      | (with_reducible exact papermilllaw35_awake.mono _)
      | (with_reducible exact LeO.refl _)
      | (with_reducible exact LeO.none _)
      | (with_reducible refine LeO.ite ?_ ?_)
      | (with_reducible refine LeO.bind ?_ (fun _ => ?_))
      | exact ih0 _ _ _ _ _ _ _
      | exact ih1 _ _ _ _ _ _ _ _ _
      | exact ih2 _ _ _ _ _ _ _ _
      | exact ih3 _ _ _ _ _ _ _ _
      | exact papermilllaw35_awake.mono _
      | exact LeO.none _
      | refine LeO.ite ?_ ?_
      | refine LeO.bind ?_ (fun _ => ?_)
    · intro y0 y1 y2 y3 y4 y5 y6 y7 y8
      unfold papermilllaw35_ScanProfile.l0
      repeat' first
      | (with_reducible exact ih0 _ _ _ _ _ _ _)
      | (with_reducible exact ih1 _ _ _ _ _ _ _ _ _)
      | (with_reducible exact ih2 _ _ _ _ _ _ _ _)
      | (with_reducible exact ih3 _ _ _ _ _ _ _ _)
      | (with_reducible exact papermilllaw35_awake.mono _)
      | (with_reducible exact LeO.refl _)
      | (with_reducible exact LeO.none _)
      | (with_reducible refine LeO.ite ?_ ?_)
      | (with_reducible refine LeO.bind ?_ (fun _ => ?_))
      | exact ih0 _ _ _ _ _ _ _
      | exact ih1 _ _ _ _ _ _ _ _ _
      | exact ih2 _ _ _ _ _ _ _ _
      | exact ih3 _ _ _ _ _ _ _ _
      | exact papermilllaw35_awake.mono _
      | exact LeO.none _
      | refine LeO.ite ?_ ?_
      | refine LeO.bind ?_ (fun _ => ?_)
    · intro y0 y1 y2 y3 y4 y5 y6 y7
      unfold papermilllaw35_ScanProfile.l1
      repeat' first
      | (with_reducible exact ih0 _ _ _ _ _ _ _)
      | (with_reducible exact ih1 _ _ _ _ _ _ _ _ _)
      | (with_reducible exact ih2 _ _ _ _ _ _ _ _)
      | (with_reducible exact ih3 _ _ _ _ _ _ _ _)
      | (with_reducible exact papermilllaw35_awake.mono _)
      | (with_reducible exact LeO.refl _)
      | (with_reducible exact LeO.none _)
      | (with_reducible refine LeO.ite ?_ ?_)
      | (with_reducible refine LeO.bind ?_ (fun _ => ?_))
      | exact ih0 _ _ _ _ _ _ _
      | exact ih1 _ _ _ _ _ _ _ _ _
      | exact ih2 _ _ _ _ _ _ _ _
      | exact ih3 _ _ _ _ _ _ _ _
      | exact papermilllaw35_awake.mono _
      | exact LeO.none _
      | refine LeO.ite ?_ ?_
      | refine LeO.bind ?_ (fun _ => ?_)
    · intro y0 y1 y2 y3 y4 y5 y6 y7
      unfold papermilllaw35_ScanProfile.j3
      repeat' first
      | (with_reducible exact ih0 _ _ _ _ _ _ _)
      | (with_reducible exact ih1 _ _ _ _ _ _ _ _ _)
      | (with_reducible exact ih2 _ _ _ _ _ _ _ _)
      | (with_reducible exact ih3 _ _ _ _ _ _ _ _)
      | (with_reducible exact papermilllaw35_awake.mono _)
      | (with_reducible exact LeO.refl _)
      | (with_reducible exact LeO.none _)
      | (with_reducible refine LeO.ite ?_ ?_)
      | (with_reducible refine LeO.bind ?_ (fun _ => ?_))
      | exact ih0 _ _ _ _ _ _ _
      | exact ih1 _ _ _ _ _ _ _ _ _
      | exact ih2 _ _ _ _ _ _ _ _
      | exact ih3 _ _ _ _ _ _ _ _
      | exact papermilllaw35_awake.mono _
      | exact LeO.none _
      | refine LeO.ite ?_ ?_
      | refine LeO.bind ?_ (fun _ => ?_)
theorem papermilllaw35_ScanProfile.mono : ∀ a0 a1 a2 a3 a4 k, LeO (papermilllaw35_ScanProfile.f k a0 a1 a2 a3 a4) (papermilllaw35_ScanProfile.f (k + 1) a0 a1 a2 a3 a4) := by
  intro a0 a1 a2 a3 a4 k
  obtain ⟨ih0, ih1, ih2, ih3⟩ := papermilllaw35_ScanProfile.mono_l k
  unfold papermilllaw35_ScanProfile.f
  repeat' first
      | (with_reducible exact ih0 _ _ _ _ _ _ _)
      | (with_reducible exact ih1 _ _ _ _ _ _ _ _ _)
      | (with_reducible exact ih2 _ _ _ _ _ _ _ _)
      | (with_reducible exact ih3 _ _ _ _ _ _ _ _)
      | (with_reducible exact papermilllaw35_awake.mono _)
      | (with_reducible exact LeO.refl _)
      | (with_reducible exact LeO.none _)
      | (with_reducible refine LeO.ite ?_ ?_)
      | (with_reducible refine LeO.bind ?_ (fun _ => ?_))
      | exact ih0 _ _ _ _ _ _ _
      | exact ih1 _ _ _ _ _ _ _ _ _
      | exact ih2 _ _ _ _ _ _ _ _
      | exact ih3 _ _ _ _ _ _ _ _
      | exact papermilllaw35_awake.mono _
      | exact LeO.none _
      | refine LeO.ite ?_ ?_
      | refine LeO.bind ?_ (fun _ => ?_)
def papermilllaw35_ScanProfile.T12 : Bool × List (List Nat × List Nat) := (true, [([], []), ([], []), ([], []), ([1, 2], [1, 2]), ([3], [3]), ([4], [4]), ([0, 5], [0, 5]), ([], []), ([], []), ([], []), ([8, 9], [8, 9]), ([10], [10]), ([11], [11]), ([7, 12], [7, 12]), ([6, 0, 1, 2, 3, 4, 5, 6], [0, 6]), ([13, 14, 0, 1, 2, 3, 4, 5, 6, 7, 8, 9, 10, 11, 12, 13, 14], [7, 13])])
def papermilllaw35_ScanProfile.B12 : List Nat := [0, 0, 0, 6, 14, 30, 63, 0, 0, 0, 768, 1792, 3840, 8064, 127, 32767]
theorem papermilllaw35_ScanProfile.tab12 : rtab .any (opsOf Try.f7 12) = papermilllaw35_ScanProfile.T12 := by kernel_rfl
theorem papermilllaw35_ScanProfile.bits12 : waitsOk papermilllaw35_ScanProfile.T12.2 papermilllaw35_ScanProfile.B12 = true := by kernel_rfl
def papermilllaw35_ScanProfile.T20 : Bool × List (List Nat × List Nat) := (true, [([], []), ([], []), ([], []), ([], []), ([3], [3]), ([1, 2, 4], [1, 2, 4]), ([0, 5], [0, 5]), ([6], [6]), ([7], [7]), ([7], [7]), ([8, 6, 0, 1, 2, 3, 4, 5, 6, 7, 8], [8]), ([9, 10, 0, 1, 2, 3, 4, 5, 6, 7, 8, 9, 10], [9])])
def papermilllaw35_ScanProfile.B20 : List Nat := [0, 0, 0, 0, 8, 30, 63, 127, 255, 255, 511, 2047]
theorem papermilllaw35_ScanProfile.tab20 : rtab .any (opsOf Try.f7 20) = papermilllaw35_ScanProfile.T20 := by kernel_rfl
theorem papermilllaw35_ScanProfile.bits20 : waitsOk papermilllaw35_ScanProfile.T20.2 papermilllaw35_ScanProfile.B20 = true := by kernel_rfl
def papermilllaw35_ScanProfile.T21 : Bool × List (List Nat × List Nat) := (true, [([], []), ([], []), ([], []), ([1, 2], [1, 2]), ([3], [3]), ([4], [4]), ([0, 5], [0, 5]), ([6], [6]), ([7], [7]), ([7], [7]), ([8, 6, 0, 1, 2, 3, 4, 5, 6, 7, 8], [8]), ([9, 10, 0, 1, 2, 3, 4, 5, 6, 7, 8, 9, 10], [9])])
def papermilllaw35_ScanProfile.B21 : List Nat := [0, 0, 0, 6, 14, 30, 63, 127, 255, 255, 511, 2047]
theorem papermilllaw35_ScanProfile.tab21 : rtab .any (opsOf Try.f7 21) = papermilllaw35_ScanProfile.T21 := by kernel_rfl
theorem papermilllaw35_ScanProfile.bits21 : waitsOk papermilllaw35_ScanProfile.T21.2 papermilllaw35_ScanProfile.B21 = true := by kernel_rfl
def papermilllaw35_ScanProfile.T24 : Bool × List (List Nat × List Nat) := (true, [([], []), ([], []), ([0, 1], [0, 1]), ([2], [2]), ([], []), ([], []), ([4, 5], [4, 5]), ([6], [6]), ([7], [7]), ([8], [8]), ([3, 9], [3, 9]), ([10], [10]), ([11, 11], [11]), ([11, 12], [11, 12]), ([13, 12, 0, 1, 2, 3, 4, 5, 6, 7, 8, 9, 10, 11, 12, 13], [13])])
def papermilllaw35_ScanProfile.B24 : List Nat := [0, 0, 3, 7, 0, 0, 48, 112, 240, 496, 1023, 2047, 4095, 8191, 16383]
theorem papermilllaw35_ScanProfile.tab24 : rtab .any (opsOf Try.f7 24) = papermilllaw35_ScanProfile.T24 := by kernel_rfl
theorem papermilllaw35_ScanProfile.bits24 : waitsOk papermilllaw35_ScanProfile.T24.2 papermilllaw35_ScanProfile.B24 = true := by kernel_rfl
set_option maxHeartbeats 8000000 in
set_option maxRecDepth 100000 in
theorem papermilllaw35_ScanProfile.calls (k : Nat) (a0_0 : Int) (a0_1 : Int) (a0_2 : Int) (A1 : Option Addr) (c1 : Nat) (l1 : List (S49)) (a2 : Int) (r : Bool) (w : World) (hr1 : Kd.C k49 w A1 l1.length l1) (hc1 : l1.length ≤ c1) (hr_ : Aside0 (r = true)) (h : papermilllaw35_ScanProfile.f k a0_0 a0_1 a0_2 l1 a2 = some r) :
    Calls Try.prog 7 #[.agg #[.int .i64 a0_0, .int .i64 a0_1, .int .i64 a0_2], .slice A1 l1.length c1, .int .i64 a2] w fun e w' => e = .returned (.bool r) ∧ Below w.heap.size w w' := by
  have hu23 := Try.underlying23
  have hu47 := Try.underlying47
  have HR1 := Aside0.mk hr1
  have HC1 := Aside0.mk hc1
  clear hr1 hc1
  have HB := Aside0.mk (Below.refl w.heap.size w)
  have H : (if (l1.length : Int) > 600 then ((papermilllaw35_awake.f k).bind fun t266 => (some t266)) else ((scan_Profile.f a0_0 a0_1 a0_2 l1).bind fun bt267 => (if bt267.2 = 0 then (if (bt267.1.length : Int) = a0_1 then ((papermillref35_Check.f a0_0 a0_1 a0_2).bind fun t272 => (papermilllaw35_ScanProfile.j0 k l1 a2 bt267.1 (t272 != 0) a0_0 a0_1 a0_2)) else (papermilllaw35_ScanProfile.j0 k l1 a2 bt267.1 true a0_0 a0_1 a0_2)) else (if (bt267.1.length : Int) = 0 then ((papermilllaw35_awake.f k).bind fun t271 => (some t271)) else (some false))))) = some r := h
  clear h
  by_cases c4 : (l1.length : Int) > 600
  · rw [if_pos c4] at H
    have c4b0 : decide (600 < (l1.length : Int)) = true := decide_eq_true c4
    have c4b1 : decide (600 < l1.length) = true := decide_eq_true (by omega)
    clear c4
    replace H := Option.bind_eq_some_iff.mp H
    obtain ⟨t266, A50, H⟩ := H
    replace H : (some t266) = some r := H
    have A5 := Aside0.mk A50
    clear A50
    first
      | exact absurd ((Option.some.inj H).trans hr_.out) (by decide)
      | (skip
         obtain rfl := Option.some.inj H
         go_enter Try.func7, Try.ntmps7
         go_wp2_with (first | ((with_reducible refine gate_dst (N := 3) rfl ?_); (try (refine gate_guard (by rfl) ?_; dsimp only)); refine box_event ?hg (N := 3) ?hd (cs := #[.int .i64 a0_0, .int .i64 a0_1, .int .i64 a0_2]) (t := 23) ?hr ?_; (case hd => rfl); (case hg => rfl); (case hr => first | (go_simp; done) | (go_simp; rfl)); intro gb265 hg w6 hbox hb; have n0_ := Aside0.mk (below_step (by repeat (first | (with_reducible first | exact HB.out | apply below_alloc | apply pw_below_drewN | apply below_drew1) | exact HB.out)) hb); have n1_ := Aside0.mk (hbox); have n2_ := Aside0.mk ((by rw [hg]; exact (below_size (by repeat (first | (with_reducible first | exact HB.out | apply below_alloc | apply pw_below_drewN | apply below_drew1) | exact HB.out))) : w.heap.size ≤ gb265)); have n3_ := Aside0.mk ((by rw [hg]; exact (below_size (by repeat (first | (with_reducible first | exact HB.out | apply below_alloc | apply pw_below_drewN | apply below_drew1) | exact HB.out))) : w.heap.size ≤ gb265)); clear HB; have HB := n0_; have BK265 := n1_; have GW265 := n2_; have GE265 := n3_; clear n0_ n1_ n2_ n3_; clear hb hbox hg) | ((with_reducible refine gate_callee (f := 16) rfl ?_); refine goesL_ (some 21) rfl rfl Try.func16 (by kernel_rfl) rfl #[] rfl (by (try simp only [List.map_toArray, List.map_cons, List.map_nil]); first | done | rfl | (simp only [List.length_drop, List.length_take]; rfl)) ?_; (with_reducible refine (papermilllaw35_awake.calls k  t266 _ A5.out).mono ?_); rintro e w7 ⟨rfl, hb⟩; refine ⟨_, rfl, ?_⟩; have n0_ := Aside0.mk (blk_below (g := gb265) (o := .cells #[.int .i64 a0_0, .int .i64 a0_1, .int .i64 a0_2] 23 (0, 0)) (by (with_reducible repeat (first | refine blk_drewN ?_ _ | refine blk_drew ?_ | refine blk_alloc ?_ _)); exact BK265.out) hb); have n1_ := Aside0.mk (below_step (by repeat (first | (with_reducible first | exact HB.out | apply below_alloc | apply pw_below_drewN | apply below_drew1 | refine below_set ?_ GE265.out) | exact HB.out)) hb); clear BK265; clear HB; have BK265 := n0_; have HB := n1_; clear n0_ n1_; (try clear hb); (try clear hb2); (try clear hk); (try clear hi)))
         go_ret
         exact ⟨by first | rfl | (simp [errW_none, errW_some] <;> rfl) | (simp [*, errW_none, errW_some] <;> rfl), by repeat (first | (with_reducible first | exact HB.out | apply below_alloc | apply pw_below_drewN | apply below_drew1 | refine below_set ?_ GE265.out) | exact HB.out)⟩)
  · rw [if_neg c4] at H
    have c4b0 : decide (600 < (l1.length : Int)) = false := decide_eq_false c4
    have c4b1 : decide (600 < l1.length) = false := decide_eq_false (by omega)
    clear c4
    replace H := Option.bind_eq_some_iff.mp H
    obtain ⟨⟨t267, t270⟩, A80, H⟩ := H
    replace H : (if t270 = 0 then (if (t267.length : Int) = a0_1 then ((papermillref35_Check.f a0_0 a0_1 a0_2).bind fun t272 => (papermilllaw35_ScanProfile.j0 k l1 a2 t267 (t272 != 0) a0_0 a0_1 a0_2)) else (papermilllaw35_ScanProfile.j0 k l1 a2 t267 true a0_0 a0_1 a0_2)) else (if (t267.length : Int) = 0 then ((papermilllaw35_awake.f k).bind fun t271 => (some t271)) else (some false))) = some r := H
    have A8 := Aside0.mk A80
    clear A80
    by_cases c9 : t270 = 0
    · rw [if_pos c9] at H
      have c9b0 : (t270 == 0) = true := beq_iff_eq.mpr c9
      have c9b1 : (t270 != 0) = false := bne_eq_false_iff_eq.mpr c9
      clear c9
      have HC10 := Aside0.mk H
      clear H
      go_enter Try.func7, Try.ntmps7
      go_upto_region 6 with (first | ((with_reducible refine gate_dst (N := 3) rfl ?_); (try (refine gate_guard (by rfl) ?_; dsimp only)); refine box_event ?hg (N := 3) ?hd (cs := #[.int .i64 a0_0, .int .i64 a0_1, .int .i64 a0_2]) (t := 23) ?hr ?_; (case hd => rfl); (case hg => rfl); (case hr => first | (go_simp; done) | (go_simp; rfl)); intro gb265 hg w11 hbox hb; have n0_ := Aside0.mk (below_step (by repeat (first | (with_reducible first | exact HB.out | apply below_alloc | apply pw_below_drewN | apply below_drew1) | exact HB.out)) hb); have n1_ := Aside0.mk (hbox); have n2_ := Aside0.mk ((by rw [hg]; exact (below_size (by repeat (first | (with_reducible first | exact HB.out | apply below_alloc | apply pw_below_drewN | apply below_drew1) | exact HB.out))) : w.heap.size ≤ gb265)); have n3_ := Aside0.mk ((by rw [hg]; exact (below_size (by repeat (first | (with_reducible first | exact HB.out | apply below_alloc | apply pw_below_drewN | apply below_drew1) | exact HB.out))) : w.heap.size ≤ gb265)); clear HB; have HB := n0_; have BK265 := n1_; have GW265 := n2_; have GE265 := n3_; clear n0_ n1_ n2_ n3_; clear hb hbox hg; have hcz12_0 : w11.cell? ⟨gb265, 0, none⟩ = some (.int .i64 a0_0) := (blk_cell BK265.out 0).trans rfl; have hcz12_1 : w11.cell? ⟨gb265, 1, none⟩ = some (.int .i64 a0_1) := (blk_cell BK265.out 1).trans rfl; have hcz12_2 : w11.cell? ⟨gb265, 2, none⟩ = some (.int .i64 a0_2) := (blk_cell BK265.out 2).trans rfl; have hfz12_0 := blk_frozen BK265.out 0; have hfz12_1 := blk_frozen BK265.out 1; have hfz12_2 := blk_frozen BK265.out 2) | ((with_reducible refine gate_callee (f := 20) rfl ?_); refine goesL_ (some 25) rfl rfl Try.func20 (by kernel_rfl) rfl #[.agg #[.int .i64 a0_0, .int .i64 a0_1, .int .i64 a0_2], .slice A1 l1.length c1] rfl (by (try simp only [List.map_toArray, List.map_cons, List.map_nil]); first | done | rfl | (simp only [List.length_drop, List.length_take]; rfl)) ?_; (with_reducible refine (scan_Profile.calls a0_0 a0_1 a0_2 _ _ l1 t267 t270 _ ?side1 ?side2 A8.out).mono ?_); (case side1 => repeat (first | exact (Kd.C_below HR1.out HB.out) | (with_reducible refine Kd.C_alloc ?_ _) | (with_reducible refine Kd.C_drewN ?_ _) | (with_reducible refine Kd.C_drew ?_))); (case side2 => exact HC1.out); rintro e w13 ⟨v268, rfl, ho0, hb⟩; refine ⟨_, rfl, ?_⟩; have n0_ := Aside0.mk (Kd.R_lower ho0 (below_size (by repeat (first | (with_reducible first | exact HB.out | apply below_alloc | apply pw_below_drewN | apply below_drew1 | refine below_set ?_ GE265.out) | exact HB.out)))); have n1_ := Aside0.mk (blk_below (g := gb265) (o := .cells #[.int .i64 a0_0, .int .i64 a0_1, .int .i64 a0_2] 23 (0, 0)) (by (with_reducible repeat (first | refine blk_drewN ?_ _ | refine blk_drew ?_ | refine blk_alloc ?_ _)); exact BK265.out) hb); have n2_ := Aside0.mk (below_step (by repeat (first | (with_reducible first | exact HB.out | apply below_alloc | apply pw_below_drewN | apply below_drew1 | refine below_set ?_ GE265.out) | exact HB.out)) hb); clear BK265; clear HB; have HO269 := n0_; have BK265 := n1_; have HB := n2_; clear n0_ n1_ n2_; (try clear hb); (try clear hb2); (try clear hk); (try clear hi); (try clear ho0)))
      (try simp only [Act.put, List.setIfInBounds_toArray, List.set_cons_zero, List.set_cons_succ])
      go_cut [45] (fun v45 wc => ∃ (kq : Nat) (x45_9 : Bool), v45 = .bool x45_9 ∧ Aside0 (papermilllaw35_ScanProfile.j0 kq l1 a2 t267 x45_9 a0_0 a0_1 a0_2 = some r) ∧ Aside0 (kq ≤ k) ∧ Aside0 (Kd.R k47 47 wc w.heap.size (fun _ => True) v268 t267) ∧ Aside0 (wc.heap[gb265]? = some (.cells #[.int .i64 a0_0, .int .i64 a0_1, .int .i64 a0_2] 23 (0, 0))) ∧ Aside0 (Below w.heap.size w wc))
      case first =>
        have H := HC10.out
        clear HC10
        by_cases c14 : (t267.length : Int) = a0_1
        · rw [if_pos c14] at H
          have c14b0 : ((t267.length : Int) == a0_1) = true := beq_iff_eq.mpr c14
          have c14b1 : ((t267.length : Int) != a0_1) = false := bne_eq_false_iff_eq.mpr c14
          clear c14
          (first | rw [c14b0] | (simp only [i64_w, i32_w]; rw [c14b0]) | skip)
          replace H := Option.bind_eq_some_iff.mp H
          obtain ⟨t272, A150, H⟩ := H
          replace H : (papermilllaw35_ScanProfile.j0 k l1 a2 t267 (t272 != 0) a0_0 a0_1 a0_2) = some r := H
          have A15 := Aside0.mk A150
          clear A150
          have H' := Aside0.mk H
          clear H
          obtain ⟨Ao16, co16, eo16⟩ := Kd.R_slice HO269.out
          subst eo16
          have hcz17_0 : w13.cell? ⟨gb265, 0, none⟩ = some (.int .i64 a0_0) := (blk_cell BK265.out 0).trans rfl
          have hcz17_1 : w13.cell? ⟨gb265, 1, none⟩ = some (.int .i64 a0_1) := (blk_cell BK265.out 1).trans rfl
          have hcz17_2 : w13.cell? ⟨gb265, 2, none⟩ = some (.int .i64 a0_2) := (blk_cell BK265.out 2).trans rfl
          have hfz17_0 := blk_frozen BK265.out 0
          have hfz17_1 := blk_frozen BK265.out 1
          have hfz17_2 := blk_frozen BK265.out 2
          go_wp2_with (first | (go_at_call 15; (with_reducible refine (papermillref35_Check.calls a0_0 a0_1 a0_2 t272 _ A15.out).mono ?_); rintro e w18 ⟨rfl, hb⟩; have n0_ := Aside0.mk (Kd.R_below (by (with_reducible repeat (first | apply Kd.R_alloc | apply Kd.R_drewN | apply Kd.R_drew)); exact HO269.out) hb); have n1_ := Aside0.mk (blk_below (g := gb265) (o := .cells #[.int .i64 a0_0, .int .i64 a0_1, .int .i64 a0_2] 23 (0, 0)) (by (with_reducible repeat (first | refine blk_drewN ?_ _ | refine blk_drew ?_ | refine blk_alloc ?_ _)); exact BK265.out) hb); have n2_ := Aside0.mk (below_step (by repeat (first | (with_reducible first | exact HB.out | apply below_alloc | apply pw_below_drewN | apply below_drew1 | refine below_set ?_ GE265.out) | exact HB.out)) hb); clear HO269; clear BK265; clear HB; have HO269 := n0_; have BK265 := n1_; have HB := n2_; clear n0_ n1_ n2_; (try clear hb); (try clear hb2); (try clear hk); (try clear hi)))
          go_meet
          case rel => exact ⟨_, ((t272 != 0)), (by first | rfl | (simp; done) | (simp [*]; done)), H', ⟨by first | omega | exact Nat.le_refl _⟩, ⟨by (with_reducible repeat (first | apply Kd.R_alloc | apply Kd.R_drewN | apply Kd.R_drew)); exact HO269.out⟩, ⟨by (with_reducible repeat (first | refine blk_drewN ?_ _ | refine blk_drew ?_ | refine blk_alloc ?_ _)); exact BK265.out⟩, ⟨by repeat (first | (with_reducible first | exact HB.out | apply below_alloc | apply pw_below_drewN | apply below_drew1 | refine below_set ?_ GE265.out) | exact HB.out)⟩⟩
        · rw [if_neg c14] at H
          have c14b0 : ((t267.length : Int) == a0_1) = false := beq_eq_false_iff_ne.mpr c14
          have c14b1 : ((t267.length : Int) != a0_1) = true := bne_iff_ne.mpr c14
          (first | rw [c14b0] | (simp only [i64_w, i32_w]; rw [c14b0]) | skip)
          have H' := Aside0.mk H
          clear H
          obtain ⟨Ao19, co19, eo19⟩ := Kd.R_slice HO269.out
          subst eo19
          have hcz20_0 : w13.cell? ⟨gb265, 0, none⟩ = some (.int .i64 a0_0) := (blk_cell BK265.out 0).trans rfl
          have hcz20_1 : w13.cell? ⟨gb265, 1, none⟩ = some (.int .i64 a0_1) := (blk_cell BK265.out 1).trans rfl
          have hcz20_2 : w13.cell? ⟨gb265, 2, none⟩ = some (.int .i64 a0_2) := (blk_cell BK265.out 2).trans rfl
          have hfz20_0 := blk_frozen BK265.out 0
          have hfz20_1 := blk_frozen BK265.out 1
          have hfz20_2 := blk_frozen BK265.out 2
          go_wp2
          go_meet
          case rel => exact ⟨_, (true), (by first | rfl | (simp; done) | (simp [*]; done)), H', ⟨by first | omega | exact Nat.le_refl _⟩, ⟨by (with_reducible repeat (first | apply Kd.R_alloc | apply Kd.R_drewN | apply Kd.R_drew)); exact HO269.out⟩, ⟨by (with_reducible repeat (first | refine blk_drewN ?_ _ | refine blk_drew ?_ | refine blk_alloc ?_ _)); exact BK265.out⟩, ⟨by repeat (first | (with_reducible first | exact HB.out | apply below_alloc | apply pw_below_drewN | apply below_drew1 | refine below_set ?_ GE265.out) | exact HB.out)⟩⟩
      case rest =>
        clear HC10
        try clear c1
        try clear c2
        try clear p2
        try clear c4
        try clear c4b0
        try clear c4b1
        try clear c7
        try clear c9
        try clear c9b0
        try clear c9b1
        try clear c14
        try clear c14b0
        try clear c14b1
        try clear c16
        try clear c20
        try clear hcz12_0
        try clear hcz12_1
        try clear hcz12_2
        try clear hcz17_0
        try clear hcz17_1
        try clear hcz17_2
        try clear hcz20_0
        try clear hcz20_1
        try clear hcz20_2
        try clear hfz12_0
        try clear hfz12_1
        try clear hfz12_2
        try clear hfz17_0
        try clear hfz17_1
        try clear hfz17_2
        try clear hfz20_0
        try clear hfz20_1
        try clear hfz20_2
        obtain ⟨kq, x45_9, rfl, HA, HJ9, HO_7, BK265, HB⟩ := hcut
        cases kq with
        | zero => exact absurd HA.out (by simp [papermilllaw35_ScanProfile.j0])
        | succ kj9 =>
          have H := HA.out
          clear HA
          simp only [papermilllaw35_ScanProfile.j0] at H
          by_cases c21 : x45_9 = true
          · subst c21
            have H1 : (some false) = some r := by rw [if_pos rfl] at H; exact H
            clear H
            have H := H1
            clear H1
            exact absurd ((Option.some.inj H).trans hr_.out) (by decide)
          · replace c21 := Bool.eq_false_iff.mpr c21
            subst c21
            have H1 : (papermilllaw35_ScanProfile.l0 kj9 l1 a2 t267 0 0 0 a0_0 a0_1 a0_2) = some r := by rw [if_neg (show ¬ (false = true) by decide)] at H; exact H
            clear H
            have H := H1
            clear H1
            have H' := Aside0.mk H
            clear H
            go_wp2
            go_loopg [9, 10, 11] kj9 (fun kq v9 v10 v11 w' => ∃ (x9_2 : Int) (x10_2 : Int) (x11_2 : Int), v9 = .int .i64 x9_2 ∧ v10 = .int .i64 x10_2 ∧ v11 = .int .i64 x11_2 ∧ Aside0 (papermilllaw35_ScanProfile.l0 kq l1 a2 t267 x9_2 x10_2 x11_2 a0_0 a0_1 a0_2 = some r) ∧ Aside0 (kq ≤ kj9) ∧ Aside0 (Kd.R k47 47 w' w.heap.size (fun _ => True) v268 t267) ∧ Aside0 (w'.heap[gb265]? = some (.cells #[.int .i64 a0_0, .int .i64 a0_1, .int .i64 a0_2] 23 (0, 0))) ∧ Aside0 (Below w.heap.size w w'))
            case atStart => exact ⟨(0), (0), (0), (by first | rfl | (simp; done) | (simp [*]; done)), (by first | rfl | (simp; done) | (simp [*]; done)), (by first | rfl | (simp; done) | (simp [*]; done)), H', ⟨Nat.le_refl _⟩, ⟨by (with_reducible repeat (first | apply Kd.R_alloc | apply Kd.R_drewN | apply Kd.R_drew)); exact HO_7.out⟩, ⟨by (with_reducible repeat (first | refine blk_drewN ?_ _ | refine blk_drew ?_ | refine blk_alloc ?_ _)); exact BK265.out⟩, ⟨by repeat (first | (with_reducible first | exact HB.out | apply below_alloc | apply pw_below_drewN | apply below_drew1 | refine below_set ?_ GE265.out) | exact HB.out)⟩⟩
            case round =>
              clear H'
              try clear c1
              try clear c2
              try clear p2
              try clear c4
              try clear c4b0
              try clear c4b1
              try clear c7
              try clear c9
              try clear c9b0
              try clear c9b1
              try clear c14
              try clear c14b0
              try clear c14b1
              try clear c16
              try clear c20
              try clear c21
              try clear hcz12_0
              try clear hcz12_1
              try clear hcz12_2
              try clear hcz17_0
              try clear hcz17_1
              try clear hcz17_2
              try clear hcz20_0
              try clear hcz20_1
              try clear hcz20_2
              try clear hfz12_0
              try clear hfz12_1
              try clear hfz12_2
              try clear hfz17_0
              try clear hfz17_1
              try clear hfz17_2
              try clear hfz20_0
              try clear hfz20_1
              try clear hfz20_2
              try clear p2
              obtain ⟨x9_2, x10_2, x11_2, rfl, rfl, rfl, HA, HK2, HO_7, BK265, HB⟩ := hrel
              cases gk with
              | zero => exact absurd HA.out (by simp [papermilllaw35_ScanProfile.l0])
              | succ k2 =>
                have H := HA.out
                clear HA
                simp only [papermilllaw35_ScanProfile.l0] at H
                by_cases c22 : x11_2 < (t267.length : Int)
                · rw [if_pos c22] at H
                  have c22b0 : decide (x11_2 < (t267.length : Int)) = true := decide_eq_true c22
                  clear c22
                  by_cases c23 : 0 ≤ x11_2
                  · rw [if_pos c23] at H
                    have c23b0 : decide (0 ≤ x11_2) = true := decide_eq_true c23
                    clear c23
                    have H' := Aside0.mk H
                    clear H
                    obtain ⟨Ao24, co24, eo24⟩ := Kd.R_slice HO_7.out
                    subst eo24
                    try go_wp2
                    have n0_ := Aside0.mk (Kd.R_drew HO_7.out)
                    have n1_ := Aside0.mk (blk_drew BK265.out)
                    have n2_ := Aside0.mk (below_drew1 HB.out)
                    clear HO_7
                    clear BK265
                    clear HB
                    have HO_7 := n0_
                    have BK265 := n1_
                    have HB := n2_
                    clear n0_ n1_ n2_
                    have p273 : 0 ≤ (x11_2 : Int) := of_decide_eq_true (by first | (with_reducible assumption) | assumption)
                    have q273 : x11_2 < (t267.length : Int) := of_decide_eq_true (by first | (with_reducible assumption) | assumption)
                    obtain ⟨ad273, e273, hx273_0, hx273_1⟩ := at_T47 (Kd.R_reads' HO_7.out).2.2 x11_2 p273 q273
                    cases e273
                    replace p273 := eq_true p273
                    replace q273 := eq_true q273
                    have p274 : 0 ≤ (x11_2 : Int) := of_decide_eq_true (by first | (with_reducible assumption) | assumption)
                    have q274 : x11_2 < (t267.length : Int) := of_decide_eq_true (by first | (with_reducible assumption) | assumption)
                    obtain ⟨ad274, e274, hx274_0, hx274_1⟩ := at_T47 (Kd.R_reads' HO_7.out).2.2 x11_2 p274 q274
                    obtain rfl : ad273 = ad274 := (by injection e274)
                    replace p274 := eq_true p274
                    replace q274 := eq_true q274
                    refine start_ (n := 16) (S := fun w' => w'.cell? (ad273.add ((x11_2).toNat * 2)) = some (.int .i64 ((rd_T47 t267 x11_2).f0)) ∧ w'.cell? ⟨(ad273.add ((x11_2).toNat * 2)).block, (ad273.add ((x11_2).toNat * 2)).off + 1, none⟩ = some (.int .i64 ((rd_T47 t267 x11_2).f1)) ∧ w'.cell? (ad273.add ((x11_2).toNat * 2)) = some (.int .i64 ((rd_T47 t267 x11_2).f0)) ∧ w'.cell? ⟨(ad273.add ((x11_2).toNat * 2)).block, (ad273.add ((x11_2).toNat * 2)).off + 1, none⟩ = some (.int .i64 ((rd_T47 t267 x11_2).f1))) (ds := []) #[false, false, false, false, false, false, false, false, false, false, false, false, false, false, false, false] (by kernel_rfl) rfl rfl ⟨hx273_0, hx273_1, hx274_0, hx274_1⟩ (fun hHeld => ?_); refine with_tabW papermilllaw35_ScanProfile.tab12 papermilllaw35_ScanProfile.bits12 (fun HT_ HW_ => ?_)
                    generalize wr.drew = w25 at HO_7 BK265 HB hx273_0 hx273_1 hx274_0 hx274_1 hHeld ⊢
                    refine pure_ (i := 0) (N := some 52) (v := ?_) (a' := ?_) #[true, false, false, false, false, false, false, false, false, false, false, false, false, false, false, false] rfl rfl (any_of HT_.out (by kernel_rfl)) (fun _ _ _ h => h) (Or.inl ⟨by rfl, ?_⟩) ?_ ?_
                    rotate_left
                    · intro w'
                      go_simp
                      with_reducible rfl
                    rotate_left
                    · simp only [Act.put, List.setIfInBounds_toArray, List.set_cons_zero, List.set_cons_succ, i64_w, i32_w]
                      rfl
                    refine pure_ (i := 1) (N := some 53) (v := ?_) (a' := ?_) #[true, true, false, false, false, false, false, false, false, false, false, false, false, false, false, false] rfl rfl (any_of HT_.out (by kernel_rfl)) (fun _ _ _ h => h) (Or.inl ⟨by rfl, ?_⟩) ?_ ?_
                    rotate_left
                    · intro w'
                      go_simp
                      with_reducible rfl
                    rotate_left
                    · simp only [Act.put, List.setIfInBounds_toArray, List.set_cons_zero, List.set_cons_succ, i64_w, i32_w]
                      rfl
                    refine pure_ (i := 2) (N := some 54) (v := ?_) (a' := ?_) #[true, true, true, false, false, false, false, false, false, false, false, false, false, false, false, false] rfl rfl (any_of HT_.out (by kernel_rfl)) (fun _ _ _ h => h) (Or.inl ⟨by rfl, ?_⟩) ?_ ?_
                    rotate_left
                    · intro w'
                      go_simp
                      with_reducible rfl
                    rotate_left
                    · simp only [Act.put, List.setIfInBounds_toArray, List.set_cons_zero, List.set_cons_succ, i64_w, i32_w]
                      rfl
                    refine pure_ (i := 3) (N := some 55) (v := ?_) (a' := ?_) #[true, true, true, true, false, false, false, false, false, false, false, false, false, false, false, false] rfl rfl (any_of HT_.out (by kernel_rfl)) (fun _ _ _ h => h) (Or.inl ⟨by rfl, ?_⟩) ?_ ?_
                    rotate_left
                    · intro w'
                      go_simp
                      with_reducible rfl
                    rotate_left
                    · simp only [Act.put, List.setIfInBounds_toArray, List.set_cons_zero, List.set_cons_succ, i64_w, i32_w]
                      rfl
                    refine pure_ (i := 4) (N := some 56) (v := ?_) (a' := ?_) #[true, true, true, true, true, false, false, false, false, false, false, false, false, false, false, false] rfl rfl (any_of HT_.out (by kernel_rfl)) (fun _ _ _ h => h) (Or.inl ⟨by rfl, ?_⟩) ?_ ?_
                    rotate_left
                    · intro w'
                      go_simp
                      with_reducible rfl
                    rotate_left
                    · simp only [Act.put, List.setIfInBounds_toArray, List.set_cons_zero, List.set_cons_succ, i64_w, i32_w]
                      rfl
                    refine pure_ (i := 7) (N := some 59) (v := ?_) (a' := ?_) #[true, true, true, true, true, false, false, true, false, false, false, false, false, false, false, false] rfl rfl (any_of HT_.out (by kernel_rfl)) (fun _ _ _ h => h) (Or.inl ⟨by rfl, ?_⟩) ?_ ?_
                    rotate_left
                    · intro w'
                      go_simp
                      with_reducible rfl
                    rotate_left
                    · simp only [Act.put, List.setIfInBounds_toArray, List.set_cons_zero, List.set_cons_succ, i64_w, i32_w]
                      rfl
                    refine pure_ (i := 8) (N := some 60) (v := ?_) (a' := ?_) #[true, true, true, true, true, false, false, true, true, false, false, false, false, false, false, false] rfl rfl (any_of HT_.out (by kernel_rfl)) (fun _ _ _ h => h) (Or.inl ⟨by rfl, ?_⟩) ?_ ?_
                    rotate_left
                    · intro w'
                      go_simp
                      with_reducible rfl
                    rotate_left
                    · simp only [Act.put, List.setIfInBounds_toArray, List.set_cons_zero, List.set_cons_succ, i64_w, i32_w]
                      rfl
                    refine pure_ (i := 9) (N := some 61) (v := ?_) (a' := ?_) #[true, true, true, true, true, false, false, true, true, true, false, false, false, false, false, false] rfl rfl (any_of HT_.out (by kernel_rfl)) (fun _ _ _ h => h) (Or.inl ⟨by rfl, ?_⟩) ?_ ?_
                    rotate_left
                    · intro w'
                      go_simp
                      with_reducible rfl
                    rotate_left
                    · simp only [Act.put, List.setIfInBounds_toArray, List.set_cons_zero, List.set_cons_succ, i64_w, i32_w]
                      rfl
                    refine pure_ (i := 10) (N := some 62) (v := ?_) (a' := ?_) #[true, true, true, true, true, false, false, true, true, true, true, false, false, false, false, false] rfl rfl (any_of HT_.out (by kernel_rfl)) (fun _ _ _ h => h) (Or.inl ⟨by rfl, ?_⟩) ?_ ?_
                    rotate_left
                    · intro w'
                      go_simp
                      with_reducible rfl
                    rotate_left
                    · simp only [Act.put, List.setIfInBounds_toArray, List.set_cons_zero, List.set_cons_succ, i64_w, i32_w]
                      rfl
                    refine pure_ (i := 11) (N := some 63) (v := ?_) (a' := ?_) #[true, true, true, true, true, false, false, true, true, true, true, true, false, false, false, false] rfl rfl (any_of HT_.out (by kernel_rfl)) (fun _ _ _ h => h) (Or.inl ⟨by rfl, ?_⟩) ?_ ?_
                    rotate_left
                    · intro w'
                      go_simp
                      with_reducible rfl
                    rotate_left
                    · simp only [Act.put, List.setIfInBounds_toArray, List.set_cons_zero, List.set_cons_succ, i64_w, i32_w]
                      rfl
                    refine take_ (i := 5) (N := some 57) (v := ?_) (a' := ?_) #[true, true, true, true, true, true, false, true, true, true, true, true, false, false, false, false] rfl rfl (take_ofW HT_.out HW_.out (by kernel_rfl)) (fun _ _ _ h => h) (Or.inl ⟨by rfl, ?_⟩) hHeld ?_ ?_
                    rotate_left
                    · rintro w' ⟨s0, s1, s2, s3⟩
                      go_simp
                      with_reducible rfl
                    rotate_left
                    · simp only [Act.put, List.setIfInBounds_toArray, List.set_cons_zero, List.set_cons_succ, i64_w, i32_w]
                      rfl
                    refine pure_ (i := 6) (N := some 58) (v := ?_) (a' := ?_) #[true, true, true, true, true, true, true, true, true, true, true, true, false, false, false, false] rfl rfl (any_of HT_.out (by kernel_rfl)) (fun _ _ _ h => h) (Or.inl ⟨by rfl, ?_⟩) ?_ ?_
                    rotate_left
                    · intro w'
                      go_simp
                      with_reducible rfl
                    rotate_left
                    · simp only [Act.put, List.setIfInBounds_toArray, List.set_cons_zero, List.set_cons_succ, i64_w, i32_w]
                      rfl
                    refine pure_ (i := 14) (N := some 9) (v := ?_) (a' := ?_) #[true, true, true, true, true, true, true, true, true, true, true, true, false, false, true, false] rfl rfl (any_of HT_.out (by kernel_rfl)) (fun _ _ _ h => h) (Or.inl ⟨by rfl, ?_⟩) ?_ ?_
                    rotate_left
                    · intro w'
                      go_simp
                      with_reducible rfl
                    rotate_left
                    · simp only [Act.put, List.setIfInBounds_toArray, List.set_cons_zero, List.set_cons_succ, i64_w, i32_w]
                      rfl
                    refine take_ (i := 12) (N := some 64) (v := ?_) (a' := ?_) #[true, true, true, true, true, true, true, true, true, true, true, true, true, false, true, false] rfl rfl (take_ofW HT_.out HW_.out (by kernel_rfl)) (fun _ _ _ h => h) (Or.inl ⟨by rfl, ?_⟩) hHeld ?_ ?_
                    rotate_left
                    · rintro w' ⟨s0, s1, s2, s3⟩
                      go_simp
                      with_reducible rfl
                    rotate_left
                    · simp only [Act.put, List.setIfInBounds_toArray, List.set_cons_zero, List.set_cons_succ, i64_w, i32_w]
                      rfl
                    refine pure_ (i := 13) (N := some 65) (v := ?_) (a' := ?_) #[true, true, true, true, true, true, true, true, true, true, true, true, true, true, true, false] rfl rfl (any_of HT_.out (by kernel_rfl)) (fun _ _ _ h => h) (Or.inl ⟨by rfl, ?_⟩) ?_ ?_
                    rotate_left
                    · intro w'
                      go_simp
                      with_reducible rfl
                    rotate_left
                    · simp only [Act.put, List.setIfInBounds_toArray, List.set_cons_zero, List.set_cons_succ, i64_w, i32_w]
                      rfl
                    refine pure_ (i := 15) (N := some 10) (v := ?_) (a' := ?_) #[true, true, true, true, true, true, true, true, true, true, true, true, true, true, true, true] rfl rfl (any_of HT_.out (by kernel_rfl)) (fun _ _ _ h => h) (Or.inl ⟨by rfl, ?_⟩) ?_ ?_
                    rotate_left
                    · intro w'
                      go_simp
                      with_reducible rfl
                    rotate_left
                    · simp only [Act.put, List.setIfInBounds_toArray, List.set_cons_zero, List.set_cons_succ, i64_w, i32_w]
                      rfl
                    refine done_ (done_of HT_.out (by kernel_rfl)) ?_
                    try go_wp2
                    go_roundg k2
                    case measure => have := HJ9.out; have := HK2.out; omega
                    case rel => exact ⟨(wrap64 (x9_2 + ((rd_T47 t267 x11_2).f0))), (wrap64 (x10_2 + ((rd_T47 t267 x11_2).f1))), (wrap64 (x11_2 + 1)), (by first | rfl | (simp; done) | (simp [*]; done)), (by first | rfl | (simp; done) | (simp [*]; done)), (by first | rfl | (simp; done) | (simp [*]; done)), H', ⟨by have := HJ9.out; have := HK2.out; omega⟩, ⟨by (with_reducible repeat (first | apply Kd.R_alloc | apply Kd.R_drewN | apply Kd.R_drew)); exact HO_7.out⟩, ⟨by (with_reducible repeat (first | refine blk_drewN ?_ _ | refine blk_drew ?_ | refine blk_alloc ?_ _)); exact BK265.out⟩, ⟨by repeat (first | (with_reducible first | exact HB.out | apply below_alloc | apply pw_below_drewN | apply below_drew1 | refine below_set ?_ GE265.out) | exact HB.out)⟩⟩
                  · rw [if_neg c23] at H
                    exact absurd H (by simp)
                · rw [if_neg c22] at H
                  have c22b0 : decide (x11_2 < (t267.length : Int)) = false := decide_eq_false c22
                  clear c22
                  have H' := Aside0.mk H
                  clear H
                  obtain ⟨Ao26, co26, eo26⟩ := Kd.R_slice HO_7.out
                  subst eo26
                  go_wp2
                  go_loopg [10, 12] k2 (fun kq v10 v12 w' => ∃ (x10_3 : Int) (x12_3 : Int), v10 = .int .i64 x10_3 ∧ v12 = .int .i64 x12_3 ∧ Aside0 (papermilllaw35_ScanProfile.l1 kq l1 a2 x9_2 x10_3 x12_3 a0_0 a0_1 a0_2 = some r) ∧ Aside0 (kq ≤ k2) ∧ Aside0 (w'.heap[gb265]? = some (.cells #[.int .i64 a0_0, .int .i64 a0_1, .int .i64 a0_2] 23 (0, 0))) ∧ Aside0 (Below w.heap.size w w'))
                  case atStart => exact ⟨(x10_2), (0), (by first | rfl | (simp; done) | (simp [*]; done)), (by first | rfl | (simp; done) | (simp [*]; done)), H', ⟨Nat.le_refl _⟩, ⟨by (with_reducible repeat (first | refine blk_drewN ?_ _ | refine blk_drew ?_ | refine blk_alloc ?_ _)); exact BK265.out⟩, ⟨by repeat (first | (with_reducible first | exact HB.out | apply below_alloc | apply pw_below_drewN | apply below_drew1 | refine below_set ?_ GE265.out) | exact HB.out)⟩⟩
                  case round =>
                    clear H'
                    try clear c1
                    try clear c2
                    try clear p2
                    try clear q2
                    try clear hx2
                    try clear c4
                    try clear c4b0
                    try clear c4b1
                    try clear p6
                    try clear c7
                    try clear c9
                    try clear c9b0
                    try clear c9b1
                    try clear c14
                    try clear c14b0
                    try clear c14b1
                    try clear c16
                    try clear c20
                    try clear c21
                    try clear c22
                    try clear c22b0
                    try clear c23
                    try clear c23b0
                    try clear hcz12_0
                    try clear hcz12_1
                    try clear hcz12_2
                    try clear hcz17_0
                    try clear hcz17_1
                    try clear hcz17_2
                    try clear hcz20_0
                    try clear hcz20_1
                    try clear hcz20_2
                    try clear hfz12_0
                    try clear hfz12_1
                    try clear hfz12_2
                    try clear hfz17_0
                    try clear hfz17_1
                    try clear hfz17_2
                    try clear hfz20_0
                    try clear hfz20_1
                    try clear hfz20_2
                    try clear hx273_0
                    try clear hx273_1
                    try clear hx274_0
                    try clear hx274_1
                    try clear p2
                    try clear p273
                    try clear p274
                    try clear q273
                    try clear q274
                    obtain ⟨x10_3, x12_3, rfl, rfl, HA, HK3, BK265, HB⟩ := hrel
                    cases gk with
                    | zero => exact absurd HA.out (by simp [papermilllaw35_ScanProfile.l1])
                    | succ k3 =>
                      have H := HA.out
                      clear HA
                      simp only [papermilllaw35_ScanProfile.l1] at H
                      by_cases c27 : x12_3 < (l1.length : Int)
                      · rw [if_pos c27] at H
                        have c27b0 : decide (x12_3 < (l1.length : Int)) = true := decide_eq_true c27
                        clear c27
                        by_cases c28 : 0 ≤ x12_3
                        · rw [if_pos c28] at H
                          have c28b0 : decide (0 ≤ x12_3) = true := decide_eq_true c28
                          clear c28
                          have H' := Aside0.mk H
                          clear H
                          have p275 : 0 ≤ (x12_3 : Int) := of_decide_eq_true (by first | (with_reducible assumption) | assumption)
                          have q275 : x12_3 < (l1.length : Int) := of_decide_eq_true (by first | (with_reducible assumption) | assumption)
                          obtain ⟨ad275, e275, hx275_0, hx275_1⟩ := at_T49 HR1.out x12_3 p275 q275
                          cases e275
                          replace hx275_0 := (HB.out.cell (World.block_lt_of_cell? w _ hx275_0)).trans hx275_0
                          replace hx275_1 := (HB.out.cell (World.block_lt_of_cell? w _ hx275_1)).trans hx275_1
                          replace p275 := eq_true p275
                          replace q275 := eq_true q275
                          go_wp2
                          go_roundg k3
                          case measure => have := HJ9.out; have := HK2.out; have := HK3.out; omega
                          case rel => exact ⟨(wrap64 (x10_3 - ((rd_T49 l1 x12_3).f1))), (wrap64 (x12_3 + 1)), (by first | rfl | (simp; done) | (simp [*]; done)), (by first | rfl | (simp; done) | (simp [*]; done)), H', ⟨by have := HJ9.out; have := HK2.out; have := HK3.out; omega⟩, ⟨by (with_reducible repeat (first | refine blk_drewN ?_ _ | refine blk_drew ?_ | refine blk_alloc ?_ _)); exact BK265.out⟩, ⟨by repeat (first | (with_reducible first | exact HB.out | apply below_alloc | apply pw_below_drewN | apply below_drew1 | refine below_set ?_ GE265.out) | exact HB.out)⟩⟩
                        · rw [if_neg c28] at H
                          exact absurd H (by simp)
                      · rw [if_neg c27] at H
                        have c27b0 : decide (x12_3 < (l1.length : Int)) = false := decide_eq_false c27
                        clear c27
                        have HC29 := Aside0.mk H
                        clear H
                        go_upto_region 17 with (fail)
                        go_cut [91] (fun v91 wc => ∃ (kq : Nat) (x91_28 : Bool), v91 = .bool x91_28 ∧ Aside0 (papermilllaw35_ScanProfile.j3 kq l1 a2 x9_2 x10_3 x91_28 a0_0 a0_1 a0_2 = some r) ∧ Aside0 (kq ≤ k3) ∧ Aside0 (wc.heap[gb265]? = some (.cells #[.int .i64 a0_0, .int .i64 a0_1, .int .i64 a0_2] 23 (0, 0))) ∧ Aside0 (Below w.heap.size w wc))
                        case first =>
                          have H := HC29.out
                          clear HC29
                          by_cases c30 : x9_2 = (l1.length : Int)
                          · rw [if_pos c30] at H
                            have c30b0 : (x9_2 == (l1.length : Int)) = true := beq_iff_eq.mpr c30
                            have c30b1 : (x9_2 != (l1.length : Int)) = false := bne_eq_false_iff_eq.mpr c30
                            clear c30
                            (first | rw [c30b0] | (simp only [i64_w, i32_w]; rw [c30b0]) | skip)
                            by_cases c31 : x10_3 = 0
                            · rw [if_pos c31] at H
                              have c31b0 : (x10_3 == 0) = true := beq_iff_eq.mpr c31
                              have c31b1 : (x10_3 != 0) = false := bne_eq_false_iff_eq.mpr c31
                              clear c31
                              have H' := Aside0.mk H
                              clear H
                              go_wp2
                              go_meet
                              case rel => exact ⟨_, (((l1.length : Int) == 0)), (by first | rfl | (simp; done) | (simp [*]; done)), H', ⟨by have := HJ9.out; have := HK2.out; have := HK3.out; first | omega | exact Nat.le_refl _⟩, ⟨by (with_reducible repeat (first | refine blk_drewN ?_ _ | refine blk_drew ?_ | refine blk_alloc ?_ _)); exact BK265.out⟩, ⟨by repeat (first | (with_reducible first | exact HB.out | apply below_alloc | apply pw_below_drewN | apply below_drew1 | refine below_set ?_ GE265.out) | exact HB.out)⟩⟩
                            · rw [if_neg c31] at H
                              have c31b0 : (x10_3 == 0) = false := beq_eq_false_iff_ne.mpr c31
                              have c31b1 : (x10_3 != 0) = true := bne_iff_ne.mpr c31
                              have H' := Aside0.mk H
                              clear H
                              go_wp2
                              go_meet
                              case rel => exact ⟨_, (true), (by first | rfl | (simp; done) | (simp [*]; done)), H', ⟨by have := HJ9.out; have := HK2.out; have := HK3.out; first | omega | exact Nat.le_refl _⟩, ⟨by (with_reducible repeat (first | refine blk_drewN ?_ _ | refine blk_drew ?_ | refine blk_alloc ?_ _)); exact BK265.out⟩, ⟨by repeat (first | (with_reducible first | exact HB.out | apply below_alloc | apply pw_below_drewN | apply below_drew1 | refine below_set ?_ GE265.out) | exact HB.out)⟩⟩
                          · rw [if_neg c30] at H
                            have c30b0 : (x9_2 == (l1.length : Int)) = false := beq_eq_false_iff_ne.mpr c30
                            have c30b1 : (x9_2 != (l1.length : Int)) = true := bne_iff_ne.mpr c30
                            (first | rw [c30b0] | (simp only [i64_w, i32_w]; rw [c30b0]) | skip)
                            have H' := Aside0.mk H
                            clear H
                            go_wp2
                            go_meet
                            case rel => exact ⟨_, (true), (by first | rfl | (simp; done) | (simp [*]; done)), H', ⟨by have := HJ9.out; have := HK2.out; have := HK3.out; first | omega | exact Nat.le_refl _⟩, ⟨by (with_reducible repeat (first | refine blk_drewN ?_ _ | refine blk_drew ?_ | refine blk_alloc ?_ _)); exact BK265.out⟩, ⟨by repeat (first | (with_reducible first | exact HB.out | apply below_alloc | apply pw_below_drewN | apply below_drew1 | refine below_set ?_ GE265.out) | exact HB.out)⟩⟩
                        case rest =>
                          clear HC29
                          try clear c1
                          try clear c2
                          try clear p2
                          try clear q2
                          try clear hx2
                          try clear c3
                          try clear c4
                          try clear c4b0
                          try clear c4b1
                          try clear p6
                          try clear c7
                          try clear c9
                          try clear c9b0
                          try clear c9b1
                          try clear c14
                          try clear c14b0
                          try clear c14b1
                          try clear c16
                          try clear c20
                          try clear c21
                          try clear c22
                          try clear c22b0
                          try clear c23
                          try clear c23b0
                          try clear c27
                          try clear c27b0
                          try clear p27
                          try clear q27
                          try clear hx27
                          try clear c28
                          try clear c28b0
                          try clear c30
                          try clear c30b0
                          try clear c30b1
                          try clear c31
                          try clear c31b0
                          try clear c31b1
                          try clear hcz12_0
                          try clear hcz12_1
                          try clear hcz12_2
                          try clear hcz17_0
                          try clear hcz17_1
                          try clear hcz17_2
                          try clear hcz20_0
                          try clear hcz20_1
                          try clear hcz20_2
                          try clear hfz12_0
                          try clear hfz12_1
                          try clear hfz12_2
                          try clear hfz17_0
                          try clear hfz17_1
                          try clear hfz17_2
                          try clear hfz20_0
                          try clear hfz20_1
                          try clear hfz20_2
                          try clear hx273_0
                          try clear hx273_1
                          try clear hx274_0
                          try clear hx274_1
                          try clear hx275_0
                          try clear hx275_1
                          try clear p2
                          try clear p273
                          try clear p274
                          try clear p275
                          try clear p6
                          try clear q2
                          try clear q273
                          try clear q274
                          try clear q275
                          obtain ⟨kq, x91_28, rfl, HA, HJ28, BK265, HB⟩ := hcut
                          cases kq with
                          | zero => exact absurd HA.out (by simp [papermilllaw35_ScanProfile.j3])
                          | succ kj28 =>
                            have H := HA.out
                            clear HA
                            simp only [papermilllaw35_ScanProfile.j3] at H
                            by_cases c32 : x91_28 = true
                            · subst c32
                              have H1 : (if (l1.length : Int) = 0 then (if x9_2 = 0 then (if x10_3 = 0 then ((papermilllaw35_awake.f kj28).bind fun t276 => (some t276)) else (some false)) else (some false)) else (some false)) = some r := by rw [if_pos rfl] at H; exact H
                              clear H
                              have H := H1
                              clear H1
                              by_cases c33 : (l1.length : Int) = 0
                              · rw [if_pos c33] at H
                                have c33b0 : ((l1.length : Int) == 0) = true := beq_iff_eq.mpr c33
                                have c33b1 : ((l1.length : Int) != 0) = false := bne_eq_false_iff_eq.mpr c33
                                clear c33
                                by_cases c34 : x9_2 = 0
                                · rw [if_pos c34] at H
                                  have c34b0 : (x9_2 == 0) = true := beq_iff_eq.mpr c34
                                  have c34b1 : (x9_2 != 0) = false := bne_eq_false_iff_eq.mpr c34
                                  clear c34
                                  by_cases c35 : x10_3 = 0
                                  · rw [if_pos c35] at H
                                    have c35b0 : (x10_3 == 0) = true := beq_iff_eq.mpr c35
                                    have c35b1 : (x10_3 != 0) = false := bne_eq_false_iff_eq.mpr c35
                                    clear c35
                                    replace H := Option.bind_eq_some_iff.mp H
                                    obtain ⟨t276, A360, H⟩ := H
                                    replace H : (some t276) = some r := H
                                    have A36 := Aside0.mk A360
                                    clear A360
                                    first
                                      | exact absurd ((Option.some.inj H).trans hr_.out) (by decide)
                                      | (skip
                                         obtain rfl := Option.some.inj H
                                         go_wp2_with (first | (go_at_call 16; (with_reducible refine (papermilllaw35_awake.calls kj28  t276 _ A36.out).mono ?_); rintro e w37 ⟨rfl, hb⟩; have n0_ := Aside0.mk (blk_below (g := gb265) (o := .cells #[.int .i64 a0_0, .int .i64 a0_1, .int .i64 a0_2] 23 (0, 0)) (by (with_reducible repeat (first | refine blk_drewN ?_ _ | refine blk_drew ?_ | refine blk_alloc ?_ _)); exact BK265.out) hb); have n1_ := Aside0.mk (below_step (by repeat (first | (with_reducible first | exact HB.out | apply below_alloc | apply pw_below_drewN | apply below_drew1 | refine below_set ?_ GE265.out) | exact HB.out)) hb); clear BK265; clear HB; have BK265 := n0_; have HB := n1_; clear n0_ n1_; (try clear hb); (try clear hb2); (try clear hk); (try clear hi)))
                                         go_ret
                                         exact ⟨by first | rfl | (simp [errW_none, errW_some] <;> rfl) | (simp [*, errW_none, errW_some] <;> rfl), by repeat (first | (with_reducible first | exact HB.out | apply below_alloc | apply pw_below_drewN | apply below_drew1 | refine below_set ?_ GE265.out) | exact HB.out)⟩)
                                  · rw [if_neg c35] at H
                                    have c35b0 : (x10_3 == 0) = false := beq_eq_false_iff_ne.mpr c35
                                    have c35b1 : (x10_3 != 0) = true := bne_iff_ne.mpr c35
                                    exact absurd ((Option.some.inj H).trans hr_.out) (by decide)
                                · rw [if_neg c34] at H
                                  have c34b0 : (x9_2 == 0) = false := beq_eq_false_iff_ne.mpr c34
                                  have c34b1 : (x9_2 != 0) = true := bne_iff_ne.mpr c34
                                  exact absurd ((Option.some.inj H).trans hr_.out) (by decide)
                              · rw [if_neg c33] at H
                                have c33b0 : ((l1.length : Int) == 0) = false := beq_eq_false_iff_ne.mpr c33
                                have c33b1 : ((l1.length : Int) != 0) = true := bne_iff_ne.mpr c33
                                have c33b2 : ¬ (l1 = []) := fun h_ => c33 (by rw [h_]; rfl)
                                exact absurd ((Option.some.inj H).trans hr_.out) (by decide)
                            · replace c32 := Bool.eq_false_iff.mpr c32
                              subst c32
                              have H1 : (if (l1.length : Int) = 0 then (none) else (if 0 ≤ (Int.tmod (wrap64 ((Int.tmod a2 (l1.length : Int)) + (l1.length : Int))) (l1.length : Int)) then (if (Int.tmod (wrap64 ((Int.tmod a2 (l1.length : Int)) + (l1.length : Int))) (l1.length : Int)) ≤ (wrap64 ((Int.tmod (wrap64 ((Int.tmod a2 (l1.length : Int)) + (l1.length : Int))) (l1.length : Int)) + 1)) then (if (wrap64 ((Int.tmod (wrap64 ((Int.tmod a2 (l1.length : Int)) + (l1.length : Int))) (l1.length : Int)) + 1)) ≤ (l1.length : Int) then ((scan_Profile.f a0_0 a0_1 a0_2 ((l1.take ((wrap64 ((Int.tmod (wrap64 ((Int.tmod a2 (l1.length : Int)) + (l1.length : Int))) (l1.length : Int)) + 1)) : Int).toNat).drop ((Int.tmod (wrap64 ((Int.tmod a2 (l1.length : Int)) + (l1.length : Int))) (l1.length : Int)) : Int).toNat)).bind fun bt281 => (if (Int.tmod (wrap64 ((Int.tmod a2 (l1.length : Int)) + (l1.length : Int))) (l1.length : Int)) < (l1.length : Int) then ((scan_Box.f a0_0 a0_1 a0_2 ((rd_T49 l1 (Int.tmod (wrap64 ((Int.tmod a2 (l1.length : Int)) + (l1.length : Int))) (l1.length : Int))).f0)).bind fun bt286 => (if bt281.2 = 0 then (if bt286.2 = 0 then (if (bt281.1.length : Int) = a0_1 then (if bt286.1 < 0 then (some false) else (if bt286.1 ≥ (bt281.1.length : Int) then (some false) else (if 0 ≤ bt286.1 then (if bt286.1 < (bt281.1.length : Int) then (if (((rd_T47 bt281.1 bt286.1).f0) == 1 && (((rd_T47 bt281.1 bt286.1).f1) == ((rd_T49 l1 (Int.tmod (wrap64 ((Int.tmod a2 (l1.length : Int)) + (l1.length : Int))) (l1.length : Int))).f1))) = true then ((papermilllaw35_awake.f kj28).bind fun t290 => (some t290)) else (some false)) else (none)) else (none)))) else (some false)) else (some false)) else (some false))) else (none))) else (none)) else (none)) else (none))) = some r := by rw [if_neg (show ¬ (false = true) by decide)] at H; exact H
                              clear H
                              have H := H1
                              clear H1
                              by_cases c38 : (l1.length : Int) = 0
                              · rw [if_pos c38] at H
                                exact absurd H (by simp)
                              · rw [if_neg c38] at H
                                have c38b0 : ((l1.length : Int) == 0) = false := beq_eq_false_iff_ne.mpr c38
                                have c38b1 : ((l1.length : Int) != 0) = true := bne_iff_ne.mpr c38
                                have c38b2 : ¬ (l1 = []) := fun h_ => c38 (by rw [h_]; rfl)
                                obtain ⟨ji39, hji39⟩ : ∃ j_ : Int, (Int.tmod (wrap64 ((Int.tmod a2 (l1.length : Int)) + (l1.length : Int))) (l1.length : Int)) = j_ := ⟨_, rfl⟩
                                replace H : (if 0 ≤ (ji39) then (if (ji39) ≤ (wrap64 ((ji39) + 1)) then (if (wrap64 ((ji39) + 1)) ≤ (l1.length : Int) then ((scan_Profile.f a0_0 a0_1 a0_2 ((l1.take ((wrap64 ((ji39) + 1)) : Int).toNat).drop ((ji39) : Int).toNat)).bind fun bt281 => (if (ji39) < (l1.length : Int) then ((scan_Box.f a0_0 a0_1 a0_2 ((rd_T49 l1 (ji39)).f0)).bind fun bt286 => (if bt281.2 = 0 then (if bt286.2 = 0 then (if (bt281.1.length : Int) = a0_1 then (if bt286.1 < 0 then (some false) else (if bt286.1 ≥ (bt281.1.length : Int) then (some false) else (if 0 ≤ bt286.1 then (if bt286.1 < (bt281.1.length : Int) then (if (((rd_T47 bt281.1 bt286.1).f0) == 1 && (((rd_T47 bt281.1 bt286.1).f1) == ((rd_T49 l1 (ji39)).f1))) = true then ((papermilllaw35_awake.f kj28).bind fun t290 => (some t290)) else (some false)) else (none)) else (none)))) else (some false)) else (some false)) else (some false))) else (none))) else (none)) else (none)) else (none)) = some r := by first | (rw [hji39] at H; exact H) | (simp only [hji39] at H ⊢; exact H)
                                by_cases c40 : 0 ≤ (ji39)
                                · rw [if_pos c40] at H
                                  have c40b0 := eq_true c40
                                  have c40b1 : decide (0 ≤ (ji39)) = true := decide_eq_true c40
                                  clear c40
                                  by_cases c41 : (ji39) ≤ (wrap64 ((ji39) + 1))
                                  · rw [if_pos c41] at H
                                    have c41b0 := eq_true c41
                                    have c41b1 : decide ((ji39) ≤ (wrap64 ((ji39) + 1))) = true := decide_eq_true c41
                                    by_cases c42 : (wrap64 ((ji39) + 1)) ≤ (l1.length : Int)
                                    · rw [if_pos c42] at H
                                      have c42b0 := eq_true c42
                                      have c42b1 : decide ((wrap64 ((ji39) + 1)) ≤ (l1.length : Int)) = true := decide_eq_true c42
                                      obtain ⟨y277, hy277⟩ : ∃ y_ : List (S49), y_ = ((l1.take ((wrap64 ((ji39) + 1)) : Int).toNat).drop ((ji39) : Int).toNat) := ⟨_, rfl⟩
                                      replace H : ((scan_Profile.f a0_0 a0_1 a0_2 y277).bind fun bt281 => (if (ji39) < (l1.length : Int) then ((scan_Box.f a0_0 a0_1 a0_2 ((rd_T49 l1 (ji39)).f0)).bind fun bt286 => (if bt281.2 = 0 then (if bt286.2 = 0 then (if (bt281.1.length : Int) = a0_1 then (if bt286.1 < 0 then (some false) else (if bt286.1 ≥ (bt281.1.length : Int) then (some false) else (if 0 ≤ bt286.1 then (if bt286.1 < (bt281.1.length : Int) then (if (((rd_T47 bt281.1 bt286.1).f0) == 1 && (((rd_T47 bt281.1 bt286.1).f1) == ((rd_T49 l1 (ji39)).f1))) = true then ((papermilllaw35_awake.f kj28).bind fun t290 => (some t290)) else (some false)) else (none)) else (none)))) else (some false)) else (some false)) else (some false))) else (none))) = some r := by first | (rw [hy277]; with_reducible exact H) | (have H2_ := (Option.bind_some _ _).symm.trans H; rw [hy277]; with_reducible exact H2_) | (have H2_ := (Option.bind_some _ _).symm.trans H; with_reducible exact H2_) | with_reducible exact H | (rw [hy277]; exact H) | exact H
                                      have Ny277 := Aside0.mk hy277
                                      clear hy277
                                      replace H := Option.bind_eq_some_iff.mp H
                                      obtain ⟨⟨t281, t284⟩, A430, H⟩ := H
                                      replace H : (if (ji39) < (l1.length : Int) then ((scan_Box.f a0_0 a0_1 a0_2 ((rd_T49 l1 (ji39)).f0)).bind fun bt286 => (if t284 = 0 then (if bt286.2 = 0 then (if (t281.length : Int) = a0_1 then (if bt286.1 < 0 then (some false) else (if bt286.1 ≥ (t281.length : Int) then (some false) else (if 0 ≤ bt286.1 then (if bt286.1 < (t281.length : Int) then (if (((rd_T47 t281 bt286.1).f0) == 1 && (((rd_T47 t281 bt286.1).f1) == ((rd_T49 l1 (ji39)).f1))) = true then ((papermilllaw35_awake.f kj28).bind fun t290 => (some t290)) else (some false)) else (none)) else (none)))) else (some false)) else (some false)) else (some false))) else (none)) = some r := H
                                      have A43 := Aside0.mk A430
                                      clear A430
                                      by_cases c44 : (ji39) < (l1.length : Int)
                                      · rw [if_pos c44] at H
                                        have c44b0 : decide ((ji39) < (l1.length : Int)) = true := decide_eq_true c44
                                        clear c44
                                        replace H := Option.bind_eq_some_iff.mp H
                                        obtain ⟨⟨t286, t287⟩, A450, H⟩ := H
                                        replace H : (if t284 = 0 then (if t287 = 0 then (if (t281.length : Int) = a0_1 then (if t286 < 0 then (some false) else (if t286 ≥ (t281.length : Int) then (some false) else (if 0 ≤ t286 then (if t286 < (t281.length : Int) then (if (((rd_T47 t281 t286).f0) == 1 && (((rd_T47 t281 t286).f1) == ((rd_T49 l1 (ji39)).f1))) = true then ((papermilllaw35_awake.f kj28).bind fun t290 => (some t290)) else (some false)) else (none)) else (none)))) else (some false)) else (some false)) else (some false)) = some r := H
                                        have A45 := Aside0.mk A450
                                        clear A450
                                        by_cases c46 : t284 = 0
                                        · rw [if_pos c46] at H
                                          have c46b0 : (t284 == 0) = true := beq_iff_eq.mpr c46
                                          have c46b1 : (t284 != 0) = false := bne_eq_false_iff_eq.mpr c46
                                          clear c46
                                          by_cases c47 : t287 = 0
                                          · rw [if_pos c47] at H
                                            have c47b0 : (t287 == 0) = true := beq_iff_eq.mpr c47
                                            have c47b1 : (t287 != 0) = false := bne_eq_false_iff_eq.mpr c47
                                            clear c47
                                            by_cases c48 : (t281.length : Int) = a0_1
                                            · rw [if_pos c48] at H
                                              have c48b0 : ((t281.length : Int) == a0_1) = true := beq_iff_eq.mpr c48
                                              have c48b1 : ((t281.length : Int) != a0_1) = false := bne_eq_false_iff_eq.mpr c48
                                              clear c48
                                              by_cases c49 : t286 < 0
                                              · rw [if_pos c49] at H
                                                have c49b0 : decide (t286 < 0) = true := decide_eq_true c49
                                                clear c49
                                                exact absurd ((Option.some.inj H).trans hr_.out) (by decide)
                                              · rw [if_neg c49] at H
                                                have c49b0 : decide (t286 < 0) = false := decide_eq_false c49
                                                clear c49
                                                by_cases c57 : t286 ≥ (t281.length : Int)
                                                · rw [if_pos c57] at H
                                                  have c57b0 : decide ((t281.length : Int) ≤ t286) = true := decide_eq_true c57
                                                  clear c57
                                                  exact absurd ((Option.some.inj H).trans hr_.out) (by decide)
                                                · rw [if_neg c57] at H
                                                  have c57b0 : decide ((t281.length : Int) ≤ t286) = false := decide_eq_false c57
                                                  clear c57
                                                  by_cases c65 : 0 ≤ t286
                                                  · rw [if_pos c65] at H
                                                    have c65b0 : decide (0 ≤ t286) = true := decide_eq_true c65
                                                    clear c65
                                                    by_cases c66 : t286 < (t281.length : Int)
                                                    · rw [if_pos c66] at H
                                                      have c66b0 : decide (t286 < (t281.length : Int)) = true := decide_eq_true c66
                                                      clear c66
                                                      by_cases c67 : (((rd_T47 t281 t286).f0) == 1 && (((rd_T47 t281 t286).f1) == ((rd_T49 l1 (ji39)).f1))) = true
                                                      · rw [if_pos c67] at H
                                                        have c67b0 : (((rd_T47 t281 t286).f0) == 1 && (((rd_T47 t281 t286).f1) == ((rd_T49 l1 (ji39)).f1))) = true := c67
                                                        (try (have c67b1 : decide (((rd_T47 t281 t286).f0) = 1 && (((rd_T47 t281 t286).f1) == ((rd_T49 l1 (ji39)).f1))) = true := by simpa using c67))
                                                        (try (have c67b2 : (((rd_T47 t281 t286).f0) == 1 && (((rd_T47 t281 t286).f1) == ((rd_T49 l1 (ji39)).f1))) = true := by simpa using c67))
                                                        clear c67
                                                        replace H := Option.bind_eq_some_iff.mp H
                                                        obtain ⟨t290, A680, H⟩ := H
                                                        replace H : (some t290) = some r := H
                                                        have A68 := Aside0.mk A680
                                                        clear A680
                                                        first
                                                          | exact absurd ((Option.some.inj H).trans hr_.out) (by decide)
                                                          | (skip
                                                             obtain rfl := Option.some.inj H
                                                             try go_wp2
                                                             have n0_ := Aside0.mk (blk_drew BK265.out)
                                                             have n1_ := Aside0.mk (below_drew1 HB.out)
                                                             clear BK265
                                                             clear HB
                                                             have BK265 := n0_
                                                             have HB := n1_
                                                             clear n0_ n1_
                                                             have q70 : ((wrap64 ((ji39) + 1)) : Int) ≤ ((l1.length : Int) : Int) := of_decide_eq_true (by first | (with_reducible assumption) | assumption)
                                                             obtain ⟨i070, hi070, _, hsz70, _⟩ := info_parts info49
                                                             have hroom70 : l1.length ≤ c1 := HC1.out
                                                             have hC70 : Kd.C k49 _ A1 l1.length l1 := HR1.out
                                                             have ql70 : ((ji39) : Int) ≤ ((wrap64 ((ji39) + 1)) : Int) := of_decide_eq_true (by first | (with_reducible assumption) | assumption)
                                                             have q070 : (0 : Int) ≤ ((ji39) : Int) := of_decide_eq_true (by first | (with_reducible assumption) | assumption)
                                                             have hcut70 := cut_mid (P := Try.prog) 35 49 .i64 .i64 Try.underlying35 hi070 2 hsz70 A1 l1.length c1 (ji39) (wrap64 ((ji39) + 1)) q070 ql70 q70 hroom70
                                                             have hr70 := Kd.C_mid (lo := ((ji39) : Int).toNat) (hi := ((wrap64 ((ji39) + 1)) : Int).toNat) (c := c1) hC70 (by omega) (by omega) hroom70
                                                             obtain ⟨A70, hA70⟩ : ∃ Az_, Az_ = (if c1 = ((ji39) : Int).toNat then A1 else (A1 : Option Addr).map (·.add (((ji39) : Int).toNat * 2))) := ⟨_, rfl⟩
                                                             obtain ⟨c70, hc70⟩ : ∃ cz_, cz_ = c1 - ((ji39) : Int).toNat := ⟨_, rfl⟩
                                                             have hy70 : y277.length = ((wrap64 ((ji39) + 1)) : Int).toNat - ((ji39) : Int).toNat := (by rw [Ny277.out, List.length_drop, List.length_take] <;> omega)
                                                             rw [show ((l1).take ((wrap64 ((ji39) + 1)) : Int).toNat).drop ((ji39) : Int).toNat = y277 from Ny277.out.symm] at hr70
                                                             replace hr70 : Kd.C k49 _ A70 y277.length y277 := (by rw [hA70]; exact hr70)
                                                             rw [← hy70, ← hA70, ← hc70] at hcut70
                                                             have HR280 := Aside0.mk hr70
                                                             have HC280 := Aside0.mk (show y277.length ≤ c70 from by rw [hy70, hc70]; exact Nat.sub_le_sub_right (Nat.le_trans (by omega) hroom70) _)
                                                             clear hr70 hC70 hroom70 hi070 hsz70 hc70
                                                             have KY70 := Aside0.mk hy70
                                                             have KA70 := Aside0.mk hA70
                                                             clear hy70 hA70
                                                             replace q70 := eq_true q70
                                                             refine start_ (n := 12) (S := fun w' => w'.cell? ⟨gb265, 0, none⟩ = some (.int .i64 a0_0) ∧ w'.cell? ⟨gb265, 1, none⟩ = some (.int .i64 a0_1) ∧ w'.cell? ⟨gb265, 2, none⟩ = some (.int .i64 a0_2)) (ds := []) #[false, false, false, false, false, false, false, false, false, false, false, false] (by kernel_rfl) rfl rfl ⟨(blk_cell BK265.out 0).trans rfl, (blk_cell BK265.out 1).trans rfl, (blk_cell BK265.out 2).trans rfl⟩ (fun hHeld => ?_); refine with_tabW papermilllaw35_ScanProfile.tab20 papermilllaw35_ScanProfile.bits20 (fun HT_ HW_ => ?_)
                                                             generalize wc.drew = w69 at BK265 HB HR280 hHeld ⊢
                                                             refine pure_ (i := 1) (N := some 118) (v := ?_) (a' := ?_) #[false, true, false, false, false, false, false, false, false, false, false, false] rfl rfl (any_of HT_.out (by kernel_rfl)) (fun _ _ _ h => h) (Or.inl ⟨by rfl, ?_⟩) ?_ ?_
                                                             rotate_left
                                                             · intro w'
                                                               go_simp
                                                               with_reducible rfl
                                                             rotate_left
                                                             · simp only [Act.put, List.setIfInBounds_toArray, List.set_cons_zero, List.set_cons_succ, i64_w, i32_w]
                                                               rfl
                                                             refine pure_ (i := 2) (N := some 119) (v := ?_) (a' := ?_) #[false, true, true, false, false, false, false, false, false, false, false, false] rfl rfl (any_of HT_.out (by kernel_rfl)) (fun _ _ _ h => h) (Or.inl ⟨by rfl, ?_⟩) ?_ ?_
                                                             rotate_left
                                                             · intro w'
                                                               go_simp
                                                               with_reducible rfl
                                                             rotate_left
                                                             · simp only [Act.put, List.setIfInBounds_toArray, List.set_cons_zero, List.set_cons_succ, i64_w, i32_w]
                                                               rfl
                                                             refine pure_ (i := 3) (N := some 120) (v := ?_) (a' := ?_) #[false, true, true, true, false, false, false, false, false, false, false, false] rfl rfl (any_of HT_.out (by kernel_rfl)) (fun _ _ _ h => h) (Or.inl ⟨by rfl, ?_⟩) ?_ ?_
                                                             rotate_left
                                                             · intro w'
                                                               go_simp
                                                               with_reducible rfl
                                                             rotate_left
                                                             · simp only [Act.put, List.setIfInBounds_toArray, List.set_cons_zero, List.set_cons_succ, i64_w, i32_w]
                                                               rfl
                                                             refine pure_ (i := 4) (N := some 121) (v := ?_) (a' := ?_) #[false, true, true, true, true, false, false, false, false, false, false, false] rfl rfl (any_of HT_.out (by kernel_rfl)) (fun _ _ _ h => h) (Or.inl ⟨by rfl, ?_⟩) ?_ ?_
                                                             rotate_left
                                                             · intro w'
                                                               go_simp
                                                               with_reducible rfl
                                                             rotate_left
                                                             · simp only [Act.put, List.setIfInBounds_toArray, List.set_cons_zero, List.set_cons_succ, i64_w, i32_w]
                                                               rfl
                                                             refine pure_ (i := 5) (N := some 122) (v := ?_) (a' := ?_) #[false, true, true, true, true, true, false, false, false, false, false, false] rfl rfl (any_of HT_.out (by kernel_rfl)) (fun _ _ _ h => h) (Or.inl ⟨by rfl, ?_⟩) ?_ ?_
                                                             rotate_left
                                                             · intro w'
                                                               go_simp
                                                               with_reducible rfl
                                                             rotate_left
                                                             · simp only [Act.put, List.setIfInBounds_toArray, List.set_cons_zero, List.set_cons_succ, i64_w, i32_w]
                                                               rfl
                                                             refine take_ (i := 0) (N := some 117) (v := ?_) (a' := ?_) #[true, true, true, true, true, true, false, false, false, false, false, false] rfl rfl (take_ofW HT_.out HW_.out (by kernel_rfl)) (fun _ _ _ h => h) (Or.inl ⟨by rfl, ?_⟩) hHeld ?_ ?_
                                                             rotate_left
                                                             · rintro w' ⟨s0, s1, s2⟩
                                                               go_simp
                                                               with_reducible rfl
                                                             rotate_left
                                                             · simp only [Act.put, List.setIfInBounds_toArray, List.set_cons_zero, List.set_cons_succ, i64_w, i32_w]
                                                               rfl
                                                             refine one_ (i := 6) (N := some 123) #[true, true, true, true, true, true, true, false, false, false, false, false] rfl rfl (one_of HT_.out (by kernel_rfl)) (by decide) (fun K hK => ?_)
                                                             refine goes_ Try.func20 (by kernel_rfl) rfl #[.agg #[.int .i64 a0_0, .int .i64 a0_1, .int .i64 a0_2], .slice A70 y277.length c70] (by rfl) rfl rfl (by (try simp only [List.map_toArray, List.map_cons, List.map_nil]); first | done | rfl | (simp only [List.length_drop, List.length_take]; rfl)) ?_
                                                             with_reducible refine (scan_Profile.calls a0_0 a0_1 a0_2 _ _ y277 t281 t284 _ ?side1 ?side2 A43.out).mono ?_
                                                             (case side1 => repeat (first | exact (Kd.C_below HR280.out HB.out) | (with_reducible refine Kd.C_alloc ?_ _) | (with_reducible refine Kd.C_drewN ?_ _) | (with_reducible refine Kd.C_drew ?_)))
                                                             (case side2 => exact HC280.out)
                                                             rintro e w71 ⟨v282, rfl, ho0, hb⟩
                                                             refine ⟨_, rfl, ?_⟩
                                                             have n0_ := Aside0.mk (Kd.R_lower ho0 (below_size (by repeat (first | (with_reducible first | exact HB.out | apply below_alloc | apply pw_below_drewN | apply below_drew1 | refine below_set ?_ GE265.out) | exact HB.out))))
                                                             have n1_ := Aside0.mk (blk_below (g := gb265) (o := .cells #[.int .i64 a0_0, .int .i64 a0_1, .int .i64 a0_2] 23 (0, 0)) (by (with_reducible repeat (first | refine blk_drewN ?_ _ | refine blk_drew ?_ | refine blk_alloc ?_ _)); exact BK265.out) hb)
                                                             have n2_ := Aside0.mk (below_step (by repeat (first | (with_reducible first | exact HB.out | apply below_alloc | apply pw_below_drewN | apply below_drew1 | refine below_set ?_ GE265.out) | exact HB.out)) hb)
                                                             clear BK265
                                                             clear HB
                                                             have HO283 := n0_
                                                             have BK265 := n1_
                                                             have HB := n2_
                                                             clear n0_ n1_ n2_
                                                             (try clear hb)
                                                             (try clear hb2)
                                                             (try clear hk)
                                                             (try clear hi)
                                                             (try clear ho0)
                                                             refine hK.out _ _ ⟨(blk_cell BK265.out 0).trans rfl, (blk_cell BK265.out 1).trans rfl, (blk_cell BK265.out 2).trans rfl⟩ (fun hHeld => ?_)
                                                             clear hK K
                                                             refine norm_ (a' := ?_) ?_ ?_
                                                             rotate_left
                                                             · show Act.put _ (some 123) _ = _
                                                               simp only [Act.put, List.setIfInBounds_toArray, List.set_cons_zero, List.set_cons_succ, i64_w, i32_w]
                                                               rfl
                                                             refine pure_ (i := 7) (N := some 116) (v := ?_) (a' := ?_) #[true, true, true, true, true, true, true, true, false, false, false, false] rfl rfl (any_of HT_.out (by kernel_rfl)) (fun _ _ _ h => h) (Or.inl ⟨by rfl, ?_⟩) ?_ ?_
                                                             rotate_left
                                                             · intro w'
                                                               go_simp
                                                               with_reducible rfl
                                                             rotate_left
                                                             · simp only [Act.put, List.setIfInBounds_toArray, List.set_cons_zero, List.set_cons_succ, i64_w, i32_w]
                                                               rfl
                                                             refine pure_ (i := 8) (N := some 124) (v := ?_) (a' := ?_) #[true, true, true, true, true, true, true, true, true, false, false, false] rfl rfl (any_of HT_.out (by kernel_rfl)) (fun _ _ _ h => h) (Or.inl ⟨by rfl, ?_⟩) ?_ ?_
                                                             rotate_left
                                                             · intro w'
                                                               go_simp
                                                               with_reducible rfl
                                                             rotate_left
                                                             · simp only [Act.put, List.setIfInBounds_toArray, List.set_cons_zero, List.set_cons_succ, i64_w, i32_w]
                                                               rfl
                                                             refine pure_ (i := 9) (N := some 125) (v := ?_) (a' := ?_) #[true, true, true, true, true, true, true, true, true, true, false, false] rfl rfl (any_of HT_.out (by kernel_rfl)) (fun _ _ _ h => h) (Or.inl ⟨by rfl, ?_⟩) ?_ ?_
                                                             rotate_left
                                                             · intro w'
                                                               go_simp
                                                               with_reducible rfl
                                                             rotate_left
                                                             · simp only [Act.put, List.setIfInBounds_toArray, List.set_cons_zero, List.set_cons_succ, i64_w, i32_w]
                                                               rfl
                                                             refine pure_ (i := 10) (N := some 14) (v := ?_) (a' := ?_) #[true, true, true, true, true, true, true, true, true, true, true, false] rfl rfl (any_of HT_.out (by kernel_rfl)) (fun _ _ _ h => h) (Or.inl ⟨by rfl, ?_⟩) ?_ ?_
                                                             rotate_left
                                                             · intro w'
                                                               go_simp
                                                               with_reducible rfl
                                                             rotate_left
                                                             · simp only [Act.put, List.setIfInBounds_toArray, List.set_cons_zero, List.set_cons_succ, i64_w, i32_w]
                                                               rfl
                                                             refine pure_ (i := 11) (N := some 15) (v := ?_) (a' := ?_) #[true, true, true, true, true, true, true, true, true, true, true, true] rfl rfl (any_of HT_.out (by kernel_rfl)) (fun _ _ _ h => h) (Or.inl ⟨by rfl, ?_⟩) ?_ ?_
                                                             rotate_left
                                                             · intro w'
                                                               go_simp
                                                               with_reducible rfl
                                                             rotate_left
                                                             · simp only [Act.put, List.setIfInBounds_toArray, List.set_cons_zero, List.set_cons_succ, i64_w, i32_w]
                                                               rfl
                                                             refine done_ (done_of HT_.out (by kernel_rfl)) ?_
                                                             try go_wp2
                                                             have n0_ := Aside0.mk (Kd.R_drew HO283.out)
                                                             have n1_ := Aside0.mk (blk_drew BK265.out)
                                                             have n2_ := Aside0.mk (below_drew1 HB.out)
                                                             clear HO283
                                                             clear BK265
                                                             clear HB
                                                             have HO283 := n0_
                                                             have BK265 := n1_
                                                             have HB := n2_
                                                             clear n0_ n1_ n2_
                                                             have p285 : 0 ≤ ((ji39) : Int) := of_decide_eq_true (by first | (with_reducible assumption) | assumption)
                                                             have q285 : (ji39) < (l1.length : Int) := of_decide_eq_true (by first | (with_reducible assumption) | assumption)
                                                             obtain ⟨ad285, e285, hx285_0, hx285_1⟩ := at_T49 HR1.out (ji39) p285 q285
                                                             have hw285_1 := hx285_1
                                                             have hw285_0 := hx285_0
                                                             cases e285
                                                             replace hx285_0 := (HB.out.cell (World.block_lt_of_cell? w _ hx285_0)).trans hx285_0
                                                             replace hx285_1 := (HB.out.cell (World.block_lt_of_cell? w _ hx285_1)).trans hx285_1
                                                             replace p285 := eq_true p285
                                                             replace q285 := eq_true q285
                                                             refine start_ (n := 12) (S := fun w' => w'.cell? ⟨gb265, 0, none⟩ = some (.int .i64 a0_0) ∧ w'.cell? ⟨gb265, 1, none⟩ = some (.int .i64 a0_1) ∧ w'.cell? ⟨gb265, 2, none⟩ = some (.int .i64 a0_2) ∧ w'.cell? (ad285.add (((ji39)).toNat * 2)) = some (.int .i64 ((rd_T49 l1 (ji39)).f0)) ∧ w'.cell? ⟨(ad285.add (((ji39)).toNat * 2)).block, (ad285.add (((ji39)).toNat * 2)).off + 1, none⟩ = some (.int .i64 ((rd_T49 l1 (ji39)).f1))) (ds := []) #[false, false, false, false, false, false, false, false, false, false, false, false] (by kernel_rfl) rfl rfl ⟨(blk_cell BK265.out 0).trans rfl, (blk_cell BK265.out 1).trans rfl, (blk_cell BK265.out 2).trans rfl, ((HB.out.cell (World.block_lt_of_cell? w _ hw285_0)).trans hw285_0), ((HB.out.cell (World.block_lt_of_cell? w _ hw285_1)).trans hw285_1)⟩ (fun hHeld => ?_); refine with_tabW papermilllaw35_ScanProfile.tab21 papermilllaw35_ScanProfile.bits21 (fun HT_ HW_ => ?_)
                                                             generalize w71.drew = w72 at HO283 BK265 HB hx285_0 hx285_1 hHeld ⊢
                                                             refine pure_ (i := 1) (N := some 128) (v := ?_) (a' := ?_) #[false, true, false, false, false, false, false, false, false, false, false, false] rfl rfl (any_of HT_.out (by kernel_rfl)) (fun _ _ _ h => h) (Or.inl ⟨by rfl, ?_⟩) ?_ ?_
                                                             rotate_left
                                                             · intro w'
                                                               go_simp
                                                               with_reducible rfl
                                                             rotate_left
                                                             · simp only [Act.put, List.setIfInBounds_toArray, List.set_cons_zero, List.set_cons_succ, i64_w, i32_w]
                                                               rfl
                                                             refine pure_ (i := 2) (N := some 129) (v := ?_) (a' := ?_) #[false, true, true, false, false, false, false, false, false, false, false, false] rfl rfl (any_of HT_.out (by kernel_rfl)) (fun _ _ _ h => h) (Or.inl ⟨by rfl, ?_⟩) ?_ ?_
                                                             rotate_left
                                                             · intro w'
                                                               go_simp
                                                               with_reducible rfl
                                                             rotate_left
                                                             · simp only [Act.put, List.setIfInBounds_toArray, List.set_cons_zero, List.set_cons_succ, i64_w, i32_w]
                                                               rfl
                                                             refine pure_ (i := 3) (N := some 130) (v := ?_) (a' := ?_) #[false, true, true, true, false, false, false, false, false, false, false, false] rfl rfl (any_of HT_.out (by kernel_rfl)) (fun _ _ _ h => h) (Or.inl ⟨by rfl, ?_⟩) ?_ ?_
                                                             rotate_left
                                                             · intro w'
                                                               go_simp
                                                               with_reducible rfl
                                                             rotate_left
                                                             · simp only [Act.put, List.setIfInBounds_toArray, List.set_cons_zero, List.set_cons_succ, i64_w, i32_w]
                                                               rfl
                                                             refine pure_ (i := 4) (N := some 131) (v := ?_) (a' := ?_) #[false, true, true, true, true, false, false, false, false, false, false, false] rfl rfl (any_of HT_.out (by kernel_rfl)) (fun _ _ _ h => h) (Or.inl ⟨by rfl, ?_⟩) ?_ ?_
                                                             rotate_left
                                                             · intro w'
                                                               go_simp
                                                               with_reducible rfl
                                                             rotate_left
                                                             · simp only [Act.put, List.setIfInBounds_toArray, List.set_cons_zero, List.set_cons_succ, i64_w, i32_w]
                                                               rfl
                                                             refine take_ (i := 0) (N := some 127) (v := ?_) (a' := ?_) #[true, true, true, true, true, false, false, false, false, false, false, false] rfl rfl (take_ofW HT_.out HW_.out (by kernel_rfl)) (fun _ _ _ h => h) (Or.inl ⟨by rfl, ?_⟩) hHeld ?_ ?_
                                                             rotate_left
                                                             · rintro w' ⟨s0, s1, s2, s3, s4⟩
                                                               go_simp
                                                               with_reducible rfl
                                                             rotate_left
                                                             · simp only [Act.put, List.setIfInBounds_toArray, List.set_cons_zero, List.set_cons_succ, i64_w, i32_w]
                                                               rfl
                                                             refine take_ (i := 5) (N := some 132) (v := ?_) (a' := ?_) #[true, true, true, true, true, true, false, false, false, false, false, false] rfl rfl (take_ofW HT_.out HW_.out (by kernel_rfl)) (fun _ _ _ h => h) (Or.inl ⟨by rfl, ?_⟩) hHeld ?_ ?_
                                                             rotate_left
                                                             · rintro w' ⟨s0, s1, s2, s3, s4⟩
                                                               go_simp
                                                               with_reducible rfl
                                                             rotate_left
                                                             · simp only [Act.put, List.setIfInBounds_toArray, List.set_cons_zero, List.set_cons_succ, i64_w, i32_w]
                                                               rfl
                                                             refine one_ (i := 6) (N := some 133) #[true, true, true, true, true, true, true, false, false, false, false, false] rfl rfl (one_of HT_.out (by kernel_rfl)) (by decide) (fun K hK => ?_)
                                                             refine goes_ Try.func12 (by kernel_rfl) rfl #[.agg #[.int .i64 a0_0, .int .i64 a0_1, .int .i64 a0_2], .int .i64 ((rd_T49 l1 (ji39)).f0)] (by rfl) rfl rfl (by (try simp only [List.map_toArray, List.map_cons, List.map_nil]); first | done | (simp only [hji39]; rfl) | rfl | (simp only [List.length_drop, List.length_take]; rfl)) ?_
                                                             with_reducible refine (scan_Box.calls a0_0 a0_1 a0_2 ((rd_T49 l1 (ji39)).f0) t286 t287 _ A45.out).mono ?_
                                                             rintro e w73 ⟨rfl, hb⟩
                                                             refine ⟨_, rfl, ?_⟩
                                                             have n0_ := Aside0.mk (Kd.R_below (by (with_reducible repeat (first | apply Kd.R_alloc | apply Kd.R_drewN | apply Kd.R_drew)); exact HO283.out) hb)
                                                             have n1_ := Aside0.mk (blk_below (g := gb265) (o := .cells #[.int .i64 a0_0, .int .i64 a0_1, .int .i64 a0_2] 23 (0, 0)) (by (with_reducible repeat (first | refine blk_drewN ?_ _ | refine blk_drew ?_ | refine blk_alloc ?_ _)); exact BK265.out) hb)
                                                             have n2_ := Aside0.mk (below_step (by repeat (first | (with_reducible first | exact HB.out | apply below_alloc | apply pw_below_drewN | apply below_drew1 | refine below_set ?_ GE265.out) | exact HB.out)) hb)
                                                             clear HO283
                                                             clear BK265
                                                             clear HB
                                                             have HO283 := n0_
                                                             have BK265 := n1_
                                                             have HB := n2_
                                                             clear n0_ n1_ n2_
                                                             (try clear hb)
                                                             (try clear hb2)
                                                             (try clear hk)
                                                             (try clear hi)
                                                             refine hK.out _ _ ⟨(blk_cell BK265.out 0).trans rfl, (blk_cell BK265.out 1).trans rfl, (blk_cell BK265.out 2).trans rfl, ((HB.out.cell (World.block_lt_of_cell? w _ hw285_0)).trans hw285_0), ((HB.out.cell (World.block_lt_of_cell? w _ hw285_1)).trans hw285_1)⟩ (fun hHeld => ?_)
                                                             clear hK K
                                                             refine norm_ (a' := ?_) ?_ ?_
                                                             rotate_left
                                                             · show Act.put _ (some 133) _ = _
                                                               simp only [Act.put, List.setIfInBounds_toArray, List.set_cons_zero, List.set_cons_succ, i64_w, i32_w]
                                                               rfl
                                                             refine pure_ (i := 7) (N := some 126) (v := ?_) (a' := ?_) #[true, true, true, true, true, true, true, true, false, false, false, false] rfl rfl (any_of HT_.out (by kernel_rfl)) (fun _ _ _ h => h) (Or.inl ⟨by rfl, ?_⟩) ?_ ?_
                                                             rotate_left
                                                             · intro w'
                                                               go_simp
                                                               with_reducible rfl
                                                             rotate_left
                                                             · simp only [Act.put, List.setIfInBounds_toArray, List.set_cons_zero, List.set_cons_succ, i64_w, i32_w]
                                                               rfl
                                                             refine pure_ (i := 8) (N := some 134) (v := ?_) (a' := ?_) #[true, true, true, true, true, true, true, true, true, false, false, false] rfl rfl (any_of HT_.out (by kernel_rfl)) (fun _ _ _ h => h) (Or.inl ⟨by rfl, ?_⟩) ?_ ?_
                                                             rotate_left
                                                             · intro w'
                                                               go_simp
                                                               with_reducible rfl
                                                             rotate_left
                                                             · simp only [Act.put, List.setIfInBounds_toArray, List.set_cons_zero, List.set_cons_succ, i64_w, i32_w]
                                                               rfl
                                                             refine pure_ (i := 9) (N := some 135) (v := ?_) (a' := ?_) #[true, true, true, true, true, true, true, true, true, true, false, false] rfl rfl (any_of HT_.out (by kernel_rfl)) (fun _ _ _ h => h) (Or.inl ⟨by rfl, ?_⟩) ?_ ?_
                                                             rotate_left
                                                             · intro w'
                                                               go_simp
                                                               with_reducible rfl
                                                             rotate_left
                                                             · simp only [Act.put, List.setIfInBounds_toArray, List.set_cons_zero, List.set_cons_succ, i64_w, i32_w]
                                                               rfl
                                                             refine pure_ (i := 10) (N := some 16) (v := ?_) (a' := ?_) #[true, true, true, true, true, true, true, true, true, true, true, false] rfl rfl (any_of HT_.out (by kernel_rfl)) (fun _ _ _ h => h) (Or.inl ⟨by rfl, ?_⟩) ?_ ?_
                                                             rotate_left
                                                             · intro w'
                                                               go_simp
                                                               with_reducible rfl
                                                             rotate_left
                                                             · simp only [Act.put, List.setIfInBounds_toArray, List.set_cons_zero, List.set_cons_succ, i64_w, i32_w]
                                                               rfl
                                                             refine pure_ (i := 11) (N := some 17) (v := ?_) (a' := ?_) #[true, true, true, true, true, true, true, true, true, true, true, true] rfl rfl (any_of HT_.out (by kernel_rfl)) (fun _ _ _ h => h) (Or.inl ⟨by rfl, ?_⟩) ?_ ?_
                                                             rotate_left
                                                             · intro w'
                                                               go_simp
                                                               with_reducible rfl
                                                             rotate_left
                                                             · simp only [Act.put, List.setIfInBounds_toArray, List.set_cons_zero, List.set_cons_succ, i64_w, i32_w]
                                                               rfl
                                                             refine done_ (done_of HT_.out (by kernel_rfl)) ?_
                                                             obtain ⟨Ao74, co74, eo74⟩ := Kd.R_slice HO283.out
                                                             subst eo74
                                                             have hcz75_0 : w73.cell? ⟨gb265, 0, none⟩ = some (.int .i64 a0_0) := (blk_cell BK265.out 0).trans rfl
                                                             have hcz75_1 : w73.cell? ⟨gb265, 1, none⟩ = some (.int .i64 a0_1) := (blk_cell BK265.out 1).trans rfl
                                                             have hcz75_2 : w73.cell? ⟨gb265, 2, none⟩ = some (.int .i64 a0_2) := (blk_cell BK265.out 2).trans rfl
                                                             have hfz75_0 := blk_frozen BK265.out 0
                                                             have hfz75_1 := blk_frozen BK265.out 1
                                                             have hfz75_2 := blk_frozen BK265.out 2
                                                             try go_wp2
                                                             have n0_ := Aside0.mk (Kd.R_drew HO283.out)
                                                             have n1_ := Aside0.mk (blk_drew BK265.out)
                                                             have n2_ := Aside0.mk (below_drew1 HB.out)
                                                             clear HO283
                                                             clear BK265
                                                             clear HB
                                                             have HO283 := n0_
                                                             have BK265 := n1_
                                                             have HB := n2_
                                                             clear n0_ n1_ n2_
                                                             have p288 : 0 ≤ (t286 : Int) := of_decide_eq_true (by first | (with_reducible assumption) | assumption)
                                                             have q288 : t286 < (t281.length : Int) := of_decide_eq_true (by first | (with_reducible assumption) | assumption)
                                                             obtain ⟨ad288, e288, hx288_0, hx288_1⟩ := at_T47 (Kd.R_reads' HO283.out).2.2 t286 p288 q288
                                                             cases e288
                                                             replace p288 := eq_true p288
                                                             replace q288 := eq_true q288
                                                             have p289 : 0 ≤ ((ji39) : Int) := of_decide_eq_true (by first | (with_reducible assumption) | assumption)
                                                             have q289 : (ji39) < (l1.length : Int) := of_decide_eq_true (by first | (with_reducible assumption) | assumption)
                                                             obtain ⟨ad289, e289, hx289_0, hx289_1⟩ := at_T49 HR1.out (ji39) p289 q289
                                                             have hw289_1 := hx289_1
                                                             have hw289_0 := hx289_0
                                                             obtain rfl : ad285 = ad289 := (by injection e289)
                                                             replace hx289_0 := (HB.out.cell (World.block_lt_of_cell? w _ hx289_0)).trans hx289_0
                                                             replace hx289_1 := (HB.out.cell (World.block_lt_of_cell? w _ hx289_1)).trans hx289_1
                                                             replace p289 := eq_true p289
                                                             replace q289 := eq_true q289
                                                             refine start_ (n := 15) (S := fun w' => w'.cell? (ad288.add ((t286).toNat * 2)) = some (.int .i64 ((rd_T47 t281 t286).f0)) ∧ w'.cell? ⟨(ad288.add ((t286).toNat * 2)).block, (ad288.add ((t286).toNat * 2)).off + 1, none⟩ = some (.int .i64 ((rd_T47 t281 t286).f1)) ∧ w'.cell? (ad285.add (((ji39)).toNat * 2)) = some (.int .i64 ((rd_T49 l1 (ji39)).f0)) ∧ w'.cell? ⟨(ad285.add (((ji39)).toNat * 2)).block, (ad285.add (((ji39)).toNat * 2)).off + 1, none⟩ = some (.int .i64 ((rd_T49 l1 (ji39)).f1))) (ds := []) #[false, false, false, false, false, false, false, false, false, false, false, false, false, false, false] (by kernel_rfl) rfl rfl ⟨hx288_0, hx288_1, ((HB.out.cell (World.block_lt_of_cell? w _ hw289_0)).trans hw289_0), ((HB.out.cell (World.block_lt_of_cell? w _ hw289_1)).trans hw289_1)⟩ (fun hHeld => ?_); refine with_tabW papermilllaw35_ScanProfile.tab24 papermilllaw35_ScanProfile.bits24 (fun HT_ HW_ => ?_)
                                                             generalize w73.drew = w76 at HO283 BK265 HB hx288_0 hx288_1 hx289_0 hx289_1 hHeld ⊢
                                                             refine pure_ (i := 0) (N := some 159) (v := ?_) (a' := ?_) #[true, false, false, false, false, false, false, false, false, false, false, false, false, false, false] rfl rfl (any_of HT_.out (by kernel_rfl)) (fun _ _ _ h => h) (Or.inl ⟨by rfl, ?_⟩) ?_ ?_
                                                             rotate_left
                                                             · intro w'
                                                               go_simp
                                                               with_reducible rfl
                                                             rotate_left
                                                             · simp only [Act.put, List.setIfInBounds_toArray, List.set_cons_zero, List.set_cons_succ, i64_w, i32_w]
                                                               rfl
                                                             refine pure_ (i := 1) (N := some 160) (v := ?_) (a' := ?_) #[true, true, false, false, false, false, false, false, false, false, false, false, false, false, false] rfl rfl (any_of HT_.out (by kernel_rfl)) (fun _ _ _ h => h) (Or.inl ⟨by rfl, ?_⟩) ?_ ?_
                                                             rotate_left
                                                             · intro w'
                                                               go_simp
                                                               with_reducible rfl
                                                             rotate_left
                                                             · simp only [Act.put, List.setIfInBounds_toArray, List.set_cons_zero, List.set_cons_succ, i64_w, i32_w]
                                                               rfl
                                                             refine pure_ (i := 2) (N := some 161) (v := ?_) (a' := ?_) #[true, true, true, false, false, false, false, false, false, false, false, false, false, false, false] rfl rfl (any_of HT_.out (by kernel_rfl)) (fun _ _ _ h => h) (Or.inl ⟨by rfl, ?_⟩) ?_ ?_
                                                             rotate_left
                                                             · intro w'
                                                               go_simp
                                                               with_reducible rfl
                                                             rotate_left
                                                             · simp only [Act.put, List.setIfInBounds_toArray, List.set_cons_zero, List.set_cons_succ, i64_w, i32_w]
                                                               rfl
                                                             refine pure_ (i := 4) (N := some 163) (v := ?_) (a' := ?_) #[true, true, true, false, true, false, false, false, false, false, false, false, false, false, false] rfl rfl (any_of HT_.out (by kernel_rfl)) (fun _ _ _ h => h) (Or.inl ⟨by rfl, ?_⟩) ?_ ?_
                                                             rotate_left
                                                             · intro w'
                                                               go_simp
                                                               with_reducible rfl
                                                             rotate_left
                                                             · simp only [Act.put, List.setIfInBounds_toArray, List.set_cons_zero, List.set_cons_succ, i64_w, i32_w]
                                                               rfl
                                                             refine pure_ (i := 5) (N := some 164) (v := ?_) (a' := ?_) #[true, true, true, false, true, true, false, false, false, false, false, false, false, false, false] rfl rfl (any_of HT_.out (by kernel_rfl)) (fun _ _ _ h => h) (Or.inl ⟨by rfl, ?_⟩) ?_ ?_
                                                             rotate_left
                                                             · intro w'
                                                               go_simp
                                                               with_reducible rfl
                                                             rotate_left
                                                             · simp only [Act.put, List.setIfInBounds_toArray, List.set_cons_zero, List.set_cons_succ, i64_w, i32_w]
                                                               rfl
                                                             refine pure_ (i := 6) (N := some 165) (v := ?_) (a' := ?_) #[true, true, true, false, true, true, true, false, false, false, false, false, false, false, false] rfl rfl (any_of HT_.out (by kernel_rfl)) (fun _ _ _ h => h) (Or.inl ⟨by rfl, ?_⟩) ?_ ?_
                                                             rotate_left
                                                             · intro w'
                                                               go_simp
                                                               with_reducible rfl
                                                             rotate_left
                                                             · simp only [Act.put, List.setIfInBounds_toArray, List.set_cons_zero, List.set_cons_succ, i64_w, i32_w]
                                                               rfl
                                                             refine pure_ (i := 7) (N := some 166) (v := ?_) (a' := ?_) #[true, true, true, false, true, true, true, true, false, false, false, false, false, false, false] rfl rfl (any_of HT_.out (by kernel_rfl)) (fun _ _ _ h => h) (Or.inl ⟨by rfl, ?_⟩) ?_ ?_
                                                             rotate_left
                                                             · intro w'
                                                               go_simp
                                                               with_reducible rfl
                                                             rotate_left
                                                             · simp only [Act.put, List.setIfInBounds_toArray, List.set_cons_zero, List.set_cons_succ, i64_w, i32_w]
                                                               rfl
                                                             refine take_ (i := 3) (N := some 162) (v := ?_) (a' := ?_) #[true, true, true, true, true, true, true, true, false, false, false, false, false, false, false] rfl rfl (take_ofW HT_.out HW_.out (by kernel_rfl)) (fun _ _ _ h => h) (Or.inl ⟨by rfl, ?_⟩) hHeld ?_ ?_
                                                             rotate_left
                                                             · rintro w' ⟨s0, s1, s2, s3⟩
                                                               go_simp
                                                               with_reducible rfl
                                                             rotate_left
                                                             · simp only [Act.put, List.setIfInBounds_toArray, List.set_cons_zero, List.set_cons_succ, i64_w, i32_w]
                                                               rfl
                                                             refine take_ (i := 8) (N := some 167) (v := ?_) (a' := ?_) #[true, true, true, true, true, true, true, true, true, false, false, false, false, false, false] rfl rfl (take_ofW HT_.out HW_.out (by kernel_rfl)) (fun _ _ _ h => h) (Or.inl ⟨by rfl, ?_⟩) hHeld ?_ ?_
                                                             rotate_left
                                                             · rintro w' ⟨s0, s1, s2, s3⟩
                                                               go_simp
                                                               with_reducible rfl
                                                             rotate_left
                                                             · simp only [Act.put, List.setIfInBounds_toArray, List.set_cons_zero, List.set_cons_succ, i64_w, i32_w]
                                                               rfl
                                                             refine pure_ (i := 9) (N := some 168) (v := ?_) (a' := ?_) #[true, true, true, true, true, true, true, true, true, true, false, false, false, false, false] rfl rfl (any_of HT_.out (by kernel_rfl)) (fun _ _ _ h => h) (Or.inl ⟨by rfl, ?_⟩) ?_ ?_
                                                             rotate_left
                                                             · intro w'
                                                               go_simp
                                                               with_reducible rfl
                                                             rotate_left
                                                             · simp only [Act.put, List.setIfInBounds_toArray, List.set_cons_zero, List.set_cons_succ, i64_w, i32_w]
                                                               rfl
                                                             refine pure_ (i := 10) (N := some 169) (v := ?_) (a' := ?_) #[true, true, true, true, true, true, true, true, true, true, true, false, false, false, false] rfl rfl (any_of HT_.out (by kernel_rfl)) (fun _ _ _ h => h) (Or.inl ⟨by rfl, ?_⟩) ?_ ?_
                                                             rotate_left
                                                             · intro w'
                                                               go_simp
                                                               with_reducible rfl
                                                             rotate_left
                                                             · simp only [Act.put, List.setIfInBounds_toArray, List.set_cons_zero, List.set_cons_succ, i64_w, i32_w]
                                                               rfl
                                                             refine pure_ (i := 11) (N := some 170) (v := ?_) (a' := ?_) #[true, true, true, true, true, true, true, true, true, true, true, true, false, false, false] rfl rfl (any_of HT_.out (by kernel_rfl)) (fun _ _ _ h => h) (Or.inl ⟨by rfl, ?_⟩) ?_ ?_
                                                             rotate_left
                                                             · intro w'
                                                               go_simp
                                                               with_reducible rfl
                                                             rotate_left
                                                             · simp only [Act.put, List.setIfInBounds_toArray, List.set_cons_zero, List.set_cons_succ, i64_w, i32_w]
                                                               rfl
                                                             refine one_ (i := 12) (N := some 171) #[true, true, true, true, true, true, true, true, true, true, true, true, true, false, false] rfl rfl (one_of HT_.out (by kernel_rfl)) (by decide) (fun K hK => ?_)
                                                             refine goes_ Try.func16 (by kernel_rfl) rfl #[] (by rfl) rfl rfl (by (try simp only [List.map_toArray, List.map_cons, List.map_nil]); first | done | rfl | (simp only [List.length_drop, List.length_take]; rfl)) ?_
                                                             with_reducible refine (papermilllaw35_awake.calls kj28  t290 _ A68.out).mono ?_
                                                             rintro e w77 ⟨rfl, hb⟩
                                                             have HS0_ := (hb.cell (World.block_lt_of_cell? _ _ (hHeld.1))).trans (hHeld.1)
                                                             have HS1_ := (hb.cell (World.block_lt_of_cell? _ _ (hHeld.2.1))).trans (hHeld.2.1)
                                                             refine ⟨_, rfl, ?_⟩
                                                             have n0_ := Aside0.mk (Kd.R_below (by (with_reducible repeat (first | apply Kd.R_alloc | apply Kd.R_drewN | apply Kd.R_drew)); exact HO283.out) hb)
                                                             have n1_ := Aside0.mk (blk_below (g := gb265) (o := .cells #[.int .i64 a0_0, .int .i64 a0_1, .int .i64 a0_2] 23 (0, 0)) (by (with_reducible repeat (first | refine blk_drewN ?_ _ | refine blk_drew ?_ | refine blk_alloc ?_ _)); exact BK265.out) hb)
                                                             have n2_ := Aside0.mk (below_step (by repeat (first | (with_reducible first | exact HB.out | apply below_alloc | apply pw_below_drewN | apply below_drew1 | refine below_set ?_ GE265.out) | exact HB.out)) hb)
                                                             clear HO283
                                                             clear BK265
                                                             clear HB
                                                             have HO283 := n0_
                                                             have BK265 := n1_
                                                             have HB := n2_
                                                             clear n0_ n1_ n2_
                                                             (try clear hb)
                                                             (try clear hb2)
                                                             (try clear hk)
                                                             (try clear hi)
                                                             refine hK.out _ _ ⟨HS0_, HS1_, ((HB.out.cell (World.block_lt_of_cell? w _ hw289_0)).trans hw289_0), ((HB.out.cell (World.block_lt_of_cell? w _ hw289_1)).trans hw289_1)⟩ (fun hHeld => ?_)
                                                             clear hK K
                                                             refine norm_ (a' := ?_) ?_ ?_
                                                             rotate_left
                                                             · show Act.put _ (some 171) _ = _
                                                               simp only [Act.put, List.setIfInBounds_toArray, List.set_cons_zero, List.set_cons_succ, i64_w, i32_w]
                                                               rfl
                                                             refine pure_ (i := 13) (N := some 172) (v := ?_) (a' := ?_) #[true, true, true, true, true, true, true, true, true, true, true, true, true, true, false] rfl rfl (any_of HT_.out (by kernel_rfl)) (fun _ _ _ h => h) (Or.inl ⟨by rfl, ?_⟩) ?_ ?_
                                                             rotate_left
                                                             · intro w'
                                                               go_simp
                                                               with_reducible rfl
                                                             rotate_left
                                                             · simp only [Act.put, List.setIfInBounds_toArray, List.set_cons_zero, List.set_cons_succ, i64_w, i32_w]
                                                               rfl
                                                             refine pure_ (i := 14) (N := some 6) (v := ?_) (a' := ?_) #[true, true, true, true, true, true, true, true, true, true, true, true, true, true, true] rfl rfl (any_of HT_.out (by kernel_rfl)) (fun _ _ _ h => h) (Or.inl ⟨by rfl, ?_⟩) ?_ ?_
                                                             rotate_left
                                                             · intro w'
                                                               go_simp
                                                               with_reducible rfl
                                                             rotate_left
                                                             · simp only [Act.put, List.setIfInBounds_toArray, List.set_cons_zero, List.set_cons_succ, i64_w, i32_w]
                                                               rfl
                                                             refine done_ (done_of HT_.out (by kernel_rfl)) ?_
                                                             try go_wp2
                                                             go_ret
                                                             exact ⟨by first | rfl | (simp [errW_none, errW_some] <;> rfl) | (simp only [← hji39]; first | rfl | (simp [errW_none, errW_some] <;> rfl)) | (simp [*, errW_none, errW_some] <;> rfl), by repeat (first | (with_reducible first | exact HB.out | apply below_alloc | apply pw_below_drewN | apply below_drew1 | refine below_set ?_ GE265.out) | exact HB.out)⟩)
                                                      · rw [if_neg c67] at H
                                                        have c67b0 : (((rd_T47 t281 t286).f0) == 1 && (((rd_T47 t281 t286).f1) == ((rd_T49 l1 (ji39)).f1))) = false := by simpa using c67
                                                        (try (have c67b1 : decide (((rd_T47 t281 t286).f0) = 1 && (((rd_T47 t281 t286).f1) == ((rd_T49 l1 (ji39)).f1))) = false := by simpa using c67))
                                                        (try (have c67b2 : (((rd_T47 t281 t286).f0) == 1 && (((rd_T47 t281 t286).f1) == ((rd_T49 l1 (ji39)).f1))) = false := by simpa using c67))
                                                        (try (have c67b3 : ¬ (((rd_T47 t281 t286).f0) = 1 && (((rd_T47 t281 t286).f1) == ((rd_T49 l1 (ji39)).f1))) := by simpa using c67))
                                                        clear c67
                                                        exact absurd ((Option.some.inj H).trans hr_.out) (by decide)
                                                    · rw [if_neg c66] at H
                                                      exact absurd H (by simp)
                                                  · rw [if_neg c65] at H
                                                    exact absurd H (by simp)
                                            · rw [if_neg c48] at H
                                              have c48b0 : ((t281.length : Int) == a0_1) = false := beq_eq_false_iff_ne.mpr c48
                                              have c48b1 : ((t281.length : Int) != a0_1) = true := bne_iff_ne.mpr c48
                                              exact absurd ((Option.some.inj H).trans hr_.out) (by decide)
                                          · rw [if_neg c47] at H
                                            have c47b0 : (t287 == 0) = false := beq_eq_false_iff_ne.mpr c47
                                            have c47b1 : (t287 != 0) = true := bne_iff_ne.mpr c47
                                            exact absurd ((Option.some.inj H).trans hr_.out) (by decide)
                                        · rw [if_neg c46] at H
                                          have c46b0 : (t284 == 0) = false := beq_eq_false_iff_ne.mpr c46
                                          have c46b1 : (t284 != 0) = true := bne_iff_ne.mpr c46
                                          exact absurd ((Option.some.inj H).trans hr_.out) (by decide)
                                      · rw [if_neg c44] at H
                                        exact absurd H (by simp)
                                    · rw [if_neg c42] at H
                                      exact absurd H (by simp)
                                  · rw [if_neg c41] at H
                                    exact absurd H (by simp)
                                · rw [if_neg c40] at H
                                  exact absurd H (by simp)
    · rw [if_neg c9] at H
      have c9b0 : (t270 == 0) = false := beq_eq_false_iff_ne.mpr c9
      have c9b1 : (t270 != 0) = true := bne_iff_ne.mpr c9
      by_cases c103 : (t267.length : Int) = 0
      · rw [if_pos c103] at H
        have c103b0 : ((t267.length : Int) == 0) = true := beq_iff_eq.mpr c103
        have c103b1 : ((t267.length : Int) != 0) = false := bne_eq_false_iff_eq.mpr c103
        clear c103
        replace H := Option.bind_eq_some_iff.mp H
        obtain ⟨t271, A1040, H⟩ := H
        replace H : (some t271) = some r := H
        have A104 := Aside0.mk A1040
        clear A1040
        first
          | exact absurd ((Option.some.inj H).trans hr_.out) (by decide)
          | (skip
             obtain rfl := Option.some.inj H
             go_enter Try.func7, Try.ntmps7
             go_wp2_with (first | ((with_reducible refine gate_dst (N := 3) rfl ?_); (try (refine gate_guard (by rfl) ?_; dsimp only)); refine box_event ?hg (N := 3) ?hd (cs := #[.int .i64 a0_0, .int .i64 a0_1, .int .i64 a0_2]) (t := 23) ?hr ?_; (case hd => rfl); (case hg => rfl); (case hr => first | (go_simp; done) | (go_simp; rfl)); intro gb265 hg w105 hbox hb; have n0_ := Aside0.mk (below_step (by repeat (first | (with_reducible first | exact HB.out | apply below_alloc | apply pw_below_drewN | apply below_drew1) | exact HB.out)) hb); have n1_ := Aside0.mk (hbox); have n2_ := Aside0.mk ((by rw [hg]; exact (below_size (by repeat (first | (with_reducible first | exact HB.out | apply below_alloc | apply pw_below_drewN | apply below_drew1) | exact HB.out))) : w.heap.size ≤ gb265)); have n3_ := Aside0.mk ((by rw [hg]; exact (below_size (by repeat (first | (with_reducible first | exact HB.out | apply below_alloc | apply pw_below_drewN | apply below_drew1) | exact HB.out))) : w.heap.size ≤ gb265)); clear HB; have HB := n0_; have BK265 := n1_; have GW265 := n2_; have GE265 := n3_; clear n0_ n1_ n2_ n3_; clear hb hbox hg; have hcz106_0 : w105.cell? ⟨gb265, 0, none⟩ = some (.int .i64 a0_0) := (blk_cell BK265.out 0).trans rfl; have hcz106_1 : w105.cell? ⟨gb265, 1, none⟩ = some (.int .i64 a0_1) := (blk_cell BK265.out 1).trans rfl; have hcz106_2 : w105.cell? ⟨gb265, 2, none⟩ = some (.int .i64 a0_2) := (blk_cell BK265.out 2).trans rfl; have hfz106_0 := blk_frozen BK265.out 0; have hfz106_1 := blk_frozen BK265.out 1; have hfz106_2 := blk_frozen BK265.out 2) | ((with_reducible refine gate_callee (f := 20) rfl ?_); refine goesL_ (some 25) rfl rfl Try.func20 (by kernel_rfl) rfl #[.agg #[.int .i64 a0_0, .int .i64 a0_1, .int .i64 a0_2], .slice A1 l1.length c1] rfl (by (try simp only [List.map_toArray, List.map_cons, List.map_nil]); first | done | rfl | (simp only [List.length_drop, List.length_take]; rfl)) ?_; (with_reducible refine (scan_Profile.calls a0_0 a0_1 a0_2 _ _ l1 t267 t270 _ ?side1 ?side2 A8.out).mono ?_); (case side1 => repeat (first | exact (Kd.C_below HR1.out HB.out) | (with_reducible refine Kd.C_alloc ?_ _) | (with_reducible refine Kd.C_drewN ?_ _) | (with_reducible refine Kd.C_drew ?_))); (case side2 => exact HC1.out); rintro e w107 ⟨v268, rfl, ho0, hb⟩; refine ⟨_, rfl, ?_⟩; have n0_ := Aside0.mk (Kd.R_lower ho0 (below_size (by repeat (first | (with_reducible first | exact HB.out | apply below_alloc | apply pw_below_drewN | apply below_drew1 | refine below_set ?_ GE265.out) | exact HB.out)))); have n1_ := Aside0.mk (blk_below (g := gb265) (o := .cells #[.int .i64 a0_0, .int .i64 a0_1, .int .i64 a0_2] 23 (0, 0)) (by (with_reducible repeat (first | refine blk_drewN ?_ _ | refine blk_drew ?_ | refine blk_alloc ?_ _)); exact BK265.out) hb); have n2_ := Aside0.mk (below_step (by repeat (first | (with_reducible first | exact HB.out | apply below_alloc | apply pw_below_drewN | apply below_drew1 | refine below_set ?_ GE265.out) | exact HB.out)) hb); clear BK265; clear HB; have HO269 := n0_; have BK265 := n1_; have HB := n2_; clear n0_ n1_ n2_; (try clear hb); (try clear hb2); (try clear hk); (try clear hi); (try clear ho0); obtain ⟨Ao108, co108, eo108⟩ := Kd.R_slice HO269.out; subst eo108) | (go_at_call 16; (with_reducible refine (papermilllaw35_awake.calls k  t271 _ A104.out).mono ?_); rintro e w109 ⟨rfl, hb⟩; have n0_ := Aside0.mk (Kd.R_below (by (with_reducible repeat (first | apply Kd.R_alloc | apply Kd.R_drewN | apply Kd.R_drew)); exact HO269.out) hb); have n1_ := Aside0.mk (blk_below (g := gb265) (o := .cells #[.int .i64 a0_0, .int .i64 a0_1, .int .i64 a0_2] 23 (0, 0)) (by (with_reducible repeat (first | refine blk_drewN ?_ _ | refine blk_drew ?_ | refine blk_alloc ?_ _)); exact BK265.out) hb); have n2_ := Aside0.mk (below_step (by repeat (first | (with_reducible first | exact HB.out | apply below_alloc | apply pw_below_drewN | apply below_drew1 | refine below_set ?_ GE265.out) | exact HB.out)) hb); clear HO269; clear BK265; clear HB; have HO269 := n0_; have BK265 := n1_; have HB := n2_; clear n0_ n1_ n2_; (try clear hb); (try clear hb2); (try clear hk); (try clear hi)))
             go_ret
             exact ⟨by first | rfl | (simp [errW_none, errW_some] <;> rfl) | (simp [*, errW_none, errW_some] <;> rfl), by repeat (first | (with_reducible first | exact HB.out | apply below_alloc | apply pw_below_drewN | apply below_drew1 | refine below_set ?_ GE265.out) | exact HB.out)⟩)
      · rw [if_neg c103] at H
        have c103b0 : ((t267.length : Int) == 0) = false := beq_eq_false_iff_ne.mpr c103
        have c103b1 : ((t267.length : Int) != 0) = true := bne_iff_ne.mpr c103
        have c103b2 : ¬ (t267 = []) := fun h_ => c103 (by rw [h_]; rfl)
        exact absurd ((Option.some.inj H).trans hr_.out) (by decide)

end Go.Proofs.Ytcpmnimjlhfdmaa.P
