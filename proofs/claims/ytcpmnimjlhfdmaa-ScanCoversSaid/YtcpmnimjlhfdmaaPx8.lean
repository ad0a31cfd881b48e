-- Written by a program (wip/prog/pp.py) over the kit's print; some of its functions are proved by hand. Not trusted: Lean checks it.
import Derived.Test.YtcpmnimjlhfdmaaPx0
import Derived.Test.YtcpmnimjlhfdmaaPx2
import Derived.Test.YtcpmnimjlhfdmaaPx3
import Derived.Test.YtcpmnimjlhfdmaaPx5
import Derived.Test.YtcpmnimjlhfdmaaPx6
import Derived.Test.YtcpmnimjlhfdmaaPx7
import Derived.Test.YtcpmnimjlhfdmaaHandEdges
import Derived.Test.YtcpmnimjlhfdmaaHandProfile
namespace Go.Proofs.Ytcpmnimjlhfdmaa.P
open Go.RowKit Go.Proofs.YtcpmnimjlhfdmaaW.PrintWords Go.Proofs.YtcpmnimjlhfdmaaW.PrintLast Go.Proofs.YtcpmnimjlhfdmaaW.PrintMore
attribute [local go_sem] max2_int min2_int max_two min_two max_three min_three max_four min_four   -- for this text's walks alone
set_option linter.unusedVariables false
set_option linter.unusedSimpArgs false

/-! ### papermilllaw35_sensor: function 30 -/
def papermilllaw35_sensor.f  : Option (Int × Int × Int) := some (11, 3, 4)
set_option maxHeartbeats 8000000 in
set_option maxRecDepth 100000 in
theorem papermilllaw35_sensor.calls  (r1 : Int) (r2 : Int) (r3 : Int) (w : World) (h : papermilllaw35_sensor.f  = some (r1, r2, r3)) :
    Calls Try.prog 30 #[] w fun e w' => e = .returned (.agg #[.int .i64 r1, .int .i64 r2, .int .i64 r3]) ∧ Below w.heap.size w w' := by
  have hu23 := Try.underlying23
  have HB := Aside0.mk (Below.refl w.heap.size w)
  have H : (some (11, 3, 4)) = some (r1, r2, r3) := h
  clear h
  simp only [Option.some.injEq, Prod.mk.injEq] at H
  obtain ⟨rfl, rfl, rfl⟩ := H
  go_enter Try.func30, Try.ntmps30
  go_wp2_with (first | ((with_reducible refine gate_dst (N := 0) rfl ?_); refine box_event ?hg (N := 0) ?hd (cs := #[.int .i64 0, .int .i64 0, .int .i64 0]) (t := 23) ?hr ?_; (case hd => rfl); (case hg => rfl); (case hr => first | (go_simp; done) | (go_simp; rfl)); intro gb140 hg w1 hbox hb; have n0_ := Aside0.mk (below_step (by repeat (first | (with_reducible first | exact HB.out | apply below_alloc | apply pw_below_drewN | apply below_drew1) | exact HB.out)) hb); have n1_ := Aside0.mk (hbox); have n2_ := Aside0.mk ((by rw [hg]; exact (below_size (by repeat (first | (with_reducible first | exact HB.out | apply below_alloc | apply pw_below_drewN | apply below_drew1) | exact HB.out))) : w.heap.size ≤ gb140)); have n3_ := Aside0.mk ((by rw [hg]; exact (below_size (by repeat (first | (with_reducible first | exact HB.out | apply below_alloc | apply pw_below_drewN | apply below_drew1) | exact HB.out))) : w.heap.size ≤ gb140)); clear HB; have HB := n0_; have BK140 := n1_; have GW140 := n2_; have GE140 := n3_; clear n0_ n1_ n2_ n3_; clear hb hbox hg; have hcz2_0 : w1.cell? ⟨gb140, 0, none⟩ = some (.int .i64 0) := (blk_cell BK140.out 0).trans rfl; have hcz2_1 : w1.cell? ⟨gb140, 1, none⟩ = some (.int .i64 0) := (blk_cell BK140.out 1).trans rfl; have hcz2_2 : w1.cell? ⟨gb140, 2, none⟩ = some (.int .i64 0) := (blk_cell BK140.out 2).trans rfl; have hfz2_0 := blk_frozen BK140.out 0; have hfz2_1 := blk_frozen BK140.out 1; have hfz2_2 := blk_frozen BK140.out 2))
  refine bodyPost_ret (results_cell_row rfl _ _ gb140 23 #[.int .i64 11, .int .i64 3, .int .i64 4] (0, 0) _ rfl (by (with_reducible repeat (first | refine blk_drewN ?_ _ | refine blk_drew ?_ | refine blk_alloc ?_ _)); refine blk_put (cs := #[.int .i64 11, .int .i64 3, .int .i64 0]) ?_ 2 _ rfl; (with_reducible repeat (first | refine blk_drewN ?_ _ | refine blk_drew ?_ | refine blk_alloc ?_ _)); refine blk_put (cs := #[.int .i64 11, .int .i64 0, .int .i64 0]) ?_ 1 _ rfl; (with_reducible repeat (first | refine blk_drewN ?_ _ | refine blk_drew ?_ | refine blk_alloc ?_ _)); refine blk_put (cs := #[.int .i64 0, .int .i64 0, .int .i64 0]) ?_ 0 _ rfl; (with_reducible repeat (first | refine blk_drewN ?_ _ | refine blk_drew ?_ | refine blk_alloc ?_ _)); exact BK140.out) Try.underlying23 rfl (by kernel_rfl)) rfl ?_
  exact ⟨by first | rfl | (simp [errW_none, errW_some] <;> rfl) | (simp [*, errW_none, errW_some] <;> rfl), by repeat (first | (with_reducible first | exact HB.out | apply below_alloc | apply pw_below_drewN | apply below_drew1 | refine below_set ?_ GE140.out) | exact HB.out)⟩

/-! ### papermilllaw35_awake: function 16 -/
def papermilllaw35_awake.g (k : Nat)  : Option (Bool) := (papermilllaw35_sensor.f).bind fun bt141 => ((scan_Place.f bt141.1 bt141.2.1 bt141.2.2 3).bind fun bt144 => ((papermilllaw35_sensor.f).bind fun bt146 => ((scan_Box.f bt146.1 bt146.2.1 bt146.2.2 4).bind fun bt149 => ((papermilllaw35_sensor.f).bind fun bt151 => ((scan_Edges.f bt151.1 bt151.2.1 bt151.2.2).bind fun bt154 => ((papermilllaw35_sensor.f).bind fun bt158 => ((scan_Profile.f bt158.1 bt158.2.1 bt158.2.2 (([(⟨1, 5⟩ : S49), (⟨4, 7⟩ : S49), (⟨2, (-2)⟩ : S49)] : List (S49)))).bind fun bt164 => ((papermilllaw35_sensor.f).bind fun bt168 => ((scan_Covered.f k bt168.1 bt168.2.1 bt168.2.2 1 3).bind fun bt171 => ((papermilllaw35_sensor.f).bind fun bt173 => ((scan_Covered.f k bt173.1 bt173.2.1 bt173.2.2 0 3).bind fun bt176 => (if bt144.2 = 0 then (if bt149.2 = 0 then (if bt154.2 = 0 then (if bt164.2 = 0 then (if bt171.2 = 0 then (if bt176.2 = 0 then (if bt144.1 = 8 then (if bt149.1 = 1 then ((papermillref08_Ints.f k bt154.1 (([0, 4, 8, 11] : List Int))).bind fun t181 => (if t181 = true then ((papermillref35_Same.f k bt164.1 (([(⟨0, 0⟩ : S47), (⟨2, 12⟩ : S47), (⟨1, (-2)⟩ : S47)] : List (S47)))).bind fun t185 => (if t185 = true then (if bt171.1 = true then (some false) else (some bt176.1)) else (some false))) else (some false))) else (some false)) else (some false)) else (some false)) else (some false)) else (some false)) else (some false)) else (some false)) else (some false)))))))))))))
theorem papermilllaw35_awake.gmono : ∀ k, LeO (papermilllaw35_awake.g k ) (papermilllaw35_awake.g (k + 1) ) := by
  intro  k
  unfold papermilllaw35_awake.g
  repeat' first
      | (with_reducible exact papermillref08_Ints.mono _ _ _)
      | (with_reducible exact papermillref35_Same.mono _ _ _)
      | (with_reducible exact scan_Covered.mono _ _ _ _ _ _)
      | (with_reducible exact LeO.refl _)
      | (with_reducible exact LeO.none _)
      | (with_reducible refine LeO.ite ?_ ?_)
      | (with_reducible refine LeO.bind ?_ (fun _ => ?_))
      | exact papermillref08_Ints.mono _ _ _
      | exact papermillref35_Same.mono _ _ _
      | exact scan_Covered.mono _ _ _ _ _ _
      | exact LeO.none _
      | refine LeO.ite ?_ ?_
      | refine LeO.bind ?_ (fun _ => ?_)
set_option maxHeartbeats 8000000 in
set_option maxRecDepth 100000 in
theorem papermilllaw35_awake.gcalls (k : Nat)  (r : Bool) (w : World) (hr_ : Aside0 (r = true)) (h : papermilllaw35_awake.g k  = some r) :
    Calls Try.prog 16 #[] w fun e w' => e = .returned (.bool r) ∧ Below w.heap.size w w' := by
  have hu49 := Try.underlying49
  have hu42 := Try.underlying42
  have hu47 := Try.underlying47
  have HB := Aside0.mk (Below.refl w.heap.size w)
  have H : ((papermilllaw35_sensor.f).bind fun bt141 => ((scan_Place.f bt141.1 bt141.2.1 bt141.2.2 3).bind fun bt144 => ((papermilllaw35_sensor.f).bind fun bt146 => ((scan_Box.f bt146.1 bt146.2.1 bt146.2.2 4).bind fun bt149 => ((papermilllaw35_sensor.f).bind fun bt151 => ((scan_Edges.f bt151.1 bt151.2.1 bt151.2.2).bind fun bt154 => ((papermilllaw35_sensor.f).bind fun bt158 => ((scan_Profile.f bt158.1 bt158.2.1 bt158.2.2 (([(⟨1, 5⟩ : S49), (⟨4, 7⟩ : S49), (⟨2, (-2)⟩ : S49)] : List (S49)))).bind fun bt164 => ((papermilllaw35_sensor.f).bind fun bt168 => ((scan_Covered.f k bt168.1 bt168.2.1 bt168.2.2 1 3).bind fun bt171 => ((papermilllaw35_sensor.f).bind fun bt173 => ((scan_Covered.f k bt173.1 bt173.2.1 bt173.2.2 0 3).bind fun bt176 => (if bt144.2 = 0 then (if bt149.2 = 0 then (if bt154.2 = 0 then (if bt164.2 = 0 then (if bt171.2 = 0 then (if bt176.2 = 0 then (if bt144.1 = 8 then (if bt149.1 = 1 then ((papermillref08_Ints.f k bt154.1 (([0, 4, 8, 11] : List Int))).bind fun t181 => (if t181 = true then ((papermillref35_Same.f k bt164.1 (([(⟨0, 0⟩ : S47), (⟨2, 12⟩ : S47), (⟨1, (-2)⟩ : S47)] : List (S47)))).bind fun t185 => (if t185 = true then (if bt171.1 = true then (some false) else (some bt176.1)) else (some false))) else (some false))) else (some false)) else (some false)) else (some false)) else (some false)) else (some false)) else (some false)) else (some false)) else (some false)))))))))))))) = some r := h
  clear h
  replace H := Option.bind_eq_some_iff.mp H
  obtain ⟨⟨t141, t142, t143⟩, A10, H⟩ := H
  replace H : ((scan_Place.f t141 t142 t143 3).bind fun bt144 => ((papermilllaw35_sensor.f).bind fun bt146 => ((scan_Box.f bt146.1 bt146.2.1 bt146.2.2 4).bind fun bt149 => ((papermilllaw35_sensor.f).bind fun bt151 => ((scan_Edges.f bt151.1 bt151.2.1 bt151.2.2).bind fun bt154 => ((papermilllaw35_sensor.f).bind fun bt158 => ((scan_Profile.f bt158.1 bt158.2.1 bt158.2.2 (([(⟨1, 5⟩ : S49), (⟨4, 7⟩ : S49), (⟨2, (-2)⟩ : S49)] : List (S49)))).bind fun bt164 => ((papermilllaw35_sensor.f).bind fun bt168 => ((scan_Covered.f k bt168.1 bt168.2.1 bt168.2.2 1 3).bind fun bt171 => ((papermilllaw35_sensor.f).bind fun bt173 => ((scan_Covered.f k bt173.1 bt173.2.1 bt173.2.2 0 3).bind fun bt176 => (if bt144.2 = 0 then (if bt149.2 = 0 then (if bt154.2 = 0 then (if bt164.2 = 0 then (if bt171.2 = 0 then (if bt176.2 = 0 then (if bt144.1 = 8 then (if bt149.1 = 1 then ((papermillref08_Ints.f k bt154.1 (([0, 4, 8, 11] : List Int))).bind fun t181 => (if t181 = true then ((papermillref35_Same.f k bt164.1 (([(⟨0, 0⟩ : S47), (⟨2, 12⟩ : S47), (⟨1, (-2)⟩ : S47)] : List (S47)))).bind fun t185 => (if t185 = true then (if bt171.1 = true then (some false) else (some bt176.1)) else (some false))) else (some false))) else (some false)) else (some false)) else (some false)) else (some false)) else (some false)) else (some false)) else (some false)) else (some false))))))))))))) = some r := H
  have A1 := Aside0.mk A10
  clear A10
  replace H := Option.bind_eq_some_iff.mp H
  obtain ⟨⟨t144, t145⟩, A20, H⟩ := H
  replace H : ((papermilllaw35_sensor.f).bind fun bt146 => ((scan_Box.f bt146.1 bt146.2.1 bt146.2.2 4).bind fun bt149 => ((papermilllaw35_sensor.f).bind fun bt151 => ((scan_Edges.f bt151.1 bt151.2.1 bt151.2.2).bind fun bt154 => ((papermilllaw35_sensor.f).bind fun bt158 => ((scan_Profile.f bt158.1 bt158.2.1 bt158.2.2 (([(⟨1, 5⟩ : S49), (⟨4, 7⟩ : S49), (⟨2, (-2)⟩ : S49)] : List (S49)))).bind fun bt164 => ((papermilllaw35_sensor.f).bind fun bt168 => ((scan_Covered.f k bt168.1 bt168.2.1 bt168.2.2 1 3).bind fun bt171 => ((papermilllaw35_sensor.f).bind fun bt173 => ((scan_Covered.f k bt173.1 bt173.2.1 bt173.2.2 0 3).bind fun bt176 => (if t145 = 0 then (if bt149.2 = 0 then (if bt154.2 = 0 then (if bt164.2 = 0 then (if bt171.2 = 0 then (if bt176.2 = 0 then (if t144 = 8 then (if bt149.1 = 1 then ((papermillref08_Ints.f k bt154.1 (([0, 4, 8, 11] : List Int))).bind fun t181 => (if t181 = true then ((papermillref35_Same.f k bt164.1 (([(⟨0, 0⟩ : S47), (⟨2, 12⟩ : S47), (⟨1, (-2)⟩ : S47)] : List (S47)))).bind fun t185 => (if t185 = true then (if bt171.1 = true then (some false) else (some bt176.1)) else (some false))) else (some false))) else (some false)) else (some false)) else (some false)) else (some false)) else (some false)) else (some false)) else (some false)) else (some false)))))))))))) = some r := H
  have A2 := Aside0.mk A20
  clear A20
  replace H := Option.bind_eq_some_iff.mp H
  obtain ⟨⟨t146, t147, t148⟩, A30, H⟩ := H
  replace H : ((scan_Box.f t146 t147 t148 4).bind fun bt149 => ((papermilllaw35_sensor.f).bind fun bt151 => ((scan_Edges.f bt151.1 bt151.2.1 bt151.2.2).bind fun bt154 => ((papermilllaw35_sensor.f).bind fun bt158 => ((scan_Profile.f bt158.1 bt158.2.1 bt158.2.2 (([(⟨1, 5⟩ : S49), (⟨4, 7⟩ : S49), (⟨2, (-2)⟩ : S49)] : List (S49)))).bind fun bt164 => ((papermilllaw35_sensor.f).bind fun bt168 => ((scan_Covered.f k bt168.1 bt168.2.1 bt168.2.2 1 3).bind fun bt171 => ((papermilllaw35_sensor.f).bind fun bt173 => ((scan_Covered.f k bt173.1 bt173.2.1 bt173.2.2 0 3).bind fun bt176 => (if t145 = 0 then (if bt149.2 = 0 then (if bt154.2 = 0 then (if bt164.2 = 0 then (if bt171.2 = 0 then (if bt176.2 = 0 then (if t144 = 8 then (if bt149.1 = 1 then ((papermillref08_Ints.f k bt154.1 (([0, 4, 8, 11] : List Int))).bind fun t181 => (if t181 = true then ((papermillref35_Same.f k bt164.1 (([(⟨0, 0⟩ : S47), (⟨2, 12⟩ : S47), (⟨1, (-2)⟩ : S47)] : List (S47)))).bind fun t185 => (if t185 = true then (if bt171.1 = true then (some false) else (some bt176.1)) else (some false))) else (some false))) else (some false)) else (some false)) else (some false)) else (some false)) else (some false)) else (some false)) else (some false)) else (some false))))))))))) = some r := H
  have A3 := Aside0.mk A30
  clear A30
  replace H := Option.bind_eq_some_iff.mp H
  obtain ⟨⟨t149, t150⟩, A40, H⟩ := H
  replace H : ((papermilllaw35_sensor.f).bind fun bt151 => ((scan_Edges.f bt151.1 bt151.2.1 bt151.2.2).bind fun bt154 => ((papermilllaw35_sensor.f).bind fun bt158 => ((scan_Profile.f bt158.1 bt158.2.1 bt158.2.2 (([(⟨1, 5⟩ : S49), (⟨4, 7⟩ : S49), (⟨2, (-2)⟩ : S49)] : List (S49)))).bind fun bt164 => ((papermilllaw35_sensor.f).bind fun bt168 => ((scan_Covered.f k bt168.1 bt168.2.1 bt168.2.2 1 3).bind fun bt171 => ((papermilllaw35_sensor.f).bind fun bt173 => ((scan_Covered.f k bt173.1 bt173.2.1 bt173.2.2 0 3).bind fun bt176 => (if t145 = 0 then (if t150 = 0 then (if bt154.2 = 0 then (if bt164.2 = 0 then (if bt171.2 = 0 then (if bt176.2 = 0 then (if t144 = 8 then (if t149 = 1 then ((papermillref08_Ints.f k bt154.1 (([0, 4, 8, 11] : List Int))).bind fun t181 => (if t181 = true then ((papermillref35_Same.f k bt164.1 (([(⟨0, 0⟩ : S47), (⟨2, 12⟩ : S47), (⟨1, (-2)⟩ : S47)] : List (S47)))).bind fun t185 => (if t185 = true then (if bt171.1 = true then (some false) else (some bt176.1)) else (some false))) else (some false))) else (some false)) else (some false)) else (some false)) else (some false)) else (some false)) else (some false)) else (some false)) else (some false)))))))))) = some r := H
  have A4 := Aside0.mk A40
  clear A40
  replace H := Option.bind_eq_some_iff.mp H
  obtain ⟨⟨t151, t152, t153⟩, A50, H⟩ := H
  replace H : ((scan_Edges.f t151 t152 t153).bind fun bt154 => ((papermilllaw35_sensor.f).bind fun bt158 => ((scan_Profile.f bt158.1 bt158.2.1 bt158.2.2 (([(⟨1, 5⟩ : S49), (⟨4, 7⟩ : S49), (⟨2, (-2)⟩ : S49)] : List (S49)))).bind fun bt164 => ((papermilllaw35_sensor.f).bind fun bt168 => ((scan_Covered.f k bt168.1 bt168.2.1 bt168.2.2 1 3).bind fun bt171 => ((papermilllaw35_sensor.f).bind fun bt173 => ((scan_Covered.f k bt173.1 bt173.2.1 bt173.2.2 0 3).bind fun bt176 => (if t145 = 0 then (if t150 = 0 then (if bt154.2 = 0 then (if bt164.2 = 0 then (if bt171.2 = 0 then (if bt176.2 = 0 then (if t144 = 8 then (if t149 = 1 then ((papermillref08_Ints.f k bt154.1 (([0, 4, 8, 11] : List Int))).bind fun t181 => (if t181 = true then ((papermillref35_Same.f k bt164.1 (([(⟨0, 0⟩ : S47), (⟨2, 12⟩ : S47), (⟨1, (-2)⟩ : S47)] : List (S47)))).bind fun t185 => (if t185 = true then (if bt171.1 = true then (some false) else (some bt176.1)) else (some false))) else (some false))) else (some false)) else (some false)) else (some false)) else (some false)) else (some false)) else (some false)) else (some false)) else (some false))))))))) = some r := H
  have A5 := Aside0.mk A50
  clear A50
  replace H := Option.bind_eq_some_iff.mp H
  obtain ⟨⟨t154, t157⟩, A60, H⟩ := H
  replace H : ((papermilllaw35_sensor.f).bind fun bt158 => ((scan_Profile.f bt158.1 bt158.2.1 bt158.2.2 (([(⟨1, 5⟩ : S49), (⟨4, 7⟩ : S49), (⟨2, (-2)⟩ : S49)] : List (S49)))).bind fun bt164 => ((papermilllaw35_sensor.f).bind fun bt168 => ((scan_Covered.f k bt168.1 bt168.2.1 bt168.2.2 1 3).bind fun bt171 => ((papermilllaw35_sensor.f).bind fun bt173 => ((scan_Covered.f k bt173.1 bt173.2.1 bt173.2.2 0 3).bind fun bt176 => (if t145 = 0 then (if t150 = 0 then (if t157 = 0 then (if bt164.2 = 0 then (if bt171.2 = 0 then (if bt176.2 = 0 then (if t144 = 8 then (if t149 = 1 then ((papermillref08_Ints.f k t154 (([0, 4, 8, 11] : List Int))).bind fun t181 => (if t181 = true then ((papermillref35_Same.f k bt164.1 (([(⟨0, 0⟩ : S47), (⟨2, 12⟩ : S47), (⟨1, (-2)⟩ : S47)] : List (S47)))).bind fun t185 => (if t185 = true then (if bt171.1 = true then (some false) else (some bt176.1)) else (some false))) else (some false))) else (some false)) else (some false)) else (some false)) else (some false)) else (some false)) else (some false)) else (some false)) else (some false)))))))) = some r := H
  have A6 := Aside0.mk A60
  clear A60
  replace H := Option.bind_eq_some_iff.mp H
  obtain ⟨⟨t158, t159, t160⟩, A70, H⟩ := H
  replace H : ((scan_Profile.f t158 t159 t160 (([(⟨1, 5⟩ : S49), (⟨4, 7⟩ : S49), (⟨2, (-2)⟩ : S49)] : List (S49)))).bind fun bt164 => ((papermilllaw35_sensor.f).bind fun bt168 => ((scan_Covered.f k bt168.1 bt168.2.1 bt168.2.2 1 3).bind fun bt171 => ((papermilllaw35_sensor.f).bind fun bt173 => ((scan_Covered.f k bt173.1 bt173.2.1 bt173.2.2 0 3).bind fun bt176 => (if t145 = 0 then (if t150 = 0 then (if t157 = 0 then (if bt164.2 = 0 then (if bt171.2 = 0 then (if bt176.2 = 0 then (if t144 = 8 then (if t149 = 1 then ((papermillref08_Ints.f k t154 (([0, 4, 8, 11] : List Int))).bind fun t181 => (if t181 = true then ((papermillref35_Same.f k bt164.1 (([(⟨0, 0⟩ : S47), (⟨2, 12⟩ : S47), (⟨1, (-2)⟩ : S47)] : List (S47)))).bind fun t185 => (if t185 = true then (if bt171.1 = true then (some false) else (some bt176.1)) else (some false))) else (some false))) else (some false)) else (some false)) else (some false)) else (some false)) else (some false)) else (some false)) else (some false)) else (some false))))))) = some r := H
  have A7 := Aside0.mk A70
  clear A70
  obtain ⟨y161, hy161⟩ : ∃ y_ : List (S49), y_ = (([(⟨1, 5⟩ : S49), (⟨4, 7⟩ : S49), (⟨2, (-2)⟩ : S49)] : List (S49))) := ⟨_, rfl⟩
  replace H : ((scan_Profile.f t158 t159 t160 y161).bind fun bt164 => ((papermilllaw35_sensor.f).bind fun bt168 => ((scan_Covered.f k bt168.1 bt168.2.1 bt168.2.2 1 3).bind fun bt171 => ((papermilllaw35_sensor.f).bind fun bt173 => ((scan_Covered.f k bt173.1 bt173.2.1 bt173.2.2 0 3).bind fun bt176 => (if t145 = 0 then (if t150 = 0 then (if t157 = 0 then (if bt164.2 = 0 then (if bt171.2 = 0 then (if bt176.2 = 0 then (if t144 = 8 then (if t149 = 1 then ((papermillref08_Ints.f k t154 (([0, 4, 8, 11] : List Int))).bind fun t181 => (if t181 = true then ((papermillref35_Same.f k bt164.1 (([(⟨0, 0⟩ : S47), (⟨2, 12⟩ : S47), (⟨1, (-2)⟩ : S47)] : List (S47)))).bind fun t185 => (if t185 = true then (if bt171.1 = true then (some false) else (some bt176.1)) else (some false))) else (some false))) else (some false)) else (some false)) else (some false)) else (some false)) else (some false)) else (some false)) else (some false)) else (some false))))))) = some r := by first | (rw [hy161]; with_reducible exact H) | (have H2_ := (Option.bind_some _ _).symm.trans H; rw [hy161]; with_reducible exact H2_) | (have H2_ := (Option.bind_some _ _).symm.trans H; with_reducible exact H2_) | with_reducible exact H | (rw [hy161]; exact H) | exact H
  have Ny161 := Aside0.mk hy161
  clear hy161
  replace H := Option.bind_eq_some_iff.mp H
  obtain ⟨⟨t164, t167⟩, A80, H⟩ := H
  replace H : ((papermilllaw35_sensor.f).bind fun bt168 => ((scan_Covered.f k bt168.1 bt168.2.1 bt168.2.2 1 3).bind fun bt171 => ((papermilllaw35_sensor.f).bind fun bt173 => ((scan_Covered.f k bt173.1 bt173.2.1 bt173.2.2 0 3).bind fun bt176 => (if t145 = 0 then (if t150 = 0 then (if t157 = 0 then (if t167 = 0 then (if bt171.2 = 0 then (if bt176.2 = 0 then (if t144 = 8 then (if t149 = 1 then ((papermillref08_Ints.f k t154 (([0, 4, 8, 11] : List Int))).bind fun t181 => (if t181 = true then ((papermillref35_Same.f k t164 (([(⟨0, 0⟩ : S47), (⟨2, 12⟩ : S47), (⟨1, (-2)⟩ : S47)] : List (S47)))).bind fun t185 => (if t185 = true then (if bt171.1 = true then (some false) else (some bt176.1)) else (some false))) else (some false))) else (some false)) else (some false)) else (some false)) else (some false)) else (some false)) else (some false)) else (some false)) else (some false)))))) = some r := H
  have A8 := Aside0.mk A80
  clear A80
  replace H := Option.bind_eq_some_iff.mp H
  obtain ⟨⟨t168, t169, t170⟩, A90, H⟩ := H
  replace H : ((scan_Covered.f k t168 t169 t170 1 3).bind fun bt171 => ((papermilllaw35_sensor.f).bind fun bt173 => ((scan_Covered.f k bt173.1 bt173.2.1 bt173.2.2 0 3).bind fun bt176 => (if t145 = 0 then (if t150 = 0 then (if t157 = 0 then (if t167 = 0 then (if bt171.2 = 0 then (if bt176.2 = 0 then (if t144 = 8 then (if t149 = 1 then ((papermillref08_Ints.f k t154 (([0, 4, 8, 11] : List Int))).bind fun t181 => (if t181 = true then ((papermillref35_Same.f k t164 (([(⟨0, 0⟩ : S47), (⟨2, 12⟩ : S47), (⟨1, (-2)⟩ : S47)] : List (S47)))).bind fun t185 => (if t185 = true then (if bt171.1 = true then (some false) else (some bt176.1)) else (some false))) else (some false))) else (some false)) else (some false)) else (some false)) else (some false)) else (some false)) else (some false)) else (some false)) else (some false))))) = some r := H
  have A9 := Aside0.mk A90
  clear A90
  replace H := Option.bind_eq_some_iff.mp H
  obtain ⟨⟨t171, t172⟩, A100, H⟩ := H
  replace H : ((papermilllaw35_sensor.f).bind fun bt173 => ((scan_Covered.f k bt173.1 bt173.2.1 bt173.2.2 0 3).bind fun bt176 => (if t145 = 0 then (if t150 = 0 then (if t157 = 0 then (if t167 = 0 then (if t172 = 0 then (if bt176.2 = 0 then (if t144 = 8 then (if t149 = 1 then ((papermillref08_Ints.f k t154 (([0, 4, 8, 11] : List Int))).bind fun t181 => (if t181 = true then ((papermillref35_Same.f k t164 (([(⟨0, 0⟩ : S47), (⟨2, 12⟩ : S47), (⟨1, (-2)⟩ : S47)] : List (S47)))).bind fun t185 => (if t185 = true then (if t171 = true then (some false) else (some bt176.1)) else (some false))) else (some false))) else (some false)) else (some false)) else (some false)) else (some false)) else (some false)) else (some false)) else (some false)) else (some false)))) = some r := H
  have A10 := Aside0.mk A100
  clear A100
  replace H := Option.bind_eq_some_iff.mp H
  obtain ⟨⟨t173, t174, t175⟩, A110, H⟩ := H
  replace H : ((scan_Covered.f k t173 t174 t175 0 3).bind fun bt176 => (if t145 = 0 then (if t150 = 0 then (if t157 = 0 then (if t167 = 0 then (if t172 = 0 then (if bt176.2 = 0 then (if t144 = 8 then (if t149 = 1 then ((papermillref08_Ints.f k t154 (([0, 4, 8, 11] : List Int))).bind fun t181 => (if t181 = true then ((papermillref35_Same.f k t164 (([(⟨0, 0⟩ : S47), (⟨2, 12⟩ : S47), (⟨1, (-2)⟩ : S47)] : List (S47)))).bind fun t185 => (if t185 = true then (if t171 = true then (some false) else (some bt176.1)) else (some false))) else (some false))) else (some false)) else (some false)) else (some false)) else (some false)) else (some false)) else (some false)) else (some false)) else (some false))) = some r := H
  have A11 := Aside0.mk A110
  clear A110
  replace H := Option.bind_eq_some_iff.mp H
  obtain ⟨⟨t176, t177⟩, A120, H⟩ := H
  replace H : (if t145 = 0 then (if t150 = 0 then (if t157 = 0 then (if t167 = 0 then (if t172 = 0 then (if t177 = 0 then (if t144 = 8 then (if t149 = 1 then ((papermillref08_Ints.f k t154 (([0, 4, 8, 11] : List Int))).bind fun t181 => (if t181 = true then ((papermillref35_Same.f k t164 (([(⟨0, 0⟩ : S47), (⟨2, 12⟩ : S47), (⟨1, (-2)⟩ : S47)] : List (S47)))).bind fun t185 => (if t185 = true then (if t171 = true then (some false) else (some t176)) else (some false))) else (some false))) else (some false)) else (some false)) else (some false)) else (some false)) else (some false)) else (some false)) else (some false)) else (some false)) = some r := H
  have A12 := Aside0.mk A120
  clear A120
  by_cases c13 : t145 = 0
  · rw [if_pos c13] at H
    have c13b0 : (t145 == 0) = true := beq_iff_eq.mpr c13
    have c13b1 : (t145 != 0) = false := bne_eq_false_iff_eq.mpr c13
    clear c13
    by_cases c14 : t150 = 0
    · rw [if_pos c14] at H
      have c14b0 : (t150 == 0) = true := beq_iff_eq.mpr c14
      have c14b1 : (t150 != 0) = false := bne_eq_false_iff_eq.mpr c14
      clear c14
      by_cases c15 : t157 = 0
      · rw [if_pos c15] at H
        have c15b0 : (t157 == 0) = true := beq_iff_eq.mpr c15
        have c15b1 : (t157 != 0) = false := bne_eq_false_iff_eq.mpr c15
        clear c15
        by_cases c16 : t167 = 0
        · rw [if_pos c16] at H
          have c16b0 : (t167 == 0) = true := beq_iff_eq.mpr c16
          have c16b1 : (t167 != 0) = false := bne_eq_false_iff_eq.mpr c16
          clear c16
          by_cases c17 : t172 = 0
          · rw [if_pos c17] at H
            have c17b0 : (t172 == 0) = true := beq_iff_eq.mpr c17
            have c17b1 : (t172 != 0) = false := bne_eq_false_iff_eq.mpr c17
            clear c17
            by_cases c18 : t177 = 0
            · rw [if_pos c18] at H
              have c18b0 : (t177 == 0) = true := beq_iff_eq.mpr c18
              have c18b1 : (t177 != 0) = false := bne_eq_false_iff_eq.mpr c18
              clear c18
              by_cases c19 : t144 = 8
              · rw [if_pos c19] at H
                have c19b0 : (t144 == 8) = true := beq_iff_eq.mpr c19
                have c19b1 : (t144 != 8) = false := bne_eq_false_iff_eq.mpr c19
                clear c19
                by_cases c20 : t149 = 1
                · rw [if_pos c20] at H
                  have c20b0 : (t149 == 1) = true := beq_iff_eq.mpr c20
                  have c20b1 : (t149 != 1) = false := bne_eq_false_iff_eq.mpr c20
                  clear c20
                  obtain ⟨y178, hy178⟩ : ∃ y_ : List Int, y_ = (([0, 4, 8, 11] : List Int)) := ⟨_, rfl⟩
                  replace H : ((papermillref08_Ints.f k t154 y178).bind fun t181 => (if t181 = true then ((papermillref35_Same.f k t164 (([(⟨0, 0⟩ : S47), (⟨2, 12⟩ : S47), (⟨1, (-2)⟩ : S47)] : List (S47)))).bind fun t185 => (if t185 = true then (if t171 = true then (some false) else (some t176)) else (some false))) else (some false))) = some r := by first | (rw [hy178]; with_reducible exact H) | (have H2_ := (Option.bind_some _ _).symm.trans H; rw [hy178]; with_reducible exact H2_) | (have H2_ := (Option.bind_some _ _).symm.trans H; with_reducible exact H2_) | with_reducible exact H | (rw [hy178]; exact H) | exact H
                  have Ny178 := Aside0.mk hy178
                  clear hy178
                  replace H := Option.bind_eq_some_iff.mp H
                  obtain ⟨t181, A210, H⟩ := H
                  replace H : (if t181 = true then ((papermillref35_Same.f k t164 (([(⟨0, 0⟩ : S47), (⟨2, 12⟩ : S47), (⟨1, (-2)⟩ : S47)] : List (S47)))).bind fun t185 => (if t185 = true then (if t171 = true then (some false) else (some t176)) else (some false))) else (some false)) = some r := H
                  have A21 := Aside0.mk A210
                  clear A210
                  by_cases c22 : t181 = true
                  · subst c22
                    have H1 : ((papermillref35_Same.f k t164 (([(⟨0, 0⟩ : S47), (⟨2, 12⟩ : S47), (⟨1, (-2)⟩ : S47)] : List (S47)))).bind fun t185 => (if t185 = true then (if t171 = true then (some false) else (some t176)) else (some false))) = some r := by rw [if_pos rfl] at H; exact H
                    clear H
                    have H := H1
                    clear H1
                    obtain ⟨y182, hy182⟩ : ∃ y_ : List (S47), y_ = (([(⟨0, 0⟩ : S47), (⟨2, 12⟩ : S47), (⟨1, (-2)⟩ : S47)] : List (S47))) := ⟨_, rfl⟩
                    replace H : ((papermillref35_Same.f k t164 y182).bind fun t185 => (if t185 = true then (if t171 = true then (some false) else (some t176)) else (some false))) = some r := by first | (rw [hy182]; with_reducible exact H) | (have H2_ := (Option.bind_some _ _).symm.trans H; rw [hy182]; with_reducible exact H2_) | (have H2_ := (Option.bind_some _ _).symm.trans H; with_reducible exact H2_) | with_reducible exact H | (rw [hy182]; exact H) | exact H
                    have Ny182 := Aside0.mk hy182
                    clear hy182
                    replace H := Option.bind_eq_some_iff.mp H
                    obtain ⟨t185, A230, H⟩ := H
                    replace H : (if t185 = true then (if t171 = true then (some false) else (some t176)) else (some false)) = some r := H
                    have A23 := Aside0.mk A230
                    clear A230
                    by_cases c24 : t185 = true
                    · subst c24
                      have H1 : (if t171 = true then (some false) else (some t176)) = some r := by rw [if_pos rfl] at H; exact H
                      clear H
                      have H := H1
                      clear H1
                      by_cases c25 : t171 = true
                      · subst c25
                        have H1 : (some false) = some r := by rw [if_pos rfl] at H; exact H
                        clear H
                        have H := H1
                        clear H1
                        exact absurd ((Option.some.inj H).trans hr_.out) (by decide)
                      · replace c25 := Bool.eq_false_iff.mpr c25
                        subst c25
                        have H1 : (some t176) = some r := by rw [if_neg (show ¬ (false = true) by decide)] at H; exact H
                        clear H
                        have H := H1
                        clear H1
                        first
                          | exact absurd ((Option.some.inj H).trans hr_.out) (by decide)
                          | (skip
                             obtain rfl := Option.some.inj H
                             go_enter Try.func16, Try.ntmps16
                             go_wp2_with (first | ((with_reducible refine gate_callee (f := 30) rfl ?_); refine goesL_ (some 14) rfl rfl Try.func30 (by kernel_rfl) rfl #[] rfl (by (try simp only [List.map_toArray, List.map_cons, List.map_nil]); first | done | rfl | (simp only [List.length_drop, List.length_take]; rfl)) ?_; (with_reducible refine (papermilllaw35_sensor.calls  t141 t142 t143 _ A1.out).mono ?_); rintro e w49 ⟨rfl, hb⟩; refine ⟨_, rfl, ?_⟩; have n0_ := Aside0.mk (below_step (by repeat (first | (with_reducible first | exact HB.out | apply below_alloc | apply pw_below_drewN | apply below_drew1) | exact HB.out)) hb); clear HB; have HB := n0_; clear n0_; (try clear hb); (try clear hb2); (try clear hk); (try clear hi)) | ((with_reducible refine gate_callee (f := 10) rfl ?_); refine goesL_ (some 15) rfl rfl Try.func10 (by kernel_rfl) rfl #[.agg #[.int .i64 t141, .int .i64 t142, .int .i64 t143], .int .i64 3] rfl (by (try simp only [List.map_toArray, List.map_cons, List.map_nil]); first | done | rfl | (simp only [List.length_drop, List.length_take]; rfl)) ?_; (with_reducible refine (scan_Place.calls t141 t142 t143 3 t144 t145 _ A2.out).mono ?_); rintro e w50 ⟨rfl, hb⟩; refine ⟨_, rfl, ?_⟩; have n0_ := Aside0.mk (below_step (by repeat (first | (with_reducible first | exact HB.out | apply below_alloc | apply pw_below_drewN | apply below_drew1) | exact HB.out)) hb); clear HB; have HB := n0_; clear n0_; (try clear hb); (try clear hb2); (try clear hk); (try clear hi)) | ((with_reducible refine gate_callee (f := 30) rfl ?_); refine goesL_ (some 19) rfl rfl Try.func30 (by kernel_rfl) rfl #[] rfl (by (try simp only [List.map_toArray, List.map_cons, List.map_nil]); first | done | rfl | (simp only [List.length_drop, List.length_take]; rfl)) ?_; (with_reducible refine (papermilllaw35_sensor.calls  t146 t147 t148 _ A3.out).mono ?_); rintro e w51 ⟨rfl, hb⟩; refine ⟨_, rfl, ?_⟩; have n0_ := Aside0.mk (below_step (by repeat (first | (with_reducible first | exact HB.out | apply below_alloc | apply pw_below_drewN | apply below_drew1) | exact HB.out)) hb); clear HB; have HB := n0_; clear n0_; (try clear hb); (try clear hb2); (try clear hk); (try clear hi)) | ((with_reducible refine gate_callee (f := 12) rfl ?_); refine goesL_ (some 20) rfl rfl Try.func12 (by kernel_rfl) rfl #[.agg #[.int .i64 t146, .int .i64 t147, .int .i64 t148], .int .i64 4] rfl (by (try simp only [List.map_toArray, List.map_cons, List.map_nil]); first | done | rfl | (simp only [List.length_drop, List.length_take]; rfl)) ?_; (with_reducible refine (scan_Box.calls t146 t147 t148 4 t149 t150 _ A4.out).mono ?_); rintro e w52 ⟨rfl, hb⟩; refine ⟨_, rfl, ?_⟩; have n0_ := Aside0.mk (below_step (by repeat (first | (with_reducible first | exact HB.out | apply below_alloc | apply pw_below_drewN | apply below_drew1) | exact HB.out)) hb); clear HB; have HB := n0_; clear n0_; (try clear hb); (try clear hb2); (try clear hk); (try clear hi)) | ((with_reducible refine gate_callee (f := 30) rfl ?_); refine goesL_ (some 24) rfl rfl Try.func30 (by kernel_rfl) rfl #[] rfl (by (try simp only [List.map_toArray, List.map_cons, List.map_nil]); first | done | rfl | (simp only [List.length_drop, List.length_take]; rfl)) ?_; (with_reducible refine (papermilllaw35_sensor.calls  t151 t152 t153 _ A5.out).mono ?_); rintro e w53 ⟨rfl, hb⟩; refine ⟨_, rfl, ?_⟩; have n0_ := Aside0.mk (below_step (by repeat (first | (with_reducible first | exact HB.out | apply below_alloc | apply pw_below_drewN | apply below_drew1) | exact HB.out)) hb); clear HB; have HB := n0_; clear n0_; (try clear hb); (try clear hb2); (try clear hk); (try clear hi)) | ((with_reducible refine gate_callee (f := 17) rfl ?_); refine goesL_ (some 25) rfl rfl Try.func17 (by kernel_rfl) rfl #[.agg #[.int .i64 t151, .int .i64 t152, .int .i64 t153]] rfl (by (try simp only [List.map_toArray, List.map_cons, List.map_nil]); first | done | rfl | (simp only [List.length_drop, List.length_take]; rfl)) ?_; (with_reducible refine (scan_Edges.calls t151 t152 t153 t154 t157 _ A6.out).mono ?_); rintro e w54 ⟨v155, rfl, ho0, hb⟩; refine ⟨_, rfl, ?_⟩; have n0_ := Aside0.mk (Kd.R_lower ho0 (below_size (by repeat (first | (with_reducible first | exact HB.out | apply below_alloc | apply pw_below_drewN | apply below_drew1) | exact HB.out)))); have n1_ := Aside0.mk (below_step (by repeat (first | (with_reducible first | exact HB.out | apply below_alloc | apply pw_below_drewN | apply below_drew1) | exact HB.out)) hb); clear HB; have HO156 := n0_; have HB := n1_; clear n0_ n1_; (try clear hb); (try clear hb2); (try clear hk); (try clear hi); (try clear ho0)) | ((with_reducible refine gate_callee (f := 30) rfl ?_); refine goesL_ (some 29) rfl rfl Try.func30 (by kernel_rfl) rfl #[] rfl (by (try simp only [List.map_toArray, List.map_cons, List.map_nil]); first | done | rfl | (simp only [List.length_drop, List.length_take]; rfl)) ?_; (with_reducible refine (papermilllaw35_sensor.calls  t158 t159 t160 _ A7.out).mono ?_); rintro e w55 ⟨rfl, hb⟩; refine ⟨_, rfl, ?_⟩; have n0_ := Aside0.mk (Kd.R_below (by (with_reducible repeat (first | apply Kd.R_alloc | apply Kd.R_drewN | apply Kd.R_drew)); exact HO156.out) hb); have n1_ := Aside0.mk (below_step (by repeat (first | (with_reducible first | exact HB.out | apply below_alloc | apply pw_below_drewN | apply below_drew1) | exact HB.out)) hb); clear HO156; clear HB; have HO156 := n0_; have HB := n1_; clear n0_ n1_; (try clear hb); (try clear hb2); (try clear hk); (try clear hi)) | ((with_reducible refine gate_dst (N := 33) rfl ?_); (try (refine gate_guard (by rfl) ?_; dsimp only)); refine Kd.R_lit k49 _ 49 ?hg (N := 33) ?hd (xs := ([(⟨1, 5⟩ : S49), (⟨4, 7⟩ : S49), (⟨2, (-2)⟩ : S49)] : List (S49))) (inner := [.int .i64 1, .int .i64 5, .int .i64 4, .int .i64 7, .int .i64 2, .int .i64 (-2)]) (ok := fun _ => True) (okp := fun _ => True) ?hr ?hp (fun _ hk => hk) trivial (Below.refl _ _) (Nat.le_refl _) (by simp) ?_; (case hd => rfl); (case hg => rfl); (case hr => first | (go_simp; done) | (go_simp; rfl)); (case hp => exact (Reps.c2 (show Kd.M k49 _ _ _ (⟨1, 5⟩ : S49) [.int .i64 1, .int .i64 5] from (k49_mkM _ _ _ (⟨1, 5⟩ : S49) )) (Reps.c2 (show Kd.M k49 _ _ _ (⟨4, 7⟩ : S49) [.int .i64 4, .int .i64 7] from (k49_mkM _ _ _ (⟨4, 7⟩ : S49) )) (Reps.c2 (show Kd.M k49 _ _ _ (⟨2, (-2)⟩ : S49) [.int .i64 2, .int .i64 (-2)] from (k49_mkM _ _ _ (⟨2, (-2)⟩ : S49) )) (Reps.none _ _))))); intro v162 w56 ho57 hb hg_ hnew_; clear hg_ hnew_; (first | rw [← Ny161.out] at ho57 | (simp only [Int.reduceToNat] at ho57; rw [← Ny161.out] at ho57)); have n0_ := Aside0.mk (Kd.R_below (by (with_reducible repeat (first | apply Kd.R_alloc | apply Kd.R_drewN | apply Kd.R_drew)); exact HO156.out) hb); have n1_ := Aside0.mk (Kd.R_lower ho57 (below_size (by repeat (first | (with_reducible first | exact HB.out | apply below_alloc | apply pw_below_drewN | apply below_drew1) | exact HB.out)))); have n2_ := Aside0.mk (below_step (by repeat (first | (with_reducible first | exact HB.out | apply below_alloc | apply pw_below_drewN | apply below_drew1) | exact HB.out)) hb); clear HO156; clear HB; have HO156 := n0_; have HO163 := n1_; have HB := n2_; clear n0_ n1_ n2_; clear hb ho57; obtain ⟨Ao58, co58, eo58⟩ := Kd.R_slice HO163.out; subst eo58) | ((with_reducible refine gate_callee (f := 20) rfl ?_); refine goesL_ (some 34) rfl rfl Try.func20 (by kernel_rfl) rfl #[.agg #[.int .i64 t158, .int .i64 t159, .int .i64 t160], .slice Ao58 y161.length co58] rfl (by (try simp only [List.map_toArray, List.map_cons, List.map_nil]); first | done | rfl | (simp only [List.length_drop, List.length_take]; rfl)) ?_; (with_reducible refine (scan_Profile.calls t158 t159 t160 _ _ y161 t164 t167 _ ?side1 ?side2 A8.out).mono ?_); (case side1 => repeat (first | exact (Kd.R_reads' HO163.out).2.2 | (with_reducible refine Kd.C_alloc ?_ _) | (with_reducible refine Kd.C_drewN ?_ _) | (with_reducible refine Kd.C_drew ?_))); (case side2 => exact (Kd.R_reads' HO163.out).2.1); rintro e w59 ⟨v165, rfl, ho0, hb⟩; refine ⟨_, rfl, ?_⟩; have n0_ := Aside0.mk (Kd.R_below (by (with_reducible repeat (first | apply Kd.R_alloc | apply Kd.R_drewN | apply Kd.R_drew)); exact HO156.out) hb); have n1_ := Aside0.mk (Kd.R_below (by (with_reducible repeat (first | apply Kd.R_alloc | apply Kd.R_drewN | apply Kd.R_drew)); exact HO163.out) hb); have n2_ := Aside0.mk (Kd.R_lower ho0 (below_size (by repeat (first | (with_reducible first | exact HB.out | apply below_alloc | apply pw_below_drewN | apply below_drew1) | exact HB.out)))); have n3_ := Aside0.mk (below_step (by repeat (first | (with_reducible first | exact HB.out | apply below_alloc | apply pw_below_drewN | apply below_drew1) | exact HB.out)) hb); clear HO156; clear HO163; clear HB; have HO156 := n0_; have HO163 := n1_; have HO166 := n2_; have HB := n3_; clear n0_ n1_ n2_ n3_; (try clear hb); (try clear hb2); (try clear hk); (try clear hi); (try clear ho0)) | ((with_reducible refine gate_callee (f := 30) rfl ?_); refine goesL_ (some 38) rfl rfl Try.func30 (by kernel_rfl) rfl #[] rfl (by (try simp only [List.map_toArray, List.map_cons, List.map_nil]); first | done | rfl | (simp only [List.length_drop, List.length_take]; rfl)) ?_; (with_reducible refine (papermilllaw35_sensor.calls  t168 t169 t170 _ A9.out).mono ?_); rintro e w60 ⟨rfl, hb⟩; refine ⟨_, rfl, ?_⟩; have n0_ := Aside0.mk (Kd.R_below (by (with_reducible repeat (first | apply Kd.R_alloc | apply Kd.R_drewN | apply Kd.R_drew)); exact HO156.out) hb); have n1_ := Aside0.mk (Kd.R_below (by (with_reducible repeat (first | apply Kd.R_alloc | apply Kd.R_drewN | apply Kd.R_drew)); exact HO163.out) hb); have n2_ := Aside0.mk (Kd.R_below (by (with_reducible repeat (first | apply Kd.R_alloc | apply Kd.R_drewN | apply Kd.R_drew)); exact HO166.out) hb); have n3_ := Aside0.mk (below_step (by repeat (first | (with_reducible first | exact HB.out | apply below_alloc | apply pw_below_drewN | apply below_drew1) | exact HB.out)) hb); clear HO156; clear HO163; clear HO166; clear HB; have HO156 := n0_; have HO163 := n1_; have HO166 := n2_; have HB := n3_; clear n0_ n1_ n2_ n3_; (try clear hb); (try clear hb2); (try clear hk); (try clear hi)) | ((with_reducible refine gate_callee (f := 23) rfl ?_); refine goesL_ (some 40) rfl rfl Try.func23 (by kernel_rfl) rfl #[.agg #[.int .i64 t168, .int .i64 t169, .int .i64 t170], .agg #[.int .i64 1, .int .i64 3]] rfl (by (try simp only [List.map_toArray, List.map_cons, List.map_nil]); first | done | rfl | (simp only [List.length_drop, List.length_take]; rfl)) ?_; (with_reducible refine (scan_Covered.calls k t168 t169 t170 1 3 false t172 _ A10.out).mono ?_); rintro e w61 ⟨rfl, hb⟩; refine ⟨_, rfl, ?_⟩; have n0_ := Aside0.mk (Kd.R_below (by (with_reducible repeat (first | apply Kd.R_alloc | apply Kd.R_drewN | apply Kd.R_drew)); exact HO156.out) hb); have n1_ := Aside0.mk (Kd.R_below (by (with_reducible repeat (first | apply Kd.R_alloc | apply Kd.R_drewN | apply Kd.R_drew)); exact HO163.out) hb); have n2_ := Aside0.mk (Kd.R_below (by (with_reducible repeat (first | apply Kd.R_alloc | apply Kd.R_drewN | apply Kd.R_drew)); exact HO166.out) hb); have n3_ := Aside0.mk (below_step (by repeat (first | (with_reducible first | exact HB.out | apply below_alloc | apply pw_below_drewN | apply below_drew1) | exact HB.out)) hb); clear HO156; clear HO163; clear HO166; clear HB; have HO156 := n0_; have HO163 := n1_; have HO166 := n2_; have HB := n3_; clear n0_ n1_ n2_ n3_; (try clear hb); (try clear hb2); (try clear hk); (try clear hi)) | ((with_reducible refine gate_callee (f := 30) rfl ?_); refine goesL_ (some 44) rfl rfl Try.func30 (by kernel_rfl) rfl #[] rfl (by (try simp only [List.map_toArray, List.map_cons, List.map_nil]); first | done | rfl | (simp only [List.length_drop, List.length_take]; rfl)) ?_; (with_reducible refine (papermilllaw35_sensor.calls  t173 t174 t175 _ A11.out).mono ?_); rintro e w62 ⟨rfl, hb⟩; refine ⟨_, rfl, ?_⟩; have n0_ := Aside0.mk (Kd.R_below (by (with_reducible repeat (first | apply Kd.R_alloc | apply Kd.R_drewN | apply Kd.R_drew)); exact HO156.out) hb); have n1_ := Aside0.mk (Kd.R_below (by (with_reducible repeat (first | apply Kd.R_alloc | apply Kd.R_drewN | apply Kd.R_drew)); exact HO163.out) hb); have n2_ := Aside0.mk (Kd.R_below (by (with_reducible repeat (first | apply Kd.R_alloc | apply Kd.R_drewN | apply Kd.R_drew)); exact HO166.out) hb); have n3_ := Aside0.mk (below_step (by repeat (first | (with_reducible first | exact HB.out | apply below_alloc | apply pw_below_drewN | apply below_drew1) | exact HB.out)) hb); clear HO156; clear HO163; clear HO166; clear HB; have HO156 := n0_; have HO163 := n1_; have HO166 := n2_; have HB := n3_; clear n0_ n1_ n2_ n3_; (try clear hb); (try clear hb2); (try clear hk); (try clear hi)) | ((with_reducible refine gate_callee (f := 23) rfl ?_); refine goesL_ (some 46) rfl rfl Try.func23 (by kernel_rfl) rfl #[.agg #[.int .i64 t173, .int .i64 t174, .int .i64 t175], .agg #[.int .i64 0, .int .i64 3]] rfl (by (try simp only [List.map_toArray, List.map_cons, List.map_nil]); first | done | rfl | (simp only [List.length_drop, List.length_take]; rfl)) ?_; (with_reducible refine (scan_Covered.calls k t173 t174 t175 0 3 t176 t177 _ A12.out).mono ?_); rintro e w63 ⟨rfl, hb⟩; refine ⟨_, rfl, ?_⟩; have n0_ := Aside0.mk (Kd.R_below (by (with_reducible repeat (first | apply Kd.R_alloc | apply Kd.R_drewN | apply Kd.R_drew)); exact HO156.out) hb); have n1_ := Aside0.mk (Kd.R_below (by (with_reducible repeat (first | apply Kd.R_alloc | apply Kd.R_drewN | apply Kd.R_drew)); exact HO163.out) hb); have n2_ := Aside0.mk (Kd.R_below (by (with_reducible repeat (first | apply Kd.R_alloc | apply Kd.R_drewN | apply Kd.R_drew)); exact HO166.out) hb); have n3_ := Aside0.mk (below_step (by repeat (first | (with_reducible first | exact HB.out | apply below_alloc | apply pw_below_drewN | apply below_drew1) | exact HB.out)) hb); clear HO156; clear HO163; clear HO166; clear HB; have HO156 := n0_; have HO163 := n1_; have HO166 := n2_; have HB := n3_; clear n0_ n1_ n2_ n3_; (try clear hb); (try clear hb2); (try clear hk); (try clear hi)) | ((with_reducible refine gate_dst (N := 81) rfl ?_); (try (refine gate_guard (by rfl) ?_; dsimp only)); refine Kd.R_lit (Kd.int .i64) _ 3 ?hg (N := 81) ?hd (xs := ([0, 4, 8, 11] : List Int)) (inner := [.int .i64 0, .int .i64 4, .int .i64 8, .int .i64 11]) (ok := fun _ => True) (okp := fun _ => True) ?hr ?hp (fun _ hk => hk) trivial (Below.refl _ _) (Nat.le_refl _) (by simp) ?_; (case hd => rfl); (case hg => rfl); (case hr => first | (go_simp; done) | (go_simp; rfl)); (case hp => exact (Reps.one (show Kd.M (Kd.int .i64) _ _ _ 0 [.int .i64 0] from rfl) (Reps.one (show Kd.M (Kd.int .i64) _ _ _ 4 [.int .i64 4] from rfl) (Reps.one (show Kd.M (Kd.int .i64) _ _ _ 8 [.int .i64 8] from rfl) (Reps.one (show Kd.M (Kd.int .i64) _ _ _ 11 [.int .i64 11] from rfl) (Reps.none _ _)))))); intro v179 w64 ho65 hb hg_ hnew_; clear hg_ hnew_; (first | rw [← Ny178.out] at ho65 | (simp only [Int.reduceToNat] at ho65; rw [← Ny178.out] at ho65)); have n0_ := Aside0.mk (Kd.R_elder' (by (with_reducible repeat (first | apply Kd.R_alloc | apply Kd.R_drewN | apply Kd.R_drew)); exact HO156.out) (Kd.R_base ho65) hb); have n1_ := Aside0.mk (Kd.R_below (by (with_reducible repeat (first | apply Kd.R_alloc | apply Kd.R_drewN | apply Kd.R_drew)); exact HO163.out) hb); have n2_ := Aside0.mk (Kd.R_below (by (with_reducible repeat (first | apply Kd.R_alloc | apply Kd.R_drewN | apply Kd.R_drew)); exact HO166.out) hb); have n3_ := Aside0.mk (Kd.R_lower (Kd.R_new' ho65 (Kd.R_lt (by (with_reducible repeat (first | apply Kd.R_alloc | apply Kd.R_drewN | apply Kd.R_drew)); exact HO156.out))) (below_size (by repeat (first | (with_reducible first | exact HB.out | apply below_alloc | apply pw_below_drewN | apply below_drew1) | exact HB.out)))); have n4_ := Aside0.mk (below_step (by repeat (first | (with_reducible first | exact HB.out | apply below_alloc | apply pw_below_drewN | apply below_drew1) | exact HB.out)) hb); clear HO156; clear HO163; clear HO166; clear HB; have HO156 := n0_; have HO163 := n1_; have HO166 := n2_; have HO180 := n3_; have HB := n4_; clear n0_ n1_ n2_ n3_ n4_; clear hb ho65; obtain ⟨Ao66, co66, eo66⟩ := Kd.R_slice HO156.out; subst eo66; obtain ⟨Ao67, co67, eo67⟩ := Kd.R_slice HO180.out; subst eo67) | (go_at_call 19; (with_reducible refine (papermillref08_Ints.calls k _ _ t154 _ _ y178 true _ ?side1 ?side2 ?side3 ?side4 A21.out).mono ?_); (case side1 => repeat (first | exact (Kd.R_reads' HO156.out).2.2 | (with_reducible refine Kd.C_alloc ?_ _) | (with_reducible refine Kd.C_drewN ?_ _) | (with_reducible refine Kd.C_drew ?_))); (case side2 => exact (Kd.R_reads' HO156.out).2.1); (case side3 => repeat (first | exact (Kd.R_reads' HO180.out).2.2 | (with_reducible refine Kd.C_alloc ?_ _) | (with_reducible refine Kd.C_drewN ?_ _) | (with_reducible refine Kd.C_drew ?_))); (case side4 => exact (Kd.R_reads' HO180.out).2.1); rintro e w' ⟨rfl, ⟨nd, rfl⟩⟩) | ((with_reducible refine gate_dst (N := 89) rfl ?_); (try (refine gate_guard (by rfl) ?_; dsimp only)); refine Kd.R_lit k47 _ 47 ?hg (N := 89) ?hd (xs := ([(⟨0, 0⟩ : S47), (⟨2, 12⟩ : S47), (⟨1, (-2)⟩ : S47)] : List (S47))) (inner := [.int .i64 0, .int .i64 0, .int .i64 2, .int .i64 12, .int .i64 1, .int .i64 (-2)]) (ok := fun _ => True) (okp := fun _ => True) ?hr ?hp (fun _ hk => hk) trivial (Below.refl _ _) (Nat.le_refl _) (by simp) ?_; (case hd => rfl); (case hg => rfl); (case hr => first | (go_simp; done) | (go_simp; rfl)); (case hp => exact (Reps.c2 (show Kd.M k47 _ _ _ (⟨0, 0⟩ : S47) [.int .i64 0, .int .i64 0] from (k47_mkM _ _ _ (⟨0, 0⟩ : S47) )) (Reps.c2 (show Kd.M k47 _ _ _ (⟨2, 12⟩ : S47) [.int .i64 2, .int .i64 12] from (k47_mkM _ _ _ (⟨2, 12⟩ : S47) )) (Reps.c2 (show Kd.M k47 _ _ _ (⟨1, (-2)⟩ : S47) [.int .i64 1, .int .i64 (-2)] from (k47_mkM _ _ _ (⟨1, (-2)⟩ : S47) )) (Reps.none _ _))))); intro v183 w68 ho69 hb hg_ hnew_; clear hg_ hnew_; (first | rw [← Ny182.out] at ho69 | (simp only [Int.reduceToNat] at ho69; rw [← Ny182.out] at ho69)); have n0_ := Aside0.mk (Kd.R_below (by (with_reducible repeat (first | apply Kd.R_alloc | apply Kd.R_drewN | apply Kd.R_drew)); exact HO156.out) hb); have n1_ := Aside0.mk (Kd.R_below (by (with_reducible repeat (first | apply Kd.R_alloc | apply Kd.R_drewN | apply Kd.R_drew)); exact HO163.out) hb); have n2_ := Aside0.mk (Kd.R_elder' (by (with_reducible repeat (first | apply Kd.R_alloc | apply Kd.R_drewN | apply Kd.R_drew)); exact HO166.out) (Kd.R_base ho69) hb); have n3_ := Aside0.mk (Kd.R_below (by (with_reducible repeat (first | apply Kd.R_alloc | apply Kd.R_drewN | apply Kd.R_drew)); exact HO180.out) hb); have n4_ := Aside0.mk (Kd.R_lower (Kd.R_new' ho69 (Kd.R_lt (by (with_reducible repeat (first | apply Kd.R_alloc | apply Kd.R_drewN | apply Kd.R_drew)); exact HO166.out))) (below_size (by repeat (first | (with_reducible first | exact HB.out | apply below_alloc | apply pw_below_drewN | apply below_drew1) | exact HB.out)))); have n5_ := Aside0.mk (below_step (by repeat (first | (with_reducible first | exact HB.out | apply below_alloc | apply pw_below_drewN | apply below_drew1) | exact HB.out)) hb); clear HO156; clear HO163; clear HO166; clear HO180; clear HB; have HO156 := n0_; have HO163 := n1_; have HO166 := n2_; have HO180 := n3_; have HO184 := n4_; have HB := n5_; clear n0_ n1_ n2_ n3_ n4_ n5_; clear hb ho69; obtain ⟨Ao70, co70, eo70⟩ := Kd.R_slice HO166.out; subst eo70; obtain ⟨Ao71, co71, eo71⟩ := Kd.R_slice HO184.out; subst eo71) | (go_at_call 22; (with_reducible refine (papermillref35_Same.calls k _ _ t164 _ _ y182 true _ ?side1 ?side2 ?side3 ?side4 A23.out).mono ?_); (case side1 => repeat (first | exact (Kd.R_reads' HO166.out).2.2 | (with_reducible refine Kd.C_alloc ?_ _) | (with_reducible refine Kd.C_drewN ?_ _) | (with_reducible refine Kd.C_drew ?_))); (case side2 => exact (Kd.R_reads' HO166.out).2.1); (case side3 => repeat (first | exact (Kd.R_reads' HO184.out).2.2 | (with_reducible refine Kd.C_alloc ?_ _) | (with_reducible refine Kd.C_drewN ?_ _) | (with_reducible refine Kd.C_drew ?_))); (case side4 => exact (Kd.R_reads' HO184.out).2.1); rintro e w' ⟨rfl, ⟨nd, rfl⟩⟩))
                             go_ret
                             exact ⟨by first | rfl | (simp [errW_none, errW_some] <;> rfl) | (simp [*, errW_none, errW_some] <;> rfl), by repeat (first | (with_reducible first | exact HB.out | apply below_alloc | apply pw_below_drewN | apply below_drew1) | exact HB.out)⟩)
                    · replace c24 := Bool.eq_false_iff.mpr c24
                      subst c24
                      have H1 : (some false) = some r := by rw [if_neg (show ¬ (false = true) by decide)] at H; exact H
                      clear H
                      have H := H1
                      clear H1
                      exact absurd ((Option.some.inj H).trans hr_.out) (by decide)
                  · replace c22 := Bool.eq_false_iff.mpr c22
                    subst c22
                    have H1 : (some false) = some r := by rw [if_neg (show ¬ (false = true) by decide)] at H; exact H
                    clear H
                    have H := H1
                    clear H1
                    exact absurd ((Option.some.inj H).trans hr_.out) (by decide)
                · rw [if_neg c20] at H
                  have c20b0 : (t149 == 1) = false := beq_eq_false_iff_ne.mpr c20
                  have c20b1 : (t149 != 1) = true := bne_iff_ne.mpr c20
                  exact absurd ((Option.some.inj H).trans hr_.out) (by decide)
              · rw [if_neg c19] at H
                have c19b0 : (t144 == 8) = false := beq_eq_false_iff_ne.mpr c19
                have c19b1 : (t144 != 8) = true := bne_iff_ne.mpr c19
                exact absurd ((Option.some.inj H).trans hr_.out) (by decide)
            · rw [if_neg c18] at H
              have c18b0 : (t177 == 0) = false := beq_eq_false_iff_ne.mpr c18
              have c18b1 : (t177 != 0) = true := bne_iff_ne.mpr c18
              exact absurd ((Option.some.inj H).trans hr_.out) (by decide)
          · rw [if_neg c17] at H
            have c17b0 : (t172 == 0) = false := beq_eq_false_iff_ne.mpr c17
            have c17b1 : (t172 != 0) = true := bne_iff_ne.mpr c17
            exact absurd ((Option.some.inj H).trans hr_.out) (by decide)
        · rw [if_neg c16] at H
          have c16b0 : (t167 == 0) = false := beq_eq_false_iff_ne.mpr c16
          have c16b1 : (t167 != 0) = true := bne_iff_ne.mpr c16
          exact absurd ((Option.some.inj H).trans hr_.out) (by decide)
      · rw [if_neg c15] at H
        have c15b0 : (t157 == 0) = false := beq_eq_false_iff_ne.mpr c15
        have c15b1 : (t157 != 0) = true := bne_iff_ne.mpr c15
        exact absurd ((Option.some.inj H).trans hr_.out) (by decide)
    · rw [if_neg c14] at H
      have c14b0 : (t150 == 0) = false := beq_eq_false_iff_ne.mpr c14
      have c14b1 : (t150 != 0) = true := bne_iff_ne.mpr c14
      exact absurd ((Option.some.inj H).trans hr_.out) (by decide)
  · rw [if_neg c13] at H
    have c13b0 : (t145 == 0) = false := beq_eq_false_iff_ne.mpr c13
    have c13b1 : (t145 != 0) = true := bne_iff_ne.mpr c13
    exact absurd ((Option.some.inj H).trans hr_.out) (by decide)

def papermilllaw35_awake.f (k : Nat) : Option Bool := (papermilllaw35_awake.g k ).bind fun b => if b = true then some b else none
theorem papermilllaw35_awake.mono : ∀ k, LeO (papermilllaw35_awake.f k) (papermilllaw35_awake.f (k + 1)) := fun k => LeO.bind (papermilllaw35_awake.gmono k) (fun _ => LeO.refl _)
theorem papermilllaw35_awake.calls (k : Nat) (r : Bool) (w : World) (h : papermilllaw35_awake.f k = some r) :
    Calls Try.prog 16 #[] w fun e w' => e = .returned (.bool r) ∧ Below w.heap.size w w' := by
  obtain ⟨b, hb, h2⟩ := Option.bind_eq_some_iff.mp h
  have e : b = true ∧ r = true := by
    cases b with
    | true => exact ⟨rfl, (Option.some.inj h2).symm⟩
    | false => simp at h2
  obtain ⟨rfl, rfl⟩ := e
  exact papermilllaw35_awake.gcalls k true w ⟨rfl⟩ hb

end Go.Proofs.Ytcpmnimjlhfdmaa.P
