-- Written by a program (wip/prog/pp.py) over the kit's print; some of its functions are proved by hand. Not trusted: Lean checks it.
import Derived.Test.YtnkmeocccbkdkaaPx0
import Derived.Test.YtnkmeocccbkdkaaPx27
import Derived.Test.YtnkmeocccbkdkaaPx28
import Derived.Test.YtnkmeocccbkdkaaPx29
import Derived.Test.YtnkmeocccbkdkaaPx1
import Derived.Test.YtnkmeocccbkdkaaPx31
import Derived.Test.YtnkmeocccbkdkaaHandEdges
import Derived.Test.YtnkmeocccbkdkaaHandProfile
namespace Go.Proofs.Ytnkmeocccbkdkaa.P
open Go.RowKit Go.Proofs.YtnkmeocccbkdkaaW.PrintWords Go.Proofs.YtnkmeocccbkdkaaW.PrintLast Go.Proofs.YtnkmeocccbkdkaaW.PrintMore
attribute [local go_sem] max2_int min2_int max_two min_two max_three min_three max_four min_four   -- for this text's walks alone
set_option linter.unusedVariables false
set_option linter.unusedSimpArgs false

/-! ### papermilllaw35_awake: function 8 -/
def papermilllaw35_awake.g (k : Nat)  : Option (Bool) := (papermilllaw35_sensor.f).bind fun bt454 => ((scan_Place.f bt454.1 bt454.2.1 bt454.2.2 3).bind fun bt457 => ((papermilllaw35_sensor.f).bind fun bt459 => ((scan_Box.f bt459.1 bt459.2.1 bt459.2.2 4).bind fun bt462 => ((papermilllaw35_sensor.f).bind fun bt464 => ((scan_Edges.f bt464.1 bt464.2.1 bt464.2.2).bind fun bt467 => ((papermilllaw35_sensor.f).bind fun bt471 => ((scan_Profile.f bt471.1 bt471.2.1 bt471.2.2 (([(⟨1, 5⟩ : S52), (⟨4, 7⟩ : S52), (⟨2, (-2)⟩ : S52)] : List (S52)))).bind fun bt477 => ((papermilllaw35_sensor.f).bind fun bt481 => ((scan_Covered.f k bt481.1 bt481.2.1 bt481.2.2 1 3).bind fun bt484 => ((papermilllaw35_sensor.f).bind fun bt486 => ((scan_Covered.f k bt486.1 bt486.2.1 bt486.2.2 0 3).bind fun bt489 => (if bt457.2 = 0 then (if bt462.2 = 0 then (if bt467.2 = 0 then (if bt477.2 = 0 then (if bt484.2 = 0 then (if bt489.2 = 0 then (if bt457.1 = 8 then (if bt462.1 = 1 then ((papermillref08_Ints.f k bt467.1 (([0, 4, 8, 11] : List Int))).bind fun t494 => (if t494 = true then ((papermillref35_Same.f k bt477.1 (([(⟨0, 0⟩ : S23), (⟨2, 12⟩ : S23), (⟨1, (-2)⟩ : S23)] : List (S23)))).bind fun t498 => (if t498 = true then (if bt484.1 = true then (some false) else (some bt489.1)) else (some false))) else (some false))) else (some false)) else (some false)) else (some false)) else (some false)) else (some false)) else (some false)) else (some false)) else (some false)))))))))))))
theorem papermilllaw35_awake.gmono : ∀ k, LeO (papermilllaw35_awake.g k ) (papermilllaw35_awake.g (k + 1) ) := by
  intro  k
  unfold papermilllaw35_awake.g
  repeat' first
      | (with_reducible exact papermillref08_Ints.mono _ _ _)
      | (with_reducible exact papermillref35_Same.mono _ _ _)
      | (with_reducible exact scan_Covered.mono _ _ _ _ _ _)
      | (with_reducible exact LeO.refl _)
      | (with_reducible exact LeO.none _)
      | (with_reducible refine LeO.ite ?_ ?_)
      | (with_reducible refine LeO.bind ?_ (fun _ => ?_))
      | exact papermillref08_Ints.mono _ _ _
      | exact papermillref35_Same.mono _ _ _
      | exact scan_Covered.mono _ _ _ _ _ _
      | exact LeO.none _
      | refine LeO.ite ?_ ?_
      | refine LeO.bind ?_ (fun _ => ?_)
set_option maxHeartbeats 8000000 in
set_option maxRecDepth 100000 in
theorem papermilllaw35_awake.gcalls (k : Nat)  (r : Bool) (w : World) (hr_ : Aside0 (r = true)) (h : papermilllaw35_awake.g k  = some r) :
    Calls Try.prog 8 #[] w fun e w' => e = .returned (.bool r) ∧ Below w.heap.size w w' := by
  have hu52 := Try.underlying52
  have hu57 := Try.underlying57
  have hu23 := Try.underlying23
  have HB := Aside0.mk (Below.refl w.heap.size w)
  have H : ((papermilllaw35_sensor.f).bind fun bt454 => ((scan_Place.f bt454.1 bt454.2.1 bt454.2.2 3).bind fun bt457 => ((papermilllaw35_sensor.f).bind fun bt459 => ((scan_Box.f bt459.1 bt459.2.1 bt459.2.2 4).bind fun bt462 => ((papermilllaw35_sensor.f).bind fun bt464 => ((scan_Edges.f bt464.1 bt464.2.1 bt464.2.2).bind fun bt467 => ((papermilllaw35_sensor.f).bind fun bt471 => ((scan_Profile.f bt471.1 bt471.2.1 bt471.2.2 (([(⟨1, 5⟩ : S52), (⟨4, 7⟩ : S52), (⟨2, (-2)⟩ : S52)] : List (S52)))).bind fun bt477 => ((papermilllaw35_sensor.f).bind fun bt481 => ((scan_Covered.f k bt481.1 bt481.2.1 bt481.2.2 1 3).bind fun bt484 => ((papermilllaw35_sensor.f).bind fun bt486 => ((scan_Covered.f k bt486.1 bt486.2.1 bt486.2.2 0 3).bind fun bt489 => (if bt457.2 = 0 then (if bt462.2 = 0 then (if bt467.2 = 0 then (if bt477.2 = 0 then (if bt484.2 = 0 then (if bt489.2 = 0 then (if bt457.1 = 8 then (if bt462.1 = 1 then ((papermillref08_Ints.f k bt467.1 (([0, 4, 8, 11] : List Int))).bind fun t494 => (if t494 = true then ((papermillref35_Same.f k bt477.1 (([(⟨0, 0⟩ : S23), (⟨2, 12⟩ : S23), (⟨1, (-2)⟩ : S23)] : List (S23)))).bind fun t498 => (if t498 = true then (if bt484.1 = true then (some false) else (some bt489.1)) else (some false))) else (some false))) else (some false)) else (some false)) else (some false)) else (some false)) else (some false)) else (some false)) else (some false)) else (some false)))))))))))))) = some r := h
  clear h
  replace H := Option.bind_eq_some_iff.mp H
  obtain ⟨⟨t454, t455, t456⟩, A10, H⟩ := H
  replace H : ((scan_Place.f t454 t455 t456 3).bind fun bt457 => ((papermilllaw35_sensor.f).bind fun bt459 => ((scan_Box.f bt459.1 bt459.2.1 bt459.2.2 4).bind fun bt462 => ((papermilllaw35_sensor.f).bind fun bt464 => ((scan_Edges.f bt464.1 bt464.2.1 bt464.2.2).bind fun bt467 => ((papermilllaw35_sensor.f).bind fun bt471 => ((scan_Profile.f bt471.1 bt471.2.1 bt471.2.2 (([(⟨1, 5⟩ : S52), (⟨4, 7⟩ : S52), (⟨2, (-2)⟩ : S52)] : List (S52)))).bind fun bt477 => ((papermilllaw35_sensor.f).bind fun bt481 => ((scan_Covered.f k bt481.1 bt481.2.1 bt481.2.2 1 3).bind fun bt484 => ((papermilllaw35_sensor.f).bind fun bt486 => ((scan_Covered.f k bt486.1 bt486.2.1 bt486.2.2 0 3).bind fun bt489 => (if bt457.2 = 0 then (if bt462.2 = 0 then (if bt467.2 = 0 then (if bt477.2 = 0 then (if bt484.2 = 0 then (if bt489.2 = 0 then (if bt457.1 = 8 then (if bt462.1 = 1 then ((papermillref08_Ints.f k bt467.1 (([0, 4, 8, 11] : List Int))).bind fun t494 => (if t494 = true then ((papermillref35_Same.f k bt477.1 (([(⟨0, 0⟩ : S23), (⟨2, 12⟩ : S23), (⟨1, (-2)⟩ : S23)] : List (S23)))).bind fun t498 => (if t498 = true then (if bt484.1 = true then (some false) else (some bt489.1)) else (some false))) else (some false))) else (some false)) else (some false)) else (some false)) else (some false)) else (some false)) else (some false)) else (some false)) else (some false))))))))))))) = some r := H
  have A1 := Aside0.mk A10
  clear A10
  replace H := Option.bind_eq_some_iff.mp H
  obtain ⟨⟨t457, t458⟩, A20, H⟩ := H
  replace H : ((papermilllaw35_sensor.f).bind fun bt459 => ((scan_Box.f bt459.1 bt459.2.1 bt459.2.2 4).bind fun bt462 => ((papermilllaw35_sensor.f).bind fun bt464 => ((scan_Edges.f bt464.1 bt464.2.1 bt464.2.2).bind fun bt467 => ((papermilllaw35_sensor.f).bind fun bt471 => ((scan_Profile.f bt471.1 bt471.2.1 bt471.2.2 (([(⟨1, 5⟩ : S52), (⟨4, 7⟩ : S52), (⟨2, (-2)⟩ : S52)] : List (S52)))).bind fun bt477 => ((papermilllaw35_sensor.f).bind fun bt481 => ((scan_Covered.f k bt481.1 bt481.2.1 bt481.2.2 1 3).bind fun bt484 => ((papermilllaw35_sensor.f).bind fun bt486 => ((scan_Covered.f k bt486.1 bt486.2.1 bt486.2.2 0 3).bind fun bt489 => (if t458 = 0 then (if bt462.2 = 0 then (if bt467.2 = 0 then (if bt477.2 = 0 then (if bt484.2 = 0 then (if bt489.2 = 0 then (if t457 = 8 then (if bt462.1 = 1 then ((papermillref08_Ints.f k bt467.1 (([0, 4, 8, 11] : List Int))).bind fun t494 => (if t494 = true then ((papermillref35_Same.f k bt477.1 (([(⟨0, 0⟩ : S23), (⟨2, 12⟩ : S23), (⟨1, (-2)⟩ : S23)] : List (S23)))).bind fun t498 => (if t498 = true then (if bt484.1 = true then (some false) else (some bt489.1)) else (some false))) else (some false))) else (some false)) else (some false)) else (some false)) else (some false)) else (some false)) else (some false)) else (some false)) else (some false)))))))))))) = some r := H
  have A2 := Aside0.mk A20
  clear A20
  replace H := Option.bind_eq_some_iff.mp H
  obtain ⟨⟨t459, t460, t461⟩, A30, H⟩ := H
  replace H : ((scan_Box.f t459 t460 t461 4).bind fun bt462 => ((papermilllaw35_sensor.f).bind fun bt464 => ((scan_Edges.f bt464.1 bt464.2.1 bt464.2.2).bind fun bt467 => ((papermilllaw35_sensor.f).bind fun bt471 => ((scan_Profile.f bt471.1 bt471.2.1 bt471.2.2 (([(⟨1, 5⟩ : S52), (⟨4, 7⟩ : S52), (⟨2, (-2)⟩ : S52)] : List (S52)))).bind fun bt477 => ((papermilllaw35_sensor.f).bind fun bt481 => ((scan_Covered.f k bt481.1 bt481.2.1 bt481.2.2 1 3).bind fun bt484 => ((papermilllaw35_sensor.f).bind fun bt486 => ((scan_Covered.f k bt486.1 bt486.2.1 bt486.2.2 0 3).bind fun bt489 => (if t458 = 0 then (if bt462.2 = 0 then (if bt467.2 = 0 then (if bt477.2 = 0 then (if bt484.2 = 0 then (if bt489.2 = 0 then (if t457 = 8 then (if bt462.1 = 1 then ((papermillref08_Ints.f k bt467.1 (([0, 4, 8, 11] : List Int))).bind fun t494 => (if t494 = true then ((papermillref35_Same.f k bt477.1 (([(⟨0, 0⟩ : S23), (⟨2, 12⟩ : S23), (⟨1, (-2)⟩ : S23)] : List (S23)))).bind fun t498 => (if t498 = true then (if bt484.1 = true then (some false) else (some bt489.1)) else (some false))) else (some false))) else (some false)) else (some false)) else (some false)) else (some false)) else (some false)) else (some false)) else (some false)) else (some false))))))))))) = some r := H
  have A3 := Aside0.mk A30
  clear A30
  replace H := Option.bind_eq_some_iff.mp H
  obtain ⟨⟨t462, t463⟩, A40, H⟩ := H
  replace H : ((papermilllaw35_sensor.f).bind fun bt464 => ((scan_Edges.f bt464.1 bt464.2.1 bt464.2.2).bind fun bt467 => ((papermilllaw35_sensor.f).bind fun bt471 => ((scan_Profile.f bt471.1 bt471.2.1 bt471.2.2 (([(⟨1, 5⟩ : S52), (⟨4, 7⟩ : S52), (⟨2, (-2)⟩ : S52)] : List (S52)))).bind fun bt477 => ((papermilllaw35_sensor.f).bind fun bt481 => ((scan_Covered.f k bt481.1 bt481.2.1 bt481.2.2 1 3).bind fun bt484 => ((papermilllaw35_sensor.f).bind fun bt486 => ((scan_Covered.f k bt486.1 bt486.2.1 bt486.2.2 0 3).bind fun bt489 => (if t458 = 0 then (if t463 = 0 then (if bt467.2 = 0 then (if bt477.2 = 0 then (if bt484.2 = 0 then (if bt489.2 = 0 then (if t457 = 8 then (if t462 = 1 then ((papermillref08_Ints.f k bt467.1 (([0, 4, 8, 11] : List Int))).bind fun t494 => (if t494 = true then ((papermillref35_Same.f k bt477.1 (([(⟨0, 0⟩ : S23), (⟨2, 12⟩ : S23), (⟨1, (-2)⟩ : S23)] : List (S23)))).bind fun t498 => (if t498 = true then (if bt484.1 = true then (some false) else (some bt489.1)) else (some false))) else (some false))) else (some false)) else (some false)) else (some false)) else (some false)) else (some false)) else (some false)) else (some false)) else (some false)))))))))) = some r := H
  have A4 := Aside0.mk A40
  clear A40
  replace H := Option.bind_eq_some_iff.mp H
  obtain ⟨⟨t464, t465, t466⟩, A50, H⟩ := H
  replace H : ((scan_Edges.f t464 t465 t466).bind fun bt467 => ((papermilllaw35_sensor.f).bind fun bt471 => ((scan_Profile.f bt471.1 bt471.2.1 bt471.2.2 (([(⟨1, 5⟩ : S52), (⟨4, 7⟩ : S52), (⟨2, (-2)⟩ : S52)] : List (S52)))).bind fun bt477 => ((papermilllaw35_sensor.f).bind fun bt481 => ((scan_Covered.f k bt481.1 bt481.2.1 bt481.2.2 1 3).bind fun bt484 => ((papermilllaw35_sensor.f).bind fun bt486 => ((scan_Covered.f k bt486.1 bt486.2.1 bt486.2.2 0 3).bind fun bt489 => (if t458 = 0 then (if t463 = 0 then (if bt467.2 = 0 then (if bt477.2 = 0 then (if bt484.2 = 0 then (if bt489.2 = 0 then (if t457 = 8 then (if t462 = 1 then ((papermillref08_Ints.f k bt467.1 (([0, 4, 8, 11] : List Int))).bind fun t494 => (if t494 = true then ((papermillref35_Same.f k bt477.1 (([(⟨0, 0⟩ : S23), (⟨2, 12⟩ : S23), (⟨1, (-2)⟩ : S23)] : List (S23)))).bind fun t498 => (if t498 = true then (if bt484.1 = true then (some false) else (some bt489.1)) else (some false))) else (some false))) else (some false)) else (some false)) else (some false)) else (some false)) else (some false)) else (some false)) else (some false)) else (some false))))))))) = some r := H
  have A5 := Aside0.mk A50
  clear A50
  replace H := Option.bind_eq_some_iff.mp H
  obtain ⟨⟨t467, t470⟩, A60, H⟩ := H
  replace H : ((papermilllaw35_sensor.f).bind fun bt471 => ((scan_Profile.f bt471.1 bt471.2.1 bt471.2.2 (([(⟨1, 5⟩ : S52), (⟨4, 7⟩ : S52), (⟨2, (-2)⟩ : S52)] : List (S52)))).bind fun bt477 => ((papermilllaw35_sensor.f).bind fun bt481 => ((scan_Covered.f k bt481.1 bt481.2.1 bt481.2.2 1 3).bind fun bt484 => ((papermilllaw35_sensor.f).bind fun bt486 => ((scan_Covered.f k bt486.1 bt486.2.1 bt486.2.2 0 3).bind fun bt489 => (if t458 = 0 then (if t463 = 0 then (if t470 = 0 then (if bt477.2 = 0 then (if bt484.2 = 0 then (if bt489.2 = 0 then (if t457 = 8 then (if t462 = 1 then ((papermillref08_Ints.f k t467 (([0, 4, 8, 11] : List Int))).bind fun t494 => (if t494 = true then ((papermillref35_Same.f k bt477.1 (([(⟨0, 0⟩ : S23), (⟨2, 12⟩ : S23), (⟨1, (-2)⟩ : S23)] : List (S23)))).bind fun t498 => (if t498 = true then (if bt484.1 = true then (some false) else (some bt489.1)) else (some false))) else (some false))) else (some false)) else (some false)) else (some false)) else (some false)) else (some false)) else (some false)) else (some false)) else (some false)))))))) = some r := H
  have A6 := Aside0.mk A60
  clear A60
  replace H := Option.bind_eq_some_iff.mp H
  obtain ⟨⟨t471, t472, t473⟩, A70, H⟩ := H
  replace H : ((scan_Profile.f t471 t472 t473 (([(⟨1, 5⟩ : S52), (⟨4, 7⟩ : S52), (⟨2, (-2)⟩ : S52)] : List (S52)))).bind fun bt477 => ((papermilllaw35_sensor.f).bind fun bt481 => ((scan_Covered.f k bt481.1 bt481.2.1 bt481.2.2 1 3).bind fun bt484 => ((papermilllaw35_sensor.f).bind fun bt486 => ((scan_Covered.f k bt486.1 bt486.2.1 bt486.2.2 0 3).bind fun bt489 => (if t458 = 0 then (if t463 = 0 then (if t470 = 0 then (if bt477.2 = 0 then (if bt484.2 = 0 then (if bt489.2 = 0 then (if t457 = 8 then (if t462 = 1 then ((papermillref08_Ints.f k t467 (([0, 4, 8, 11] : List Int))).bind fun t494 => (if t494 = true then ((papermillref35_Same.f k bt477.1 (([(⟨0, 0⟩ : S23), (⟨2, 12⟩ : S23), (⟨1, (-2)⟩ : S23)] : List (S23)))).bind fun t498 => (if t498 = true then (if bt484.1 = true then (some false) else (some bt489.1)) else (some false))) else (some false))) else (some false)) else (some false)) else (some false)) else (some false)) else (some false)) else (some false)) else (some false)) else (some false))))))) = some r := H
  have A7 := Aside0.mk A70
  clear A70
  obtain ⟨y474, hy474⟩ : ∃ y_ : List (S52), y_ = (([(⟨1, 5⟩ : S52), (⟨4, 7⟩ : S52), (⟨2, (-2)⟩ : S52)] : List (S52))) := ⟨_, rfl⟩
  replace H : ((scan_Profile.f t471 t472 t473 y474).bind fun bt477 => ((papermilllaw35_sensor.f).bind fun bt481 => ((scan_Covered.f k bt481.1 bt481.2.1 bt481.2.2 1 3).bind fun bt484 => ((papermilllaw35_sensor.f).bind fun bt486 => ((scan_Covered.f k bt486.1 bt486.2.1 bt486.2.2 0 3).bind fun bt489 => (if t458 = 0 then (if t463 = 0 then (if t470 = 0 then (if bt477.2 = 0 then (if bt484.2 = 0 then (if bt489.2 = 0 then (if t457 = 8 then (if t462 = 1 then ((papermillref08_Ints.f k t467 (([0, 4, 8, 11] : List Int))).bind fun t494 => (if t494 = true then ((papermillref35_Same.f k bt477.1 (([(⟨0, 0⟩ : S23), (⟨2, 12⟩ : S23), (⟨1, (-2)⟩ : S23)] : List (S23)))).bind fun t498 => (if t498 = true then (if bt484.1 = true then (some false) else (some bt489.1)) else (some false))) else (some false))) else (some false)) else (some false)) else (some false)) else (some false)) else (some false)) else (some false)) else (some false)) else (some false))))))) = some r := by first | (rw [hy474]; with_reducible exact H) | (have H2_ := (Option.bind_some _ _).symm.trans H; rw [hy474]; with_reducible exact H2_) | (have H2_ := (Option.bind_some _ _).symm.trans H; with_reducible exact H2_) | with_reducible exact H | (rw [hy474]; exact H) | exact H
  have Ny474 := Aside0.mk hy474
  clear hy474
  replace H := Option.bind_eq_some_iff.mp H
  obtain ⟨⟨t477, t480⟩, A80, H⟩ := H
  replace H : ((papermilllaw35_sensor.f).bind fun bt481 => ((scan_Covered.f k bt481.1 bt481.2.1 bt481.2.2 1 3).bind fun bt484 => ((papermilllaw35_sensor.f).bind fun bt486 => ((scan_Covered.f k bt486.1 bt486.2.1 bt486.2.2 0 3).bind fun bt489 => (if t458 = 0 then (if t463 = 0 then (if t470 = 0 then (if t480 = 0 then (if bt484.2 = 0 then (if bt489.2 = 0 then (if t457 = 8 then (if t462 = 1 then ((papermillref08_Ints.f k t467 (([0, 4, 8, 11] : List Int))).bind fun t494 => (if t494 = true then ((papermillref35_Same.f k t477 (([(⟨0, 0⟩ : S23), (⟨2, 12⟩ : S23), (⟨1, (-2)⟩ : S23)] : List (S23)))).bind fun t498 => (if t498 = true then (if bt484.1 = true then (some false) else (some bt489.1)) else (some false))) else (some false))) else (some false)) else (some false)) else (some false)) else (some false)) else (some false)) else (some false)) else (some false)) else (some false)))))) = some r := H
  have A8 := Aside0.mk A80
  clear A80
  replace H := Option.bind_eq_some_iff.mp H
  obtain ⟨⟨t481, t482, t483⟩, A90, H⟩ := H
  replace H : ((scan_Covered.f k t481 t482 t483 1 3).bind fun bt484 => ((papermilllaw35_sensor.f).bind fun bt486 => ((scan_Covered.f k bt486.1 bt486.2.1 bt486.2.2 0 3).bind fun bt489 => (if t458 = 0 then (if t463 = 0 then (if t470 = 0 then (if t480 = 0 then (if bt484.2 = 0 then (if bt489.2 = 0 then (if t457 = 8 then (if t462 = 1 then ((papermillref08_Ints.f k t467 (([0, 4, 8, 11] : List Int))).bind fun t494 => (if t494 = true then ((papermillref35_Same.f k t477 (([(⟨0, 0⟩ : S23), (⟨2, 12⟩ : S23), (⟨1, (-2)⟩ : S23)] : List (S23)))).bind fun t498 => (if t498 = true then (if bt484.1 = true then (some false) else (some bt489.1)) else (some false))) else (some false))) else (some false)) else (some false)) else (some false)) else (some false)) else (some false)) else (some false)) else (some false)) else (some false))))) = some r := H
  have A9 := Aside0.mk A90
  clear A90
  replace H := Option.bind_eq_some_iff.mp H
  obtain ⟨⟨t484, t485⟩, A100, H⟩ := H
  replace H : ((papermilllaw35_sensor.f).bind fun bt486 => ((scan_Covered.f k bt486.1 bt486.2.1 bt486.2.2 0 3).bind fun bt489 => (if t458 = 0 then (if t463 = 0 then (if t470 = 0 then (if t480 = 0 then (if t485 = 0 then (if bt489.2 = 0 then (if t457 = 8 then (if t462 = 1 then ((papermillref08_Ints.f k t467 (([0, 4, 8, 11] : List Int))).bind fun t494 => (if t494 = true then ((papermillref35_Same.f k t477 (([(⟨0, 0⟩ : S23), (⟨2, 12⟩ : S23), (⟨1, (-2)⟩ : S23)] : List (S23)))).bind fun t498 => (if t498 = true then (if t484 = true then (some false) else (some bt489.1)) else (some false))) else (some false))) else (some false)) else (some false)) else (some false)) else (some false)) else (some false)) else (some false)) else (some false)) else (some false)))) = some r := H
  have A10 := Aside0.mk A100
  clear A100
  replace H := Option.bind_eq_some_iff.mp H
  obtain ⟨⟨t486, t487, t488⟩, A110, H⟩ := H
  replace H : ((scan_Covered.f k t486 t487 t488 0 3).bind fun bt489 => (if t458 = 0 then (if t463 = 0 then (if t470 = 0 then (if t480 = 0 then (if t485 = 0 then (if bt489.2 = 0 then (if t457 = 8 then (if t462 = 1 then ((papermillref08_Ints.f k t467 (([0, 4, 8, 11] : List Int))).bind fun t494 => (if t494 = true then ((papermillref35_Same.f k t477 (([(⟨0, 0⟩ : S23), (⟨2, 12⟩ : S23), (⟨1, (-2)⟩ : S23)] : List (S23)))).bind fun t498 => (if t498 = true then (if t484 = true then (some false) else (some bt489.1)) else (some false))) else (some false))) else (some false)) else (some false)) else (some false)) else (some false)) else (some false)) else (some false)) else (some false)) else (some false))) = some r := H
  have A11 := Aside0.mk A110
  clear A110
  replace H := Option.bind_eq_some_iff.mp H
  obtain ⟨⟨t489, t490⟩, A120, H⟩ := H
  replace H : (if t458 = 0 then (if t463 = 0 then (if t470 = 0 then (if t480 = 0 then (if t485 = 0 then (if t490 = 0 then (if t457 = 8 then (if t462 = 1 then ((papermillref08_Ints.f k t467 (([0, 4, 8, 11] : List Int))).bind fun t494 => (if t494 = true then ((papermillref35_Same.f k t477 (([(⟨0, 0⟩ : S23), (⟨2, 12⟩ : S23), (⟨1, (-2)⟩ : S23)] : List (S23)))).bind fun t498 => (if t498 = true then (if t484 = true then (some false) else (some t489)) else (some false))) else (some false))) else (some false)) else (some false)) else (some false)) else (some false)) else (some false)) else (some false)) else (some false)) else (some false)) = some r := H
  have A12 := Aside0.mk A120
  clear A120
  by_cases c13 : t458 = 0
  · rw [if_pos c13] at H
    have c13b0 : (t458 == 0) = true := beq_iff_eq.mpr c13
    have c13b1 : (t458 != 0) = false := bne_eq_false_iff_eq.mpr c13
    clear c13
    by_cases c14 : t463 = 0
    · rw [if_pos c14] at H
      have c14b0 : (t463 == 0) = true := beq_iff_eq.mpr c14
      have c14b1 : (t463 != 0) = false := bne_eq_false_iff_eq.mpr c14
      clear c14
      by_cases c15 : t470 = 0
      · rw [if_pos c15] at H
        have c15b0 : (t470 == 0) = true := beq_iff_eq.mpr c15
        have c15b1 : (t470 != 0) = false := bne_eq_false_iff_eq.mpr c15
        clear c15
        by_cases c16 : t480 = 0
        · rw [if_pos c16] at H
          have c16b0 : (t480 == 0) = true := beq_iff_eq.mpr c16
          have c16b1 : (t480 != 0) = false := bne_eq_false_iff_eq.mpr c16
          clear c16
          by_cases c17 : t485 = 0
          · rw [if_pos c17] at H
            have c17b0 : (t485 == 0) = true := beq_iff_eq.mpr c17
            have c17b1 : (t485 != 0) = false := bne_eq_false_iff_eq.mpr c17
            clear c17
            by_cases c18 : t490 = 0
            · rw [if_pos c18] at H
              have c18b0 : (t490 == 0) = true := beq_iff_eq.mpr c18
              have c18b1 : (t490 != 0) = false := bne_eq_false_iff_eq.mpr c18
              clear c18
              by_cases c19 : t457 = 8
              · rw [if_pos c19] at H
                have c19b0 : (t457 == 8) = true := beq_iff_eq.mpr c19
                have c19b1 : (t457 != 8) = false := bne_eq_false_iff_eq.mpr c19
                clear c19
                by_cases c20 : t462 = 1
                · rw [if_pos c20] at H
                  have c20b0 : (t462 == 1) = true := beq_iff_eq.mpr c20
                  have c20b1 : (t462 != 1) = false := bne_eq_false_iff_eq.mpr c20
                  clear c20
                  obtain ⟨y491, hy491⟩ : ∃ y_ : List Int, y_ = (([0, 4, 8, 11] : List Int)) := ⟨_, rfl⟩
                  replace H : ((papermillref08_Ints.f k t467 y491).bind fun t494 => (if t494 = true then ((papermillref35_Same.f k t477 (([(⟨0, 0⟩ : S23), (⟨2, 12⟩ : S23), (⟨1, (-2)⟩ : S23)] : List (S23)))).bind fun t498 => (if t498 = true then (if t484 = true then (some false) else (some t489)) else (some false))) else (some false))) = some r := by first | (rw [hy491]; with_reducible exact H) | (have H2_ := (Option.bind_some _ _).symm.trans H; rw [hy491]; with_reducible exact H2_) | (have H2_ := (Option.bind_some _ _).symm.trans H; with_reducible exact H2_) | with_reducible exact H | (rw [hy491]; exact H) | exact H
                  have Ny491 := Aside0.mk hy491
                  clear hy491
                  replace H := Option.bind_eq_some_iff.mp H
                  obtain ⟨t494, A210, H⟩ := H
                  replace H : (if t494 = true then ((papermillref35_Same.f k t477 (([(⟨0, 0⟩ : S23), (⟨2, 12⟩ : S23), (⟨1, (-2)⟩ : S23)] : List (S23)))).bind fun t498 => (if t498 = true then (if t484 = true then (some false) else (some t489)) else (some false))) else (some false)) = some r := H
                  have A21 := Aside0.mk A210
                  clear A210
                  by_cases c22 : t494 = true
                  · subst c22
                    have H1 : ((papermillref35_Same.f k t477 (([(⟨0, 0⟩ : S23), (⟨2, 12⟩ : S23), (⟨1, (-2)⟩ : S23)] : List (S23)))).bind fun t498 => (if t498 = true then (if t484 = true then (some false) else (some t489)) else (some false))) = some r := by rw [if_pos rfl] at H; exact H
                    clear H
                    have H := H1
                    clear H1
                    obtain ⟨y495, hy495⟩ : ∃ y_ : List (S23), y_ = (([(⟨0, 0⟩ : S23), (⟨2, 12⟩ : S23), (⟨1, (-2)⟩ : S23)] : List (S23))) := ⟨_, rfl⟩
                    replace H : ((papermillref35_Same.f k t477 y495).bind fun t498 => (if t498 = true then (if t484 = true then (some false) else (some t489)) else (some false))) = some r := by first | (rw [hy495]; with_reducible exact H) | (have H2_ := (Option.bind_some _ _).symm.trans H; rw [hy495]; with_reducible exact H2_) | (have H2_ := (Option.bind_some _ _).symm.trans H; with_reducible exact H2_) | with_reducible exact H | (rw [hy495]; exact H) | exact H
                    have Ny495 := Aside0.mk hy495
                    clear hy495
                    replace H := Option.bind_eq_some_iff.mp H
                    obtain ⟨t498, A230, H⟩ := H
                    replace H : (if t498 = true then (if t484 = true then (some false) else (some t489)) else (some false)) = some r := H
                    have A23 := Aside0.mk A230
                    clear A230
                    by_cases c24 : t498 = true
                    · subst c24
                      have H1 : (if t484 = true then (some false) else (some t489)) = some r := by rw [if_pos rfl] at H; exact H
                      clear H
                      have H := H1
                      clear H1
                      by_cases c25 : t484 = true
                      · subst c25
                        have H1 : (some false) = some r := by rw [if_pos rfl] at H; exact H
                        clear H
                        have H := H1
                        clear H1
                        exact absurd ((Option.some.inj H).trans hr_.out) (by decide)
                      · replace c25 := Bool.eq_false_iff.mpr c25
                        subst c25
                        have H1 : (some t489) = some r := by rw [if_neg (show ¬ (false = true) by decide)] at H; exact H
                        clear H
                        have H := H1
                        clear H1
                        first
                          | exact absurd ((Option.some.inj H).trans hr_.out) (by decide)
                          | (skip
                             obtain rfl := Option.some.inj H
                             go_enter Try.func8, Try.ntmps8
                             go_wp2_with (first | ((with_reducible refine gate_callee (f := 20) rfl ?_); refine goesL_ (some 14) rfl rfl Try.func20 (by kernel_rfl) rfl #[] rfl (by (try simp only [List.map_toArray, List.map_cons, List.map_nil]); first | done | rfl | (simp only [List.length_drop, List.length_take]; rfl)) ?_; (with_reducible refine (papermilllaw35_sensor.calls  t454 t455 t456 _ A1.out).mono ?_); rintro e w49 ⟨rfl, hb⟩; refine ⟨_, rfl, ?_⟩; have n0_ := Aside0.mk (below_step (by repeat (first | (with_reducible first | exact HB.out | apply below_alloc | apply pw_below_drewN | apply below_drew1) | exact HB.out)) hb); clear HB; have HB := n0_; clear n0_; (try clear hb); (try clear hb2); (try clear hk); (try clear hi)) | ((with_reducible refine gate_callee (f := 19) rfl ?_); refine goesL_ (some 15) rfl rfl Try.func19 (by kernel_rfl) rfl #[.agg #[.int .i64 t454, .int .i64 t455, .int .i64 t456], .int .i64 3] rfl (by (try simp only [List.map_toArray, List.map_cons, List.map_nil]); first | done | rfl | (simp only [List.length_drop, List.length_take]; rfl)) ?_; (with_reducible refine (scan_Place.calls t454 t455 t456 3 t457 t458 _ A2.out).mono ?_); rintro e w50 ⟨rfl, hb⟩; refine ⟨_, rfl, ?_⟩; have n0_ := Aside0.mk (below_step (by repeat (first | (with_reducible first | exact HB.out | apply below_alloc | apply pw_below_drewN | apply below_drew1) | exact HB.out)) hb); clear HB; have HB := n0_; clear n0_; (try clear hb); (try clear hb2); (try clear hk); (try clear hi)) | ((with_reducible refine gate_callee (f := 20) rfl ?_); refine goesL_ (some 19) rfl rfl Try.func20 (by kernel_rfl) rfl #[] rfl (by (try simp only [List.map_toArray, List.map_cons, List.map_nil]); first | done | rfl | (simp only [List.length_drop, List.length_take]; rfl)) ?_; (with_reducible refine (papermilllaw35_sensor.calls  t459 t460 t461 _ A3.out).mono ?_); rintro e w51 ⟨rfl, hb⟩; refine ⟨_, rfl, ?_⟩; have n0_ := Aside0.mk (below_step (by repeat (first | (with_reducible first | exact HB.out | apply below_alloc | apply pw_below_drewN | apply below_drew1) | exact HB.out)) hb); clear HB; have HB := n0_; clear n0_; (try clear hb); (try clear hb2); (try clear hk); (try clear hi)) | ((with_reducible refine gate_callee (f := 21) rfl ?_); refine goesL_ (some 20) rfl rfl Try.func21 (by kernel_rfl) rfl #[.agg #[.int .i64 t459, .int .i64 t460, .int .i64 t461], .int .i64 4] rfl (by (try simp only [List.map_toArray, List.map_cons, List.map_nil]); first | done | rfl | (simp only [List.length_drop, List.length_take]; rfl)) ?_; (with_reducible refine (scan_Box.calls t459 t460 t461 4 t462 t463 _ A4.out).mono ?_); rintro e w52 ⟨rfl, hb⟩; refine ⟨_, rfl, ?_⟩; have n0_ := Aside0.mk (below_step (by repeat (first | (with_reducible first | exact HB.out | apply below_alloc | apply pw_below_drewN | apply below_drew1) | exact HB.out)) hb); clear HB; have HB := n0_; clear n0_; (try clear hb); (try clear hb2); (try clear hk); (try clear hi)) | ((with_reducible refine gate_callee (f := 20) rfl ?_); refine goesL_ (some 24) rfl rfl Try.func20 (by kernel_rfl) rfl #[] rfl (by (try simp only [List.map_toArray, List.map_cons, List.map_nil]); first | done | rfl | (simp only [List.length_drop, List.length_take]; rfl)) ?_; (with_reducible refine (papermilllaw35_sensor.calls  t464 t465 t466 _ A5.out).mono ?_); rintro e w53 ⟨rfl, hb⟩; refine ⟨_, rfl, ?_⟩; have n0_ := Aside0.mk (below_step (by repeat (first | (with_reducible first | exact HB.out | apply below_alloc | apply pw_below_drewN | apply below_drew1) | exact HB.out)) hb); clear HB; have HB := n0_; clear n0_; (try clear hb); (try clear hb2); (try clear hk); (try clear hi)) | ((with_reducible refine gate_callee (f := 22) rfl ?_); refine goesL_ (some 25) rfl rfl Try.func22 (by kernel_rfl) rfl #[.agg #[.int .i64 t464, .int .i64 t465, .int .i64 t466]] rfl (by (try simp only [List.map_toArray, List.map_cons, List.map_nil]); first | done | rfl | (simp only [List.length_drop, List.length_take]; rfl)) ?_; (with_reducible refine (scan_Edges.calls t464 t465 t466 t467 t470 _ A6.out).mono ?_); rintro e w54 ⟨v468, rfl, ho0, hb⟩; refine ⟨_, rfl, ?_⟩; have n0_ := Aside0.mk (Kd.R_lower ho0 (below_size (by repeat (first | (with_reducible first | exact HB.out | apply below_alloc | apply pw_below_drewN | apply below_drew1) | exact HB.out)))); have n1_ := Aside0.mk (below_step (by repeat (first | (with_reducible first | exact HB.out | apply below_alloc | apply pw_below_drewN | apply below_drew1) | exact HB.out)) hb); clear HB; have HO469 := n0_; have HB := n1_; clear n0_ n1_; (try clear hb); (try clear hb2); (try clear hk); (try clear hi); (try clear ho0)) | ((with_reducible refine gate_callee (f := 20) rfl ?_); refine goesL_ (some 29) rfl rfl Try.func20 (by kernel_rfl) rfl #[] rfl (by (try simp only [List.map_toArray, List.map_cons, List.map_nil]); first | done | rfl | (simp only [List.length_drop, List.length_take]; rfl)) ?_; (with_reducible refine (papermilllaw35_sensor.calls  t471 t472 t473 _ A7.out).mono ?_); rintro e w55 ⟨rfl, hb⟩; refine ⟨_, rfl, ?_⟩; have n0_ := Aside0.mk (Kd.R_below (by (with_reducible repeat (first | apply Kd.R_alloc | apply Kd.R_drewN | apply Kd.R_drew)); exact HO469.out) hb); have n1_ := Aside0.mk (below_step (by repeat (first | (with_reducible first | exact HB.out | apply below_alloc | apply pw_below_drewN | apply below_drew1) | exact HB.out)) hb); clear HO469; clear HB; have HO469 := n0_; have HB := n1_; clear n0_ n1_; (try clear hb); (try clear hb2); (try clear hk); (try clear hi)) | ((with_reducible refine gate_dst (N := 33) rfl ?_); (try (refine gate_guard (by rfl) ?_; dsimp only)); refine Kd.R_lit k52 _ 52 ?hg (N := 33) ?hd (xs := ([(⟨1, 5⟩ : S52), (⟨4, 7⟩ : S52), (⟨2, (-2)⟩ : S52)] : List (S52))) (inner := [.int .i64 1, .int .i64 5, .int .i64 4, .int .i64 7, .int .i64 2, .int .i64 (-2)]) (ok := fun _ => True) (okp := fun _ => True) ?hr ?hp (fun _ hk => hk) trivial (Below.refl _ _) (Nat.le_refl _) (by simp) ?_; (case hd => rfl); (case hg => rfl); (case hr => first | (go_simp; done) | (go_simp; rfl)); (case hp => exact (Reps.c2 (show Kd.M k52 _ _ _ (⟨1, 5⟩ : S52) [.int .i64 1, .int .i64 5] from (k52_mkM _ _ _ (⟨1, 5⟩ : S52) )) (Reps.c2 (show Kd.M k52 _ _ _ (⟨4, 7⟩ : S52) [.int .i64 4, .int .i64 7] from (k52_mkM _ _ _ (⟨4, 7⟩ : S52) )) (Reps.c2 (show Kd.M k52 _ _ _ (⟨2, (-2)⟩ : S52) [.int .i64 2, .int .i64 (-2)] from (k52_mkM _ _ _ (⟨2, (-2)⟩ : S52) )) (Reps.none _ _))))); intro v475 w56 ho57 hb hg_ hnew_; clear hg_ hnew_; (first | rw [← Ny474.out] at ho57 | (simp only [Int.reduceToNat] at ho57; rw [← Ny474.out] at ho57)); have n0_ := Aside0.mk (Kd.R_below (by (with_reducible repeat (first | apply Kd.R_alloc | apply Kd.R_drewN | apply Kd.R_drew)); exact HO469.out) hb); have n1_ := Aside0.mk (Kd.R_lower ho57 (below_size (by repeat (first | (with_reducible first | exact HB.out | apply below_alloc | apply pw_below_drewN | apply below_drew1) | exact HB.out)))); have n2_ := Aside0.mk (below_step (by repeat (first | (with_reducible first | exact HB.out | apply below_alloc | apply pw_below_drewN | apply below_drew1) | exact HB.out)) hb); clear HO469; clear HB; have HO469 := n0_; have HO476 := n1_; have HB := n2_; clear n0_ n1_ n2_; clear hb ho57; obtain ⟨Ao58, co58, eo58⟩ := Kd.R_slice HO476.out; subst eo58) | ((with_reducible refine gate_callee (f := 23) rfl ?_); refine goesL_ (some 34) rfl rfl Try.func23 (by kernel_rfl) rfl #[.agg #[.int .i64 t471, .int .i64 t472, .int .i64 t473], .slice Ao58 y474.length co58] rfl (by (try simp only [List.map_toArray, List.map_cons, List.map_nil]); first | done | rfl | (simp only [List.length_drop, List.length_take]; rfl)) ?_; (with_reducible refine (scan_Profile.calls t471 t472 t473 _ _ y474 t477 t480 _ ?side1 ?side2 A8.out).mono ?_); (case side1 => repeat (first | exact (Kd.R_reads' HO476.out).2.2 | (with_reducible refine Kd.C_alloc ?_ _) | (with_reducible refine Kd.C_drewN ?_ _) | (with_reducible refine Kd.C_drew ?_))); (case side2 => exact (Kd.R_reads' HO476.out).2.1); rintro e w59 ⟨v478, rfl, ho0, hb⟩; refine ⟨_, rfl, ?_⟩; have n0_ := Aside0.mk (Kd.R_below (by (with_reducible repeat (first | apply Kd.R_alloc | apply Kd.R_drewN | apply Kd.R_drew)); exact HO469.out) hb); have n1_ := Aside0.mk (Kd.R_below (by (with_reducible repeat (first | apply Kd.R_alloc | apply Kd.R_drewN | apply Kd.R_drew)); exact HO476.out) hb); have n2_ := Aside0.mk (Kd.R_lower ho0 (below_size (by repeat (first | (with_reducible first | exact HB.out | apply below_alloc | apply pw_below_drewN | apply below_drew1) | exact HB.out)))); have n3_ := Aside0.mk (below_step (by repeat (first | (with_reducible first | exact HB.out | apply below_alloc | apply pw_below_drewN | apply below_drew1) | exact HB.out)) hb); clear HO469; clear HO476; clear HB; have HO469 := n0_; have HO476 := n1_; have HO479 := n2_; have HB := n3_; clear n0_ n1_ n2_ n3_; (try clear hb); (try clear hb2); (try clear hk); (try clear hi); (try clear ho0)) | ((with_reducible refine gate_callee (f := 20) rfl ?_); refine goesL_ (some 38) rfl rfl Try.func20 (by kernel_rfl) rfl #[] rfl (by (try simp only [List.map_toArray, List.map_cons, List.map_nil]); first | done | rfl | (simp only [List.length_drop, List.length_take]; rfl)) ?_; (with_reducible refine (papermilllaw35_sensor.calls  t481 t482 t483 _ A9.out).mono ?_); rintro e w60 ⟨rfl, hb⟩; refine ⟨_, rfl, ?_⟩; have n0_ := Aside0.mk (Kd.R_below (by (with_reducible repeat (first | apply Kd.R_alloc | apply Kd.R_drewN | apply Kd.R_drew)); exact HO469.out) hb); have n1_ := Aside0.mk (Kd.R_below (by (with_reducible repeat (first | apply Kd.R_alloc | apply Kd.R_drewN | apply Kd.R_drew)); exact HO476.out) hb); have n2_ := Aside0.mk (Kd.R_below (by (with_reducible repeat (first | apply Kd.R_alloc | apply Kd.R_drewN | apply Kd.R_drew)); exact HO479.out) hb); have n3_ := Aside0.mk (below_step (by repeat (first | (with_reducible first | exact HB.out | apply below_alloc | apply pw_below_drewN | apply below_drew1) | exact HB.out)) hb); clear HO469; clear HO476; clear HO479; clear HB; have HO469 := n0_; have HO476 := n1_; have HO479 := n2_; have HB := n3_; clear n0_ n1_ n2_ n3_; (try clear hb); (try clear hb2); (try clear hk); (try clear hi)) | ((with_reducible refine gate_callee (f := 24) rfl ?_); refine goesL_ (some 40) rfl rfl Try.func24 (by kernel_rfl) rfl #[.agg #[.int .i64 t481, .int .i64 t482, .int .i64 t483], .agg #[.int .i64 1, .int .i64 3]] rfl (by (try simp only [List.map_toArray, List.map_cons, List.map_nil]); first | done | rfl | (simp only [List.length_drop, List.length_take]; rfl)) ?_; (with_reducible refine (scan_Covered.calls k t481 t482 t483 1 3 false t485 _ A10.out).mono ?_); rintro e w61 ⟨rfl, hb⟩; refine ⟨_, rfl, ?_⟩; have n0_ := Aside0.mk (Kd.R_below (by (with_reducible repeat (first | apply Kd.R_alloc | apply Kd.R_drewN | apply Kd.R_drew)); exact HO469.out) hb); have n1_ := Aside0.mk (Kd.R_below (by (with_reducible repeat (first | apply Kd.R_alloc | apply Kd.R_drewN | apply Kd.R_drew)); exact HO476.out) hb); have n2_ := Aside0.mk (Kd.R_below (by (with_reducible repeat (first | apply Kd.R_alloc | apply Kd.R_drewN | apply Kd.R_drew)); exact HO479.out) hb); have n3_ := Aside0.mk (below_step (by repeat (first | (with_reducible first | exact HB.out | apply below_alloc | apply pw_below_drewN | apply below_drew1) | exact HB.out)) hb); clear HO469; clear HO476; clear HO479; clear HB; have HO469 := n0_; have HO476 := n1_; have HO479 := n2_; have HB := n3_; clear n0_ n1_ n2_ n3_; (try clear hb); (try clear hb2); (try clear hk); (try clear hi)) | ((with_reducible refine gate_callee (f := 20) rfl ?_); refine goesL_ (some 44) rfl rfl Try.func20 (by kernel_rfl) rfl #[] rfl (by (try simp only [List.map_toArray, List.map_cons, List.map_nil]); first | done | rfl | (simp only [List.length_drop, List.length_take]; rfl)) ?_; (with_reducible refine (papermilllaw35_sensor.calls  t486 t487 t488 _ A11.out).mono ?_); rintro e w62 ⟨rfl, hb⟩; refine ⟨_, rfl, ?_⟩; have n0_ := Aside0.mk (Kd.R_below (by (with_reducible repeat (first | apply Kd.R_alloc | apply Kd.R_drewN | apply Kd.R_drew)); exact HO469.out) hb); have n1_ := Aside0.mk (Kd.R_below (by (with_reducible repeat (first | apply Kd.R_alloc | apply Kd.R_drewN | apply Kd.R_drew)); exact HO476.out) hb); have n2_ := Aside0.mk (Kd.R_below (by (with_reducible repeat (first | apply Kd.R_alloc | apply Kd.R_drewN | apply Kd.R_drew)); exact HO479.out) hb); have n3_ := Aside0.mk (below_step (by repeat (first | (with_reducible first | exact HB.out | apply below_alloc | apply pw_below_drewN | apply below_drew1) | exact HB.out)) hb); clear HO469; clear HO476; clear HO479; clear HB; have HO469 := n0_; have HO476 := n1_; have HO479 := n2_; have HB := n3_; clear n0_ n1_ n2_ n3_; (try clear hb); (try clear hb2); (try clear hk); (try clear hi)) | ((with_reducible refine gate_callee (f := 24) rfl ?_); refine goesL_ (some 46) rfl rfl Try.func24 (by kernel_rfl) rfl #[.agg #[.int .i64 t486, .int .i64 t487, .int .i64 t488], .agg #[.int .i64 0, .int .i64 3]] rfl (by (try simp only [List.map_toArray, List.map_cons, List.map_nil]); first | done | rfl | (simp only [List.length_drop, List.length_take]; rfl)) ?_; (with_reducible refine (scan_Covered.calls k t486 t487 t488 0 3 t489 t490 _ A12.out).mono ?_); rintro e w63 ⟨rfl, hb⟩; refine ⟨_, rfl, ?_⟩; have n0_ := Aside0.mk (Kd.R_below (by (with_reducible repeat (first | apply Kd.R_alloc | apply Kd.R_drewN | apply Kd.R_drew)); exact HO469.out) hb); have n1_ := Aside0.mk (Kd.R_below (by (with_reducible repeat (first | apply Kd.R_alloc | apply Kd.R_drewN | apply Kd.R_drew)); exact HO476.out) hb); have n2_ := Aside0.mk (Kd.R_below (by (with_reducible repeat (first | apply Kd.R_alloc | apply Kd.R_drewN | apply Kd.R_drew)); exact HO479.out) hb); have n3_ := Aside0.mk (below_step (by repeat (first | (with_reducible first | exact HB.out | apply below_alloc | apply pw_below_drewN | apply below_drew1) | exact HB.out)) hb); clear HO469; clear HO476; clear HO479; clear HB; have HO469 := n0_; have HO476 := n1_; have HO479 := n2_; have HB := n3_; clear n0_ n1_ n2_ n3_; (try clear hb); (try clear hb2); (try clear hk); (try clear hi)) | ((with_reducible refine gate_dst (N := 81) rfl ?_); (try (refine gate_guard (by rfl) ?_; dsimp only)); refine Kd.R_lit (Kd.int .i64) _ 3 ?hg (N := 81) ?hd (xs := ([0, 4, 8, 11] : List Int)) (inner := [.int .i64 0, .int .i64 4, .int .i64 8, .int .i64 11]) (ok := fun _ => True) (okp := fun _ => True) ?hr ?hp (fun _ hk => hk) trivial (Below.refl _ _) (Nat.le_refl _) (by simp) ?_; (case hd => rfl); (case hg => rfl); (case hr => first | (go_simp; done) | (go_simp; rfl)); (case hp => exact (Reps.one (show Kd.M (Kd.int .i64) _ _ _ 0 [.int .i64 0] from rfl) (Reps.one (show Kd.M (Kd.int .i64) _ _ _ 4 [.int .i64 4] from rfl) (Reps.one (show Kd.M (Kd.int .i64) _ _ _ 8 [.int .i64 8] from rfl) (Reps.one (show Kd.M (Kd.int .i64) _ _ _ 11 [.int .i64 11] from rfl) (Reps.none _ _)))))); intro v492 w64 ho65 hb hg_ hnew_; clear hg_ hnew_; (first | rw [← Ny491.out] at ho65 | (simp only [Int.reduceToNat] at ho65; rw [← Ny491.out] at ho65)); have n0_ := Aside0.mk (Kd.R_elder' (by (with_reducible repeat (first | apply Kd.R_alloc | apply Kd.R_drewN | apply Kd.R_drew)); exact HO469.out) (Kd.R_base ho65) hb); have n1_ := Aside0.mk (Kd.R_below (by (with_reducible repeat (first | apply Kd.R_alloc | apply Kd.R_drewN | apply Kd.R_drew)); exact HO476.out) hb); have n2_ := Aside0.mk (Kd.R_below (by (with_reducible repeat (first | apply Kd.R_alloc | apply Kd.R_drewN | apply Kd.R_drew)); exact HO479.out) hb); have n3_ := Aside0.mk (Kd.R_lower (Kd.R_new' ho65 (Kd.R_lt (by (with_reducible repeat (first | apply Kd.R_alloc | apply Kd.R_drewN | apply Kd.R_drew)); exact HO469.out))) (below_size (by repeat (first | (with_reducible first | exact HB.out | apply below_alloc | apply pw_below_drewN | apply below_drew1) | exact HB.out)))); have n4_ := Aside0.mk (below_step (by repeat (first | (with_reducible first | exact HB.out | apply below_alloc | apply pw_below_drewN | apply below_drew1) | exact HB.out)) hb); clear HO469; clear HO476; clear HO479; clear HB; have HO469 := n0_; have HO476 := n1_; have HO479 := n2_; have HO493 := n3_; have HB := n4_; clear n0_ n1_ n2_ n3_ n4_; clear hb ho65; obtain ⟨Ao66, co66, eo66⟩ := Kd.R_slice HO469.out; subst eo66; obtain ⟨Ao67, co67, eo67⟩ := Kd.R_slice HO493.out; subst eo67) | (go_at_call 25; (with_reducible refine (papermillref08_Ints.calls k _ _ t467 _ _ y491 true _ ?side1 ?side2 ?side3 ?side4 A21.out).mono ?_); (case side1 => repeat (first | exact (Kd.R_reads' HO469.out).2.2 | (with_reducible refine Kd.C_alloc ?_ _) | (with_reducible refine Kd.C_drewN ?_ _) | (with_reducible refine Kd.C_drew ?_))); (case side2 => exact (Kd.R_reads' HO469.out).2.1); (case side3 => repeat (first | exact (Kd.R_reads' HO493.out).2.2 | (with_reducible refine Kd.C_alloc ?_ _) | (with_reducible refine Kd.C_drewN ?_ _) | (with_reducible refine Kd.C_drew ?_))); (case side4 => exact (Kd.R_reads' HO493.out).2.1); rintro e w' ⟨rfl, ⟨nd, rfl⟩⟩) | ((with_reducible refine gate_dst (N := 89) rfl ?_); (try (refine gate_guard (by rfl) ?_; dsimp only)); refine Kd.R_lit k23 _ 23 ?hg (N := 89) ?hd (xs := ([(⟨0, 0⟩ : S23), (⟨2, 12⟩ : S23), (⟨1, (-2)⟩ : S23)] : List (S23))) (inner := [.int .i64 0, .int .i64 0, .int .i64 2, .int .i64 12, .int .i64 1, .int .i64 (-2)]) (ok := fun _ => True) (okp := fun _ => True) ?hr ?hp (fun _ hk => hk) trivial (Below.refl _ _) (Nat.le_refl _) (by simp) ?_; (case hd => rfl); (case hg => rfl); (case hr => first | (go_simp; done) | (go_simp; rfl)); (case hp => exact (Reps.c2 (show Kd.M k23 _ _ _ (⟨0, 0⟩ : S23) [.int .i64 0, .int .i64 0] from (k23_mkM _ _ _ (⟨0, 0⟩ : S23) )) (Reps.c2 (show Kd.M k23 _ _ _ (⟨2, 12⟩ : S23) [.int .i64 2, .int .i64 12] from (k23_mkM _ _ _ (⟨2, 12⟩ : S23) )) (Reps.c2 (show Kd.M k23 _ _ _ (⟨1, (-2)⟩ : S23) [.int .i64 1, .int .i64 (-2)] from (k23_mkM _ _ _ (⟨1, (-2)⟩ : S23) )) (Reps.none _ _))))); intro v496 w68 ho69 hb hg_ hnew_; clear hg_ hnew_; (first | rw [← Ny495.out] at ho69 | (simp only [Int.reduceToNat] at ho69; rw [← Ny495.out] at ho69)); have n0_ := Aside0.mk (Kd.R_below (by (with_reducible repeat (first | apply Kd.R_alloc | apply Kd.R_drewN | apply Kd.R_drew)); exact HO469.out) hb); have n1_ := Aside0.mk (Kd.R_below (by (with_reducible repeat (first | apply Kd.R_alloc | apply Kd.R_drewN | apply Kd.R_drew)); exact HO476.out) hb); have n2_ := Aside0.mk (Kd.R_elder' (by (with_reducible repeat (first | apply Kd.R_alloc | apply Kd.R_drewN | apply Kd.R_drew)); exact HO479.out) (Kd.R_base ho69) hb); have n3_ := Aside0.mk (Kd.R_below (by (with_reducible repeat (first | apply Kd.R_alloc | apply Kd.R_drewN | apply Kd.R_drew)); exact HO493.out) hb); have n4_ := Aside0.mk (Kd.R_lower (Kd.R_new' ho69 (Kd.R_lt (by (with_reducible repeat (first | apply Kd.R_alloc | apply Kd.R_drewN | apply Kd.R_drew)); exact HO479.out))) (below_size (by repeat (first | (with_reducible first | exact HB.out | apply below_alloc | apply pw_below_drewN | apply below_drew1) | exact HB.out)))); have n5_ := Aside0.mk (below_step (by repeat (first | (with_reducible first | exact HB.out | apply below_alloc | apply pw_below_drewN | apply below_drew1) | exact HB.out)) hb); clear HO469; clear HO476; clear HO479; clear HO493; clear HB; have HO469 := n0_; have HO476 := n1_; have HO479 := n2_; have HO493 := n3_; have HO497 := n4_; have HB := n5_; clear n0_ n1_ n2_ n3_ n4_ n5_; clear hb ho69; obtain ⟨Ao70, co70, eo70⟩ := Kd.R_slice HO479.out; subst eo70; obtain ⟨Ao71, co71, eo71⟩ := Kd.R_slice HO497.out; subst eo71) | (go_at_call 26; (with_reducible refine (papermillref35_Same.calls k _ _ t477 _ _ y495 true _ ?side1 ?side2 ?side3 ?side4 A23.out).mono ?_); (case side1 => repeat (first | exact (Kd.R_reads' HO479.out).2.2 | (with_reducible refine Kd.C_alloc ?_ _) | (with_reducible refine Kd.C_drewN ?_ _) | (with_reducible refine Kd.C_drew ?_))); (case side2 => exact (Kd.R_reads' HO479.out).2.1); (case side3 => repeat (first | exact (Kd.R_reads' HO497.out).2.2 | (with_reducible refine Kd.C_alloc ?_ _) | (with_reducible refine Kd.C_drewN ?_ _) | (with_reducible refine Kd.C_drew ?_))); (case side4 => exact (Kd.R_reads' HO497.out).2.1); rintro e w' ⟨rfl, ⟨nd, rfl⟩⟩))
                             go_ret
                             exact ⟨by first | rfl | (simp [errW_none, errW_some] <;> rfl) | (simp [*, errW_none, errW_some] <;> rfl), by repeat (first | (with_reducible first | exact HB.out | apply below_alloc | apply pw_below_drewN | apply below_drew1) | exact HB.out)⟩)
                    · replace c24 := Bool.eq_false_iff.mpr c24
                      subst c24
                      have H1 : (some false) = some r := by rw [if_neg (show ¬ (false = true) by decide)] at H; exact H
                      clear H
                      have H := H1
                      clear H1
                      exact absurd ((Option.some.inj H).trans hr_.out) (by decide)
                  · replace c22 := Bool.eq_false_iff.mpr c22
                    subst c22
                    have H1 : (some false) = some r := by rw [if_neg (show ¬ (false = true) by decide)] at H; exact H
                    clear H
                    have H := H1
                    clear H1
                    exact absurd ((Option.some.inj H).trans hr_.out) (by decide)
                · rw [if_neg c20] at H
                  have c20b0 : (t462 == 1) = false := beq_eq_false_iff_ne.mpr c20
                  have c20b1 : (t462 != 1) = true := bne_iff_ne.mpr c20
                  exact absurd ((Option.some.inj H).trans hr_.out) (by decide)
              · rw [if_neg c19] at H
                have c19b0 : (t457 == 8) = false := beq_eq_false_iff_ne.mpr c19
                have c19b1 : (t457 != 8) = true := bne_iff_ne.mpr c19
                exact absurd ((Option.some.inj H).trans hr_.out) (by decide)
            · rw [if_neg c18] at H
              have c18b0 : (t490 == 0) = false := beq_eq_false_iff_ne.mpr c18
              have c18b1 : (t490 != 0) = true := bne_iff_ne.mpr c18
              exact absurd ((Option.some.inj H).trans hr_.out) (by decide)
          · rw [if_neg c17] at H
            have c17b0 : (t485 == 0) = false := beq_eq_false_iff_ne.mpr c17
            have c17b1 : (t485 != 0) = true := bne_iff_ne.mpr c17
            exact absurd ((Option.some.inj H).trans hr_.out) (by decide)
        · rw [if_neg c16] at H
          have c16b0 : (t480 == 0) = false := beq_eq_false_iff_ne.mpr c16
          have c16b1 : (t480 != 0) = true := bne_iff_ne.mpr c16
          exact absurd ((Option.some.inj H).trans hr_.out) (by decide)
      · rw [if_neg c15] at H
        have c15b0 : (t470 == 0) = false := beq_eq_false_iff_ne.mpr c15
        have c15b1 : (t470 != 0) = true := bne_iff_ne.mpr c15
        exact absurd ((Option.some.inj H).trans hr_.out) (by decide)
    · rw [if_neg c14] at H
      have c14b0 : (t463 == 0) = false := beq_eq_false_iff_ne.mpr c14
      have c14b1 : (t463 != 0) = true := bne_iff_ne.mpr c14
      exact absurd ((Option.some.inj H).trans hr_.out) (by decide)
  · rw [if_neg c13] at H
    have c13b0 : (t458 == 0) = false := beq_eq_false_iff_ne.mpr c13
    have c13b1 : (t458 != 0) = true := bne_iff_ne.mpr c13
    exact absurd ((Option.some.inj H).trans hr_.out) (by decide)

def papermilllaw35_awake.f (k : Nat) : Option Bool := (papermilllaw35_awake.g k ).bind fun b => if b = true then some b else none
theorem papermilllaw35_awake.mono : ∀ k, LeO (papermilllaw35_awake.f k) (papermilllaw35_awake.f (k + 1)) := fun k => LeO.bind (papermilllaw35_awake.gmono k) (fun _ => LeO.refl _)
theorem papermilllaw35_awake.calls (k : Nat) (r : Bool) (w : World) (h : papermilllaw35_awake.f k = some r) :
    Calls Try.prog 8 #[] w fun e w' => e = .returned (.bool r) ∧ Below w.heap.size w w' := by
  obtain ⟨b, hb, h2⟩ := Option.bind_eq_some_iff.mp h
  have e : b = true ∧ r = true := by
    cases b with
    | true => exact ⟨rfl, (Option.some.inj h2).symm⟩
    | false => simp at h2
  obtain ⟨rfl, rfl⟩ := e
  exact papermilllaw35_awake.gcalls k true w ⟨rfl⟩ hb

end Go.Proofs.Ytnkmeocccbkdkaa.P
