-- Written by a program (wip/prog/pp.py) over the kit's print; some of its functions are proved by hand. Not trusted: Lean checks it.
import Derived.Test.YthbfkmgcomomfaaPx0
import Derived.Test.YthbfkmgcomomfaaPx3
import Derived.Test.YthbfkmgcomomfaaPx6
import Derived.Test.YthbfkmgcomomfaaHandMulDiv
namespace Go.Proofs.Ythbfkmgcomomfaa.P
open Go.RowKit Go.Proofs.YthbfkmgcomomfaaW.PrintWords Go.Proofs.YthbfkmgcomomfaaW.PrintLast Go.Proofs.YthbfkmgcomomfaaW.PrintMore
attribute [local go_sem] max2_int min2_int max_two min_two max_three min_three max_four min_four   -- for this text's walks alone
set_option linter.unusedVariables false
set_option linter.unusedSimpArgs false

/-! ### papermilllaw01_NumExact: function 3 -/
mutual
def papermilllaw01_NumExact.j0 : Nat → Int → Int → Int → Int → Bool → Option (Bool)
  | 0, _, _, _, _, _ => none
  | k + 1, x7, x8, x9, x10, x71 => if x71 = true then (some false) else ((num_MulDiv.f x7 x8 x9 0).bind fun bt161 => ((num_MulDiv.f x7 x8 x9 1).bind fun bt163 => ((num_MulDiv.f x7 x8 x9 2).bind fun bt165 => (if x9 = 0 then (if bt161.2 = 16 then (if bt163.2 = 16 then (if bt165.2 = 16 then (if bt161.1 = 0 then (if bt163.1 = 0 then (if bt165.1 = 0 then ((papermilllaw01_awake.f k).bind fun t167 => (some t167)) else (some false)) else (some false)) else (some false)) else (some false)) else (some false)) else (some false)) else (if bt161.2 = 0 then (if bt163.2 = 0 then (if bt165.2 = 0 then (if bt161.1 < (-1125899906842624) then (papermilllaw01_NumExact.j1 k x9 x10 bt161.1 bt163.1 bt165.1 true) else (if bt161.1 > 1125899906842624 then (papermilllaw01_NumExact.j1 k x9 x10 bt161.1 bt163.1 bt165.1 true) else (if (wrap64 (bt163.1 - bt161.1)) < 0 then (papermilllaw01_NumExact.j1 k x9 x10 bt161.1 bt163.1 bt165.1 true) else (if (wrap64 (bt163.1 - bt161.1)) > 1 then (papermilllaw01_NumExact.j1 k x9 x10 bt161.1 bt163.1 bt165.1 true) else (if bt165.1 = bt161.1 then (papermilllaw01_NumExact.j1 k x9 x10 bt161.1 bt163.1 bt165.1 false) else (papermilllaw01_NumExact.j1 k x9 x10 bt161.1 bt163.1 bt165.1 (bt165.1 != bt163.1))))))) else (papermilllaw01_NumExact.j1 k x9 x10 bt161.1 bt163.1 bt165.1 true)) else (papermilllaw01_NumExact.j1 k x9 x10 bt161.1 bt163.1 bt165.1 true)) else (papermilllaw01_NumExact.j1 k x9 x10 bt161.1 bt163.1 bt165.1 true))))))
def papermilllaw01_NumExact.j1 : Nat → Int → Int → Int → Int → Int → Bool → Option (Bool)
  | 0, _, _, _, _, _, _ => none
  | k + 1, x9, x10, x16, x18, x20, x159 => if x159 = true then (some false) else (if x9 < 0 then (if (wrap64 (-(wrap64 (x10 - (wrap64 (x16 * x9)))))) < 0 then (some false) else (if (wrap64 (-(wrap64 (x10 - (wrap64 (x16 * x9)))))) ≥ (wrap64 (-x9)) then (some false) else (if (((wrap64 (-(wrap64 (x10 - (wrap64 (x16 * x9)))))) == 0) != (x16 == x18)) = true then (some false) else (if (((wrap64 (-(wrap64 (x10 - (wrap64 (x16 * x9)))))) == 0) != ((wrap64 (x16 * x9)) == x10)) = true then (some false) else (if (wrap64 (2 * (wrap64 (-(wrap64 (x10 - (wrap64 (x16 * x9)))))))) ≥ (wrap64 (-x9)) then (if (wrap64 (2 * (wrap64 (-(wrap64 (x10 - (wrap64 (x16 * x9)))))))) ≤ (wrap64 (-x9)) then (if (wrap64 (2 * (wrap64 (-(wrap64 (x10 - (wrap64 (x16 * x9)))))))) = (wrap64 (-x9)) then (if (Int.tmod x20 2) = 0 then ((papermilllaw01_awake.f k).bind fun t168 => (some t168)) else (some false)) else ((papermilllaw01_awake.f k).bind fun t169 => (some t169))) else (if x20 = x18 then (if (wrap64 (2 * (wrap64 (-(wrap64 (x10 - (wrap64 (x16 * x9)))))))) = (wrap64 (-x9)) then (if (Int.tmod x20 2) = 0 then ((papermilllaw01_awake.f k).bind fun t170 => (some t170)) else (some false)) else ((papermilllaw01_awake.f k).bind fun t171 => (some t171))) else (some false))) else (if x20 = x16 then (if (wrap64 (2 * (wrap64 (-(wrap64 (x10 - (wrap64 (x16 * x9)))))))) ≤ (wrap64 (-x9)) then (if (wrap64 (2 * (wrap64 (-(wrap64 (x10 - (wrap64 (x16 * x9)))))))) = (wrap64 (-x9)) then (if (Int.tmod x20 2) = 0 then ((papermilllaw01_awake.f k).bind fun t172 => (some t172)) else (some false)) else ((papermilllaw01_awake.f k).bind fun t173 => (some t173))) else (if x20 = x18 then (if (wrap64 (2 * (wrap64 (-(wrap64 (x10 - (wrap64 (x16 * x9)))))))) = (wrap64 (-x9)) then (if (Int.tmod x20 2) = 0 then ((papermilllaw01_awake.f k).bind fun t174 => (some t174)) else (some false)) else ((papermilllaw01_awake.f k).bind fun t175 => (some t175))) else (some false))) else (some false))))))) else (if (wrap64 (x10 - (wrap64 (x16 * x9)))) < 0 then (some false) else (if (wrap64 (x10 - (wrap64 (x16 * x9)))) ≥ x9 then (some false) else (if (((wrap64 (x10 - (wrap64 (x16 * x9)))) == 0) != (x16 == x18)) = true then (some false) else (if (((wrap64 (x10 - (wrap64 (x16 * x9)))) == 0) != ((wrap64 (x16 * x9)) == x10)) = true then (some false) else (if (wrap64 (2 * (wrap64 (x10 - (wrap64 (x16 * x9)))))) ≥ x9 then (if (wrap64 (2 * (wrap64 (x10 - (wrap64 (x16 * x9)))))) ≤ x9 then (if (wrap64 (2 * (wrap64 (x10 - (wrap64 (x16 * x9)))))) = x9 then (if (Int.tmod x20 2) = 0 then ((papermilllaw01_awake.f k).bind fun t176 => (some t176)) else (some false)) else ((papermilllaw01_awake.f k).bind fun t177 => (some t177))) else (if x20 = x18 then (if (wrap64 (2 * (wrap64 (x10 - (wrap64 (x16 * x9)))))) = x9 then (if (Int.tmod x20 2) = 0 then ((papermilllaw01_awake.f k).bind fun t178 => (some t178)) else (some false)) else ((papermilllaw01_awake.f k).bind fun t179 => (some t179))) else (some false))) else (if x20 = x16 then (if (wrap64 (2 * (wrap64 (x10 - (wrap64 (x16 * x9)))))) ≤ x9 then (if (wrap64 (2 * (wrap64 (x10 - (wrap64 (x16 * x9)))))) = x9 then (if (Int.tmod x20 2) = 0 then ((papermilllaw01_awake.f k).bind fun t180 => (some t180)) else (some false)) else ((papermilllaw01_awake.f k).bind fun t181 => (some t181))) else (if x20 = x18 then (if (wrap64 (2 * (wrap64 (x10 - (wrap64 (x16 * x9)))))) = x9 then (if (Int.tmod x20 2) = 0 then ((papermilllaw01_awake.f k).bind fun t182 => (some t182)) else (some false)) else ((papermilllaw01_awake.f k).bind fun t183 => (some t183))) else (some false))) else (some false))))))))
end
def papermilllaw01_NumExact.f (k : Nat) (a0 : Int) (a1 : Int) (a2 : Int) : Option (Bool) := (num_Mul.f (Int.tmod (wrap64 (a0)) 33554432) (Int.tmod (wrap64 (a1)) 33554432)).bind fun bt155 => ((num_Add.f k (Int.tmod (wrap64 (a0)) 33554432) (Int.tmod (wrap64 (a1)) 33554432)).bind fun bt157 => ((num_Sub.f k bt157.1 (Int.tmod (wrap64 (a1)) 33554432)).bind fun bt159 => (if bt155.2 = 0 then (if bt155.1 = (wrap64 ((Int.tmod (wrap64 (a0)) 33554432) * (Int.tmod (wrap64 (a1)) 33554432))) then (if bt157.2 = 0 then (if bt159.2 = 0 then (papermilllaw01_NumExact.j0 k (Int.tmod (wrap64 (a0)) 33554432) (Int.tmod (wrap64 (a1)) 33554432) (Int.tmod a2 1125899906842625) bt155.1 (bt159.1 != (Int.tmod (wrap64 (a0)) 33554432))) else (papermilllaw01_NumExact.j0 k (Int.tmod (wrap64 (a0)) 33554432) (Int.tmod (wrap64 (a1)) 33554432) (Int.tmod a2 1125899906842625) bt155.1 true)) else (papermilllaw01_NumExact.j0 k (Int.tmod (wrap64 (a0)) 33554432) (Int.tmod (wrap64 (a1)) 33554432) (Int.tmod a2 1125899906842625) bt155.1 true)) else (papermilllaw01_NumExact.j0 k (Int.tmod (wrap64 (a0)) 33554432) (Int.tmod (wrap64 (a1)) 33554432) (Int.tmod a2 1125899906842625) bt155.1 true)) else (papermilllaw01_NumExact.j0 k (Int.tmod (wrap64 (a0)) 33554432) (Int.tmod (wrap64 (a1)) 33554432) (Int.tmod a2 1125899906842625) bt155.1 true))))
theorem papermilllaw01_NumExact.mono_l : ∀ k, (∀ y0 y1 y2 y3 y4, LeO (papermilllaw01_NumExact.j0 k y0 y1 y2 y3 y4) (papermilllaw01_NumExact.j0 (k + 1) y0 y1 y2 y3 y4)) ∧ (∀ y0 y1 y2 y3 y4 y5, LeO (papermilllaw01_NumExact.j1 k y0 y1 y2 y3 y4 y5) (papermilllaw01_NumExact.j1 (k + 1) y0 y1 y2 y3 y4 y5))
  | 0 => ⟨fun _ _ _ _ _ r h => by simp [papermilllaw01_NumExact.j0] at h, fun _ _ _ _ _ _ r h => by simp [papermilllaw01_NumExact.j1] at h⟩
  | k + 1 => by
    obtain ⟨ih0, ih1⟩ := papermilllaw01_NumExact.mono_l k
    refine ⟨?_, ?_⟩
    · intro y0 y1 y2 y3 y4
      unfold papermilllaw01_NumExact.j0
      repeat' first
      | (with_reducible exact ih0 _ _ _ _ _)
      | (with_reducible exact ih1 _ _ _ _ _ _)
      | (with_reducible exact num_Add.mono _ _ _)
      | (with_reducible exact num_Sub.mono _ _ _)
      | (with_reducible exact papermilllaw01_awake.mono _)
      | (with_reducible exact LeO.refl _)
      | (with_reducible exact LeO.none _)
      | (with_reducible refine LeO.ite ?_ ?_)
      | (with_reducible refine LeO.bind ?_ (fun _ => ?_))
      | exact ih0 _ _ _ _ _
      | exact ih1 _ _ _ _ _ _
      | exact num_Add.mono _ _ _
      | exact num_Sub.mono _ _ _
      | exact papermilllaw01_awake.mono _
      | exact LeO.none _
      | refine LeO.ite ?_ ?_
      | refine LeO.bind ?_ (fun _ => ?_)
    · intro y0 y1 y2 y3 y4 y5
      unfold papermilllaw01_NumExact.j1
      repeat' first
      | (with_reducible exact ih0 _ _ _ _ _)
      | (with_reducible exact ih1 _ _ _ _ _ _)
      | (with_reducible exact num_Add.mono _ _ _)
      | (with_reducible exact num_Sub.mono _ _ _)
      | (with_reducible exact papermilllaw01_awake.mono _)
      | (with_reducible exact LeO.refl _)
      | (with_reducible exact LeO.none _)
      | (with_reducible refine LeO.ite ?_ ?_)
      | (with_reducible refine LeO.bind ?_ (fun _ => ?_))
      | exact ih0 _ _ _ _ _
      | exact ih1 _ _ _ _ _ _
      | exact num_Add.mono _ _ _
      | exact num_Sub.mono _ _ _
      | exact papermilllaw01_awake.mono _
      | exact LeO.none _
      | refine LeO.ite ?_ ?_
      | refine LeO.bind ?_ (fun _ => ?_)
theorem papermilllaw01_NumExact.mono : ∀ a0 a1 a2 k, LeO (papermilllaw01_NumExact.f k a0 a1 a2) (papermilllaw01_NumExact.f (k + 1) a0 a1 a2) := by
  intro a0 a1 a2 k
  obtain ⟨ih0, ih1⟩ := papermilllaw01_NumExact.mono_l k
  unfold papermilllaw01_NumExact.f
  repeat' first
      | (with_reducible exact ih0 _ _ _ _ _)
      | (with_reducible exact ih1 _ _ _ _ _ _)
      | (with_reducible exact num_Add.mono _ _ _)
      | (with_reducible exact num_Sub.mono _ _ _)
      | (with_reducible exact papermilllaw01_awake.mono _)
      | (with_reducible exact LeO.refl _)
      | (with_reducible exact LeO.none _)
      | (with_reducible refine LeO.ite ?_ ?_)
      | (with_reducible refine LeO.bind ?_ (fun _ => ?_))
      | exact ih0 _ _ _ _ _
      | exact ih1 _ _ _ _ _ _
      | exact num_Add.mono _ _ _
      | exact num_Sub.mono _ _ _
      | exact papermilllaw01_awake.mono _
      | exact LeO.none _
      | refine LeO.ite ?_ ?_
      | refine LeO.bind ?_ (fun _ => ?_)
set_option maxHeartbeats 4000000 in
set_option maxRecDepth 100000 in
theorem papermilllaw01_NumExact.calls (k : Nat) (a0 : Int) (a1 : Int) (a2 : Int) (r : Bool) (w : World) (hr_ : Aside0 (r = true)) (h : papermilllaw01_NumExact.f k a0 a1 a2 = some r) :
    Calls Try.prog 3 #[.int .i32 a0, .int .i32 a1, .int .i64 a2] w fun e w' => e = .returned (.bool r) ∧ Below w.heap.size w w' := by
  have HB := Aside0.mk (Below.refl w.heap.size w)
  have H : ((num_Mul.f (Int.tmod (wrap64 (a0)) 33554432) (Int.tmod (wrap64 (a1)) 33554432)).bind fun bt155 => ((num_Add.f k (Int.tmod (wrap64 (a0)) 33554432) (Int.tmod (wrap64 (a1)) 33554432)).bind fun bt157 => ((num_Sub.f k bt157.1 (Int.tmod (wrap64 (a1)) 33554432)).bind fun bt159 => (if bt155.2 = 0 then (if bt155.1 = (wrap64 ((Int.tmod (wrap64 (a0)) 33554432) * (Int.tmod (wrap64 (a1)) 33554432))) then (if bt157.2 = 0 then (if bt159.2 = 0 then (papermilllaw01_NumExact.j0 k (Int.tmod (wrap64 (a0)) 33554432) (Int.tmod (wrap64 (a1)) 33554432) (Int.tmod a2 1125899906842625) bt155.1 (bt159.1 != (Int.tmod (wrap64 (a0)) 33554432))) else (papermilllaw01_NumExact.j0 k (Int.tmod (wrap64 (a0)) 33554432) (Int.tmod (wrap64 (a1)) 33554432) (Int.tmod a2 1125899906842625) bt155.1 true)) else (papermilllaw01_NumExact.j0 k (Int.tmod (wrap64 (a0)) 33554432) (Int.tmod (wrap64 (a1)) 33554432) (Int.tmod a2 1125899906842625) bt155.1 true)) else (papermilllaw01_NumExact.j0 k (Int.tmod (wrap64 (a0)) 33554432) (Int.tmod (wrap64 (a1)) 33554432) (Int.tmod a2 1125899906842625) bt155.1 true)) else (papermilllaw01_NumExact.j0 k (Int.tmod (wrap64 (a0)) 33554432) (Int.tmod (wrap64 (a1)) 33554432) (Int.tmod a2 1125899906842625) bt155.1 true))))) = some r := h
  clear h
  replace H := Option.bind_eq_some_iff.mp H
  obtain ⟨⟨t155, t156⟩, A40, H⟩ := H
  replace H : ((num_Add.f k (Int.tmod (wrap64 (a0)) 33554432) (Int.tmod (wrap64 (a1)) 33554432)).bind fun bt157 => ((num_Sub.f k bt157.1 (Int.tmod (wrap64 (a1)) 33554432)).bind fun bt159 => (if t156 = 0 then (if t155 = (wrap64 ((Int.tmod (wrap64 (a0)) 33554432) * (Int.tmod (wrap64 (a1)) 33554432))) then (if bt157.2 = 0 then (if bt159.2 = 0 then (papermilllaw01_NumExact.j0 k (Int.tmod (wrap64 (a0)) 33554432) (Int.tmod (wrap64 (a1)) 33554432) (Int.tmod a2 1125899906842625) t155 (bt159.1 != (Int.tmod (wrap64 (a0)) 33554432))) else (papermilllaw01_NumExact.j0 k (Int.tmod (wrap64 (a0)) 33554432) (Int.tmod (wrap64 (a1)) 33554432) (Int.tmod a2 1125899906842625) t155 true)) else (papermilllaw01_NumExact.j0 k (Int.tmod (wrap64 (a0)) 33554432) (Int.tmod (wrap64 (a1)) 33554432) (Int.tmod a2 1125899906842625) t155 true)) else (papermilllaw01_NumExact.j0 k (Int.tmod (wrap64 (a0)) 33554432) (Int.tmod (wrap64 (a1)) 33554432) (Int.tmod a2 1125899906842625) t155 true)) else (papermilllaw01_NumExact.j0 k (Int.tmod (wrap64 (a0)) 33554432) (Int.tmod (wrap64 (a1)) 33554432) (Int.tmod a2 1125899906842625) t155 true)))) = some r := H
  have A4 := Aside0.mk A40
  clear A40
  replace H := Option.bind_eq_some_iff.mp H
  obtain ⟨⟨t157, t158⟩, A50, H⟩ := H
  replace H : ((num_Sub.f k t157 (Int.tmod (wrap64 (a1)) 33554432)).bind fun bt159 => (if t156 = 0 then (if t155 = (wrap64 ((Int.tmod (wrap64 (a0)) 33554432) * (Int.tmod (wrap64 (a1)) 33554432))) then (if t158 = 0 then (if bt159.2 = 0 then (papermilllaw01_NumExact.j0 k (Int.tmod (wrap64 (a0)) 33554432) (Int.tmod (wrap64 (a1)) 33554432) (Int.tmod a2 1125899906842625) t155 (bt159.1 != (Int.tmod (wrap64 (a0)) 33554432))) else (papermilllaw01_NumExact.j0 k (Int.tmod (wrap64 (a0)) 33554432) (Int.tmod (wrap64 (a1)) 33554432) (Int.tmod a2 1125899906842625) t155 true)) else (papermilllaw01_NumExact.j0 k (Int.tmod (wrap64 (a0)) 33554432) (Int.tmod (wrap64 (a1)) 33554432) (Int.tmod a2 1125899906842625) t155 true)) else (papermilllaw01_NumExact.j0 k (Int.tmod (wrap64 (a0)) 33554432) (Int.tmod (wrap64 (a1)) 33554432) (Int.tmod a2 1125899906842625) t155 true)) else (papermilllaw01_NumExact.j0 k (Int.tmod (wrap64 (a0)) 33554432) (Int.tmod (wrap64 (a1)) 33554432) (Int.tmod a2 1125899906842625) t155 true))) = some r := H
  have A5 := Aside0.mk A50
  clear A50
  replace H := Option.bind_eq_some_iff.mp H
  obtain ⟨⟨t159, t160⟩, A60, H⟩ := H
  replace H : (if t156 = 0 then (if t155 = (wrap64 ((Int.tmod (wrap64 (a0)) 33554432) * (Int.tmod (wrap64 (a1)) 33554432))) then (if t158 = 0 then (if t160 = 0 then (papermilllaw01_NumExact.j0 k (Int.tmod (wrap64 (a0)) 33554432) (Int.tmod (wrap64 (a1)) 33554432) (Int.tmod a2 1125899906842625) t155 (t159 != (Int.tmod (wrap64 (a0)) 33554432))) else (papermilllaw01_NumExact.j0 k (Int.tmod (wrap64 (a0)) 33554432) (Int.tmod (wrap64 (a1)) 33554432) (Int.tmod a2 1125899906842625) t155 true)) else (papermilllaw01_NumExact.j0 k (Int.tmod (wrap64 (a0)) 33554432) (Int.tmod (wrap64 (a1)) 33554432) (Int.tmod a2 1125899906842625) t155 true)) else (papermilllaw01_NumExact.j0 k (Int.tmod (wrap64 (a0)) 33554432) (Int.tmod (wrap64 (a1)) 33554432) (Int.tmod a2 1125899906842625) t155 true)) else (papermilllaw01_NumExact.j0 k (Int.tmod (wrap64 (a0)) 33554432) (Int.tmod (wrap64 (a1)) 33554432) (Int.tmod a2 1125899906842625) t155 true)) = some r := H
  have A6 := Aside0.mk A60
  clear A60
  have HC7 := Aside0.mk H
  clear H
  go_enter Try.func3, Try.ntmps3
  go_upto_region 5 with (first | ((with_reducible refine gate_callee (f := 4) rfl ?_); refine goesL_ (some 35) rfl rfl Try.func4 (by kernel_rfl) rfl #[.int .i64 (Int.tmod (wrap64 (a0)) 33554432), .int .i64 (Int.tmod (wrap64 (a1)) 33554432)] rfl (by (try simp only [List.map_toArray, List.map_cons, List.map_nil]); first | done | rfl | (simp only [List.length_drop, List.length_take]; rfl)) ?_; (with_reducible refine (num_Mul.calls (Int.tmod (wrap64 (a0)) 33554432) (Int.tmod (wrap64 (a1)) 33554432) t155 t156 _ A4.out).mono ?_); rintro e w8 ⟨rfl, hb⟩; refine ⟨_, rfl, ?_⟩; have n0_ := Aside0.mk (below_step (by repeat (first | (with_reducible first | exact HB.out | apply below_alloc | apply pw_below_drewN | apply below_drew1) | exact HB.out)) hb); clear HB; have HB := n0_; clear n0_; (try clear hb); (try clear hb2); (try clear hk); (try clear hi)) | ((with_reducible refine gate_callee (f := 5) rfl ?_); refine goesL_ (some 41) rfl rfl Try.func5 (by kernel_rfl) rfl #[.int .i64 (Int.tmod (wrap64 (a0)) 33554432), .int .i64 (Int.tmod (wrap64 (a1)) 33554432)] rfl (by (try simp only [List.map_toArray, List.map_cons, List.map_nil]); first | done | rfl | (simp only [List.length_drop, List.length_take]; rfl)) ?_; (with_reducible refine (num_Add.calls k (Int.tmod (wrap64 (a0)) 33554432) (Int.tmod (wrap64 (a1)) 33554432) t157 t158 _ A5.out).mono ?_); rintro e w9 ⟨rfl, hb⟩; refine ⟨_, rfl, ?_⟩; have n0_ := Aside0.mk (below_step (by repeat (first | (with_reducible first | exact HB.out | apply below_alloc | apply pw_below_drewN | apply below_drew1) | exact HB.out)) hb); clear HB; have HB := n0_; clear n0_; (try clear hb); (try clear hb2); (try clear hk); (try clear hi)) | ((with_reducible refine gate_callee (f := 6) rfl ?_); refine goesL_ (some 47) rfl rfl Try.func6 (by kernel_rfl) rfl #[.int .i64 t157, .int .i64 (Int.tmod (wrap64 (a1)) 33554432)] rfl (by (try simp only [List.map_toArray, List.map_cons, List.map_nil]); first | done | rfl | (simp only [List.length_drop, List.length_take]; rfl)) ?_; (with_reducible refine (num_Sub.calls k t157 (Int.tmod (wrap64 (a1)) 33554432) t159 t160 _ A6.out).mono ?_); rintro e w10 ⟨rfl, hb⟩; refine ⟨_, rfl, ?_⟩; have n0_ := Aside0.mk (below_step (by repeat (first | (with_reducible first | exact HB.out | apply below_alloc | apply pw_below_drewN | apply below_drew1) | exact HB.out)) hb); clear HB; have HB := n0_; clear n0_; (try clear hb); (try clear hb2); (try clear hk); (try clear hi)))
  (try simp only [Act.put, List.setIfInBounds_toArray, List.set_cons_zero, List.set_cons_succ])
  go_cut [71] (fun v71 wc => ∃ (kq : Nat) (x71_6 : Bool), v71 = .bool x71_6 ∧ Aside0 (papermilllaw01_NumExact.j0 kq (Int.tmod (wrap64 (a0)) 33554432) (Int.tmod (wrap64 (a1)) 33554432) (Int.tmod a2 1125899906842625) t155 x71_6 = some r) ∧ Aside0 (kq ≤ k) ∧ Aside0 (Below w.heap.size w wc))
  case first =>
    as_aux_lemma =>
      have H := HC7.out
      clear HC7
      by_cases c11 : t156 = 0
      · as_aux_lemma =>
          rw [if_pos c11] at H
          have c11b0 : (t156 == 0) = true := beq_iff_eq.mpr c11
          have c11b1 : (t156 != 0) = false := bne_eq_false_iff_eq.mpr c11
          clear c11
          (first | rw [c11b0] | (simp only [i64_w, i32_w]; rw [c11b0]) | skip)
          by_cases c12 : t155 = (wrap64 ((Int.tmod (wrap64 (a0)) 33554432) * (Int.tmod (wrap64 (a1)) 33554432)))
          · as_aux_lemma =>
              rw [if_pos c12] at H
              have c12b0 : (t155 == (wrap64 ((Int.tmod (wrap64 (a0)) 33554432) * (Int.tmod (wrap64 (a1)) 33554432)))) = true := beq_iff_eq.mpr c12
              have c12b1 : (t155 != (wrap64 ((Int.tmod (wrap64 (a0)) 33554432) * (Int.tmod (wrap64 (a1)) 33554432)))) = false := bne_eq_false_iff_eq.mpr c12
              clear c12
              by_cases c13 : t158 = 0
              · as_aux_lemma =>
                  rw [if_pos c13] at H
                  have c13b0 : (t158 == 0) = true := beq_iff_eq.mpr c13
                  have c13b1 : (t158 != 0) = false := bne_eq_false_iff_eq.mpr c13
                  clear c13
                  by_cases c14 : t160 = 0
                  · rw [if_pos c14] at H
                    have c14b0 : (t160 == 0) = true := beq_iff_eq.mpr c14
                    have c14b1 : (t160 != 0) = false := bne_eq_false_iff_eq.mpr c14
                    clear c14
                    have H' := Aside0.mk H
                    clear H
                    go_wp2
                    go_meet
                    case rel => exact ⟨_, ((t159 != (Int.tmod (wrap64 (a0)) 33554432))), (by first | rfl | (simp; done) | (simp [*]; done)), H', ⟨by first | omega | exact Nat.le_refl _⟩, ⟨by repeat (first | (with_reducible first | exact HB.out | apply below_alloc | apply pw_below_drewN | apply below_drew1) | exact HB.out)⟩⟩
                  · rw [if_neg c14] at H
                    have c14b0 : (t160 == 0) = false := beq_eq_false_iff_ne.mpr c14
                    have c14b1 : (t160 != 0) = true := bne_iff_ne.mpr c14
                    have H' := Aside0.mk H
                    clear H
                    go_wp2
                    go_meet
                    case rel => exact ⟨_, (true), (by first | rfl | (simp; done) | (simp [*]; done)), H', ⟨by first | omega | exact Nat.le_refl _⟩, ⟨by repeat (first | (with_reducible first | exact HB.out | apply below_alloc | apply pw_below_drewN | apply below_drew1) | exact HB.out)⟩⟩
              · rw [if_neg c13] at H
                have c13b0 : (t158 == 0) = false := beq_eq_false_iff_ne.mpr c13
                have c13b1 : (t158 != 0) = true := bne_iff_ne.mpr c13
                have H' := Aside0.mk H
                clear H
                go_wp2
                go_meet
                case rel => exact ⟨_, (true), (by first | rfl | (simp; done) | (simp [*]; done)), H', ⟨by first | omega | exact Nat.le_refl _⟩, ⟨by repeat (first | (with_reducible first | exact HB.out | apply below_alloc | apply pw_below_drewN | apply below_drew1) | exact HB.out)⟩⟩
          · rw [if_neg c12] at H
            have c12b0 : (t155 == (wrap64 ((Int.tmod (wrap64 (a0)) 33554432) * (Int.tmod (wrap64 (a1)) 33554432)))) = false := beq_eq_false_iff_ne.mpr c12
            have c12b1 : (t155 != (wrap64 ((Int.tmod (wrap64 (a0)) 33554432) * (Int.tmod (wrap64 (a1)) 33554432)))) = true := bne_iff_ne.mpr c12
            have H' := Aside0.mk H
            clear H
            go_wp2
            go_meet
            case rel => exact ⟨_, (true), (by first | rfl | (simp; done) | (simp [*]; done)), H', ⟨by first | omega | exact Nat.le_refl _⟩, ⟨by repeat (first | (with_reducible first | exact HB.out | apply below_alloc | apply pw_below_drewN | apply below_drew1) | exact HB.out)⟩⟩
      · rw [if_neg c11] at H
        have c11b0 : (t156 == 0) = false := beq_eq_false_iff_ne.mpr c11
        have c11b1 : (t156 != 0) = true := bne_iff_ne.mpr c11
        (first | rw [c11b0] | (simp only [i64_w, i32_w]; rw [c11b0]) | skip)
        have H' := Aside0.mk H
        clear H
        go_wp2
        go_meet
        case rel => exact ⟨_, (true), (by first | rfl | (simp; done) | (simp [*]; done)), H', ⟨by first | omega | exact Nat.le_refl _⟩, ⟨by repeat (first | (with_reducible first | exact HB.out | apply below_alloc | apply pw_below_drewN | apply below_drew1) | exact HB.out)⟩⟩
  case rest =>
    as_aux_lemma =>
      clear HC7
      try clear c1
      try clear p2
      try clear c3
      try clear c4
      try clear c5
      try clear c6
      try clear p6
      try clear c11
      try clear c11b0
      try clear c11b1
      try clear c12
      try clear c12b0
      try clear c12b1
      try clear c13
      try clear c13b0
      try clear c13b1
      try clear c14
      try clear c14b0
      try clear c14b1
      obtain ⟨kq, x71_6, rfl, HA, HJ6, HB⟩ := hcut
      cases kq with
      | zero => exact absurd HA.out (by simp [papermilllaw01_NumExact.j0])
      | succ kj6 =>
        as_aux_lemma =>
          have H := HA.out
          clear HA
          simp only [papermilllaw01_NumExact.j0] at H
          by_cases c15 : x71_6 = true
          · subst c15
            have H1 : (some false) = some r := by rw [if_pos rfl] at H; exact H
            clear H
            have H := H1
            clear H1
            exact absurd ((Option.some.inj H).trans hr_.out) (by decide)
          · as_aux_lemma =>
              replace c15 := Bool.eq_false_iff.mpr c15
              subst c15
              have H1 : ((num_MulDiv.f (Int.tmod (wrap64 (a0)) 33554432) (Int.tmod (wrap64 (a1)) 33554432) (Int.tmod a2 1125899906842625) 0).bind fun bt161 => ((num_MulDiv.f (Int.tmod (wrap64 (a0)) 33554432) (Int.tmod (wrap64 (a1)) 33554432) (Int.tmod a2 1125899906842625) 1).bind fun bt163 => ((num_MulDiv.f (Int.tmod (wrap64 (a0)) 33554432) (Int.tmod (wrap64 (a1)) 33554432) (Int.tmod a2 1125899906842625) 2).bind fun bt165 => (if (Int.tmod a2 1125899906842625) = 0 then (if bt161.2 = 16 then (if bt163.2 = 16 then (if bt165.2 = 16 then (if bt161.1 = 0 then (if bt163.1 = 0 then (if bt165.1 = 0 then ((papermilllaw01_awake.f kj6).bind fun t167 => (some t167)) else (some false)) else (some false)) else (some false)) else (some false)) else (some false)) else (some false)) else (if bt161.2 = 0 then (if bt163.2 = 0 then (if bt165.2 = 0 then (if bt161.1 < (-1125899906842624) then (papermilllaw01_NumExact.j1 kj6 (Int.tmod a2 1125899906842625) t155 bt161.1 bt163.1 bt165.1 true) else (if bt161.1 > 1125899906842624 then (papermilllaw01_NumExact.j1 kj6 (Int.tmod a2 1125899906842625) t155 bt161.1 bt163.1 bt165.1 true) else (if (wrap64 (bt163.1 - bt161.1)) < 0 then (papermilllaw01_NumExact.j1 kj6 (Int.tmod a2 1125899906842625) t155 bt161.1 bt163.1 bt165.1 true) else (if (wrap64 (bt163.1 - bt161.1)) > 1 then (papermilllaw01_NumExact.j1 kj6 (Int.tmod a2 1125899906842625) t155 bt161.1 bt163.1 bt165.1 true) else (if bt165.1 = bt161.1 then (papermilllaw01_NumExact.j1 kj6 (Int.tmod a2 1125899906842625) t155 bt161.1 bt163.1 bt165.1 false) else (papermilllaw01_NumExact.j1 kj6 (Int.tmod a2 1125899906842625) t155 bt161.1 bt163.1 bt165.1 (bt165.1 != bt163.1))))))) else (papermilllaw01_NumExact.j1 kj6 (Int.tmod a2 1125899906842625) t155 bt161.1 bt163.1 bt165.1 true)) else (papermilllaw01_NumExact.j1 kj6 (Int.tmod a2 1125899906842625) t155 bt161.1 bt163.1 bt165.1 true)) else (papermilllaw01_NumExact.j1 kj6 (Int.tmod a2 1125899906842625) t155 bt161.1 bt163.1 bt165.1 true)))))) = some r := by rw [if_neg (show ¬ (false = true) by decide)] at H; exact H
              clear H
              have H := H1
              clear H1
              replace H := Option.bind_eq_some_iff.mp H
              obtain ⟨⟨t161, t162⟩, A160, H⟩ := H
              replace H : ((num_MulDiv.f (Int.tmod (wrap64 (a0)) 33554432) (Int.tmod (wrap64 (a1)) 33554432) (Int.tmod a2 1125899906842625) 1).bind fun bt163 => ((num_MulDiv.f (Int.tmod (wrap64 (a0)) 33554432) (Int.tmod (wrap64 (a1)) 33554432) (Int.tmod a2 1125899906842625) 2).bind fun bt165 => (if (Int.tmod a2 1125899906842625) = 0 then (if t162 = 16 then (if bt163.2 = 16 then (if bt165.2 = 16 then (if t161 = 0 then (if bt163.1 = 0 then (if bt165.1 = 0 then ((papermilllaw01_awake.f kj6).bind fun t167 => (some t167)) else (some false)) else (some false)) else (some false)) else (some false)) else (some false)) else (some false)) else (if t162 = 0 then (if bt163.2 = 0 then (if bt165.2 = 0 then (if t161 < (-1125899906842624) then (papermilllaw01_NumExact.j1 kj6 (Int.tmod a2 1125899906842625) t155 t161 bt163.1 bt165.1 true) else (if t161 > 1125899906842624 then (papermilllaw01_NumExact.j1 kj6 (Int.tmod a2 1125899906842625) t155 t161 bt163.1 bt165.1 true) else (if (wrap64 (bt163.1 - t161)) < 0 then (papermilllaw01_NumExact.j1 kj6 (Int.tmod a2 1125899906842625) t155 t161 bt163.1 bt165.1 true) else (if (wrap64 (bt163.1 - t161)) > 1 then (papermilllaw01_NumExact.j1 kj6 (Int.tmod a2 1125899906842625) t155 t161 bt163.1 bt165.1 true) else (if bt165.1 = t161 then (papermilllaw01_NumExact.j1 kj6 (Int.tmod a2 1125899906842625) t155 t161 bt163.1 bt165.1 false) else (papermilllaw01_NumExact.j1 kj6 (Int.tmod a2 1125899906842625) t155 t161 bt163.1 bt165.1 (bt165.1 != bt163.1))))))) else (papermilllaw01_NumExact.j1 kj6 (Int.tmod a2 1125899906842625) t155 t161 bt163.1 bt165.1 true)) else (papermilllaw01_NumExact.j1 kj6 (Int.tmod a2 1125899906842625) t155 t161 bt163.1 bt165.1 true)) else (papermilllaw01_NumExact.j1 kj6 (Int.tmod a2 1125899906842625) t155 t161 bt163.1 bt165.1 true))))) = some r := H
              have A16 := Aside0.mk A160
              clear A160
              replace H := Option.bind_eq_some_iff.mp H
              obtain ⟨⟨t163, t164⟩, A170, H⟩ := H
              replace H : ((num_MulDiv.f (Int.tmod (wrap64 (a0)) 33554432) (Int.tmod (wrap64 (a1)) 33554432) (Int.tmod a2 1125899906842625) 2).bind fun bt165 => (if (Int.tmod a2 1125899906842625) = 0 then (if t162 = 16 then (if t164 = 16 then (if bt165.2 = 16 then (if t161 = 0 then (if t163 = 0 then (if bt165.1 = 0 then ((papermilllaw01_awake.f kj6).bind fun t167 => (some t167)) else (some false)) else (some false)) else (some false)) else (some false)) else (some false)) else (some false)) else (if t162 = 0 then (if t164 = 0 then (if bt165.2 = 0 then (if t161 < (-1125899906842624) then (papermilllaw01_NumExact.j1 kj6 (Int.tmod a2 1125899906842625) t155 t161 t163 bt165.1 true) else (if t161 > 1125899906842624 then (papermilllaw01_NumExact.j1 kj6 (Int.tmod a2 1125899906842625) t155 t161 t163 bt165.1 true) else (if (wrap64 (t163 - t161)) < 0 then (papermilllaw01_NumExact.j1 kj6 (Int.tmod a2 1125899906842625) t155 t161 t163 bt165.1 true) else (if (wrap64 (t163 - t161)) > 1 then (papermilllaw01_NumExact.j1 kj6 (Int.tmod a2 1125899906842625) t155 t161 t163 bt165.1 true) else (if bt165.1 = t161 then (papermilllaw01_NumExact.j1 kj6 (Int.tmod a2 1125899906842625) t155 t161 t163 bt165.1 false) else (papermilllaw01_NumExact.j1 kj6 (Int.tmod a2 1125899906842625) t155 t161 t163 bt165.1 (bt165.1 != t163))))))) else (papermilllaw01_NumExact.j1 kj6 (Int.tmod a2 1125899906842625) t155 t161 t163 bt165.1 true)) else (papermilllaw01_NumExact.j1 kj6 (Int.tmod a2 1125899906842625) t155 t161 t163 bt165.1 true)) else (papermilllaw01_NumExact.j1 kj6 (Int.tmod a2 1125899906842625) t155 t161 t163 bt165.1 true)))) = some r := H
              have A17 := Aside0.mk A170
              clear A170
              replace H := Option.bind_eq_some_iff.mp H
              obtain ⟨⟨t165, t166⟩, A180, H⟩ := H
              replace H : (if (Int.tmod a2 1125899906842625) = 0 then (if t162 = 16 then (if t164 = 16 then (if t166 = 16 then (if t161 = 0 then (if t163 = 0 then (if t165 = 0 then ((papermilllaw01_awake.f kj6).bind fun t167 => (some t167)) else (some false)) else (some false)) else (some false)) else (some false)) else (some false)) else (some false)) else (if t162 = 0 then (if t164 = 0 then (if t166 = 0 then (if t161 < (-1125899906842624) then (papermilllaw01_NumExact.j1 kj6 (Int.tmod a2 1125899906842625) t155 t161 t163 t165 true) else (if t161 > 1125899906842624 then (papermilllaw01_NumExact.j1 kj6 (Int.tmod a2 1125899906842625) t155 t161 t163 t165 true) else (if (wrap64 (t163 - t161)) < 0 then (papermilllaw01_NumExact.j1 kj6 (Int.tmod a2 1125899906842625) t155 t161 t163 t165 true) else (if (wrap64 (t163 - t161)) > 1 then (papermilllaw01_NumExact.j1 kj6 (Int.tmod a2 1125899906842625) t155 t161 t163 t165 true) else (if t165 = t161 then (papermilllaw01_NumExact.j1 kj6 (Int.tmod a2 1125899906842625) t155 t161 t163 t165 false) else (papermilllaw01_NumExact.j1 kj6 (Int.tmod a2 1125899906842625) t155 t161 t163 t165 (t165 != t163))))))) else (papermilllaw01_NumExact.j1 kj6 (Int.tmod a2 1125899906842625) t155 t161 t163 t165 true)) else (papermilllaw01_NumExact.j1 kj6 (Int.tmod a2 1125899906842625) t155 t161 t163 t165 true)) else (papermilllaw01_NumExact.j1 kj6 (Int.tmod a2 1125899906842625) t155 t161 t163 t165 true))) = some r := H
              have A18 := Aside0.mk A180
              clear A180
              by_cases c19 : (Int.tmod a2 1125899906842625) = 0
              · as_aux_lemma =>
                  rw [if_pos c19] at H
                  have c19b0 : ((Int.tmod a2 1125899906842625) == 0) = true := beq_iff_eq.mpr c19
                  have c19b1 : ((Int.tmod a2 1125899906842625) != 0) = false := bne_eq_false_iff_eq.mpr c19
                  clear c19
                  by_cases c20 : t162 = 16
                  · as_aux_lemma =>
                      rw [if_pos c20] at H
                      have c20b0 : (t162 == 16) = true := beq_iff_eq.mpr c20
                      have c20b1 : (t162 != 16) = false := bne_eq_false_iff_eq.mpr c20
                      clear c20
                      by_cases c21 : t164 = 16
                      · as_aux_lemma =>
                          rw [if_pos c21] at H
                          have c21b0 : (t164 == 16) = true := beq_iff_eq.mpr c21
                          have c21b1 : (t164 != 16) = false := bne_eq_false_iff_eq.mpr c21
                          clear c21
                          by_cases c22 : t166 = 16
                          · as_aux_lemma =>
                              rw [if_pos c22] at H
                              have c22b0 : (t166 == 16) = true := beq_iff_eq.mpr c22
                              have c22b1 : (t166 != 16) = false := bne_eq_false_iff_eq.mpr c22
                              clear c22
                              by_cases c23 : t161 = 0
                              · as_aux_lemma =>
                                  rw [if_pos c23] at H
                                  have c23b0 : (t161 == 0) = true := beq_iff_eq.mpr c23
                                  have c23b1 : (t161 != 0) = false := bne_eq_false_iff_eq.mpr c23
                                  clear c23
                                  by_cases c24 : t163 = 0
                                  · as_aux_lemma =>
                                      rw [if_pos c24] at H
                                      have c24b0 : (t163 == 0) = true := beq_iff_eq.mpr c24
                                      have c24b1 : (t163 != 0) = false := bne_eq_false_iff_eq.mpr c24
                                      clear c24
                                      by_cases c25 : t165 = 0
                                      · as_aux_lemma =>
                                          rw [if_pos c25] at H
                                          have c25b0 : (t165 == 0) = true := beq_iff_eq.mpr c25
                                          have c25b1 : (t165 != 0) = false := bne_eq_false_iff_eq.mpr c25
                                          clear c25
                                          replace H := Option.bind_eq_some_iff.mp H
                                          obtain ⟨t167, A260, H⟩ := H
                                          replace H : (some t167) = some r := H
                                          have A26 := Aside0.mk A260
                                          clear A260
                                          first
                                            | exact absurd ((Option.some.inj H).trans hr_.out) (by decide)
                                            | (skip
                                               obtain rfl := Option.some.inj H
                                               as_aux_lemma =>
                                                 go_wp2_with (first | ((with_reducible refine gate_callee (f := 7) rfl ?_); refine goesL_ (some 76) rfl rfl Try.func7 (by kernel_rfl) rfl #[.int .i64 (Int.tmod (wrap64 (a0)) 33554432), .int .i64 (Int.tmod (wrap64 (a1)) 33554432), .int .i64 (Int.tmod a2 1125899906842625), .int .i64 0] rfl (by (try simp only [List.map_toArray, List.map_cons, List.map_nil]); first | done | rfl | (simp only [List.length_drop, List.length_take]; rfl)) ?_; (with_reducible refine (num_MulDiv.calls (Int.tmod (wrap64 (a0)) 33554432) (Int.tmod (wrap64 (a1)) 33554432) (Int.tmod a2 1125899906842625) 0 t161 t162 _ A16.out).mono ?_); rintro e w27 ⟨rfl, hb⟩; refine ⟨_, rfl, ?_⟩; have n0_ := Aside0.mk (below_step (by repeat (first | (with_reducible first | exact HB.out | apply below_alloc | apply pw_below_drewN | apply below_drew1) | exact HB.out)) hb); clear HB; have HB := n0_; clear n0_; (try clear hb); (try clear hb2); (try clear hk); (try clear hi)) | ((with_reducible refine gate_callee (f := 7) rfl ?_); refine goesL_ (some 83) rfl rfl Try.func7 (by kernel_rfl) rfl #[.int .i64 (Int.tmod (wrap64 (a0)) 33554432), .int .i64 (Int.tmod (wrap64 (a1)) 33554432), .int .i64 (Int.tmod a2 1125899906842625), .int .i64 1] rfl (by (try simp only [List.map_toArray, List.map_cons, List.map_nil]); first | done | rfl | (simp only [List.length_drop, List.length_take]; rfl)) ?_; (with_reducible refine (num_MulDiv.calls (Int.tmod (wrap64 (a0)) 33554432) (Int.tmod (wrap64 (a1)) 33554432) (Int.tmod a2 1125899906842625) 1 t163 t164 _ A17.out).mono ?_); rintro e w28 ⟨rfl, hb⟩; refine ⟨_, rfl, ?_⟩; have n0_ := Aside0.mk (below_step (by repeat (first | (with_reducible first | exact HB.out | apply below_alloc | apply pw_below_drewN | apply below_drew1) | exact HB.out)) hb); clear HB; have HB := n0_; clear n0_; (try clear hb); (try clear hb2); (try clear hk); (try clear hi)) | ((with_reducible refine gate_callee (f := 7) rfl ?_); refine goesL_ (some 90) rfl rfl Try.func7 (by kernel_rfl) rfl #[.int .i64 (Int.tmod (wrap64 (a0)) 33554432), .int .i64 (Int.tmod (wrap64 (a1)) 33554432), .int .i64 (Int.tmod a2 1125899906842625), .int .i64 2] rfl (by (try simp only [List.map_toArray, List.map_cons, List.map_nil]); first | done | rfl | (simp only [List.length_drop, List.length_take]; rfl)) ?_; (with_reducible refine (num_MulDiv.calls (Int.tmod (wrap64 (a0)) 33554432) (Int.tmod (wrap64 (a1)) 33554432) (Int.tmod a2 1125899906842625) 2 t165 t166 _ A18.out).mono ?_); rintro e w29 ⟨rfl, hb⟩; refine ⟨_, rfl, ?_⟩; have n0_ := Aside0.mk (below_step (by repeat (first | (with_reducible first | exact HB.out | apply below_alloc | apply pw_below_drewN | apply below_drew1) | exact HB.out)) hb); clear HB; have HB := n0_; clear n0_; (try clear hb); (try clear hb2); (try clear hk); (try clear hi)) | (go_at_call 8; (with_reducible refine (papermilllaw01_awake.calls kj6  t167 _ A26.out).mono ?_); rintro e w30 ⟨rfl, hb⟩; have n0_ := Aside0.mk (below_step (by repeat (first | (with_reducible first | exact HB.out | apply below_alloc | apply pw_below_drewN | apply below_drew1) | exact HB.out)) hb); clear HB; have HB := n0_; clear n0_; (try clear hb); (try clear hb2); (try clear hk); (try clear hi)))
                                                 go_ret
                                                 exact ⟨by first | rfl | (simp [errW_none, errW_some] <;> rfl) | (simp [*, errW_none, errW_some] <;> rfl), by repeat (first | (with_reducible first | exact HB.out | apply below_alloc | apply pw_below_drewN | apply below_drew1) | exact HB.out)⟩)
                                      · rw [if_neg c25] at H
                                        have c25b0 : (t165 == 0) = false := beq_eq_false_iff_ne.mpr c25
                                        have c25b1 : (t165 != 0) = true := bne_iff_ne.mpr c25
                                        exact absurd ((Option.some.inj H).trans hr_.out) (by decide)
                                  · rw [if_neg c24] at H
                                    have c24b0 : (t163 == 0) = false := beq_eq_false_iff_ne.mpr c24
                                    have c24b1 : (t163 != 0) = true := bne_iff_ne.mpr c24
                                    exact absurd ((Option.some.inj H).trans hr_.out) (by decide)
                              · rw [if_neg c23] at H
                                have c23b0 : (t161 == 0) = false := beq_eq_false_iff_ne.mpr c23
                                have c23b1 : (t161 != 0) = true := bne_iff_ne.mpr c23
                                exact absurd ((Option.some.inj H).trans hr_.out) (by decide)
                          · rw [if_neg c22] at H
                            have c22b0 : (t166 == 16) = false := beq_eq_false_iff_ne.mpr c22
                            have c22b1 : (t166 != 16) = true := bne_iff_ne.mpr c22
                            exact absurd ((Option.some.inj H).trans hr_.out) (by decide)
                      · rw [if_neg c21] at H
                        have c21b0 : (t164 == 16) = false := beq_eq_false_iff_ne.mpr c21
                        have c21b1 : (t164 != 16) = true := bne_iff_ne.mpr c21
                        exact absurd ((Option.some.inj H).trans hr_.out) (by decide)
                  · rw [if_neg c20] at H
                    have c20b0 : (t162 == 16) = false := beq_eq_false_iff_ne.mpr c20
                    have c20b1 : (t162 != 16) = true := bne_iff_ne.mpr c20
                    exact absurd ((Option.some.inj H).trans hr_.out) (by decide)
              · as_aux_lemma =>
                  rw [if_neg c19] at H
                  have c19b0 : ((Int.tmod a2 1125899906842625) == 0) = false := beq_eq_false_iff_ne.mpr c19
                  have c19b1 : ((Int.tmod a2 1125899906842625) != 0) = true := bne_iff_ne.mpr c19
                  have HC49 := Aside0.mk H
                  clear H
                  go_upto_region 12 with (first | ((with_reducible refine gate_callee (f := 7) rfl ?_); refine goesL_ (some 76) rfl rfl Try.func7 (by kernel_rfl) rfl #[.int .i64 (Int.tmod (wrap64 (a0)) 33554432), .int .i64 (Int.tmod (wrap64 (a1)) 33554432), .int .i64 (Int.tmod a2 1125899906842625), .int .i64 0] rfl (by (try simp only [List.map_toArray, List.map_cons, List.map_nil]); first | done | rfl | (simp only [List.length_drop, List.length_take]; rfl)) ?_; (with_reducible refine (num_MulDiv.calls (Int.tmod (wrap64 (a0)) 33554432) (Int.tmod (wrap64 (a1)) 33554432) (Int.tmod a2 1125899906842625) 0 t161 t162 _ A16.out).mono ?_); rintro e w50 ⟨rfl, hb⟩; refine ⟨_, rfl, ?_⟩; have n0_ := Aside0.mk (below_step (by repeat (first | (with_reducible first | exact HB.out | apply below_alloc | apply pw_below_drewN | apply below_drew1) | exact HB.out)) hb); clear HB; have HB := n0_; clear n0_; (try clear hb); (try clear hb2); (try clear hk); (try clear hi)) | ((with_reducible refine gate_callee (f := 7) rfl ?_); refine goesL_ (some 83) rfl rfl Try.func7 (by kernel_rfl) rfl #[.int .i64 (Int.tmod (wrap64 (a0)) 33554432), .int .i64 (Int.tmod (wrap64 (a1)) 33554432), .int .i64 (Int.tmod a2 1125899906842625), .int .i64 1] rfl (by (try simp only [List.map_toArray, List.map_cons, List.map_nil]); first | done | rfl | (simp only [List.length_drop, List.length_take]; rfl)) ?_; (with_reducible refine (num_MulDiv.calls (Int.tmod (wrap64 (a0)) 33554432) (Int.tmod (wrap64 (a1)) 33554432) (Int.tmod a2 1125899906842625) 1 t163 t164 _ A17.out).mono ?_); rintro e w51 ⟨rfl, hb⟩; refine ⟨_, rfl, ?_⟩; have n0_ := Aside0.mk (below_step (by repeat (first | (with_reducible first | exact HB.out | apply below_alloc | apply pw_below_drewN | apply below_drew1) | exact HB.out)) hb); clear HB; have HB := n0_; clear n0_; (try clear hb); (try clear hb2); (try clear hk); (try clear hi)) | ((with_reducible refine gate_callee (f := 7) rfl ?_); refine goesL_ (some 90) rfl rfl Try.func7 (by kernel_rfl) rfl #[.int .i64 (Int.tmod (wrap64 (a0)) 33554432), .int .i64 (Int.tmod (wrap64 (a1)) 33554432), .int .i64 (Int.tmod a2 1125899906842625), .int .i64 2] rfl (by (try simp only [List.map_toArray, List.map_cons, List.map_nil]); first | done | rfl | (simp only [List.length_drop, List.length_take]; rfl)) ?_; (with_reducible refine (num_MulDiv.calls (Int.tmod (wrap64 (a0)) 33554432) (Int.tmod (wrap64 (a1)) 33554432) (Int.tmod a2 1125899906842625) 2 t165 t166 _ A18.out).mono ?_); rintro e w52 ⟨rfl, hb⟩; refine ⟨_, rfl, ?_⟩; have n0_ := Aside0.mk (below_step (by repeat (first | (with_reducible first | exact HB.out | apply below_alloc | apply pw_below_drewN | apply below_drew1) | exact HB.out)) hb); clear HB; have HB := n0_; clear n0_; (try clear hb); (try clear hb2); (try clear hk); (try clear hi)))
                  (try simp only [Act.put, List.setIfInBounds_toArray, List.set_cons_zero, List.set_cons_succ])
                  go_cut [159] (fun v159 wc => ∃ (kq : Nat) (x159_48 : Bool), v159 = .bool x159_48 ∧ Aside0 (papermilllaw01_NumExact.j1 kq (Int.tmod a2 1125899906842625) t155 t161 t163 t165 x159_48 = some r) ∧ Aside0 (kq ≤ kj6) ∧ Aside0 (Below w.heap.size w wc))
                  case first =>
                    as_aux_lemma =>
                      have H := HC49.out
                      clear HC49
                      by_cases c53 : t162 = 0
                      · as_aux_lemma =>
                          rw [if_pos c53] at H
                          have c53b0 : (t162 == 0) = true := beq_iff_eq.mpr c53
                          have c53b1 : (t162 != 0) = false := bne_eq_false_iff_eq.mpr c53
                          clear c53
                          (first | rw [c53b0] | (simp only [i64_w, i32_w]; rw [c53b0]) | skip)
                          by_cases c54 : t164 = 0
                          · as_aux_lemma =>
                              rw [if_pos c54] at H
                              have c54b0 : (t164 == 0) = true := beq_iff_eq.mpr c54
                              have c54b1 : (t164 != 0) = false := bne_eq_false_iff_eq.mpr c54
                              clear c54
                              by_cases c55 : t166 = 0
                              · as_aux_lemma =>
                                  rw [if_pos c55] at H
                                  have c55b0 : (t166 == 0) = true := beq_iff_eq.mpr c55
                                  have c55b1 : (t166 != 0) = false := bne_eq_false_iff_eq.mpr c55
                                  clear c55
                                  by_cases c56 : t161 < (-1125899906842624)
                                  · rw [if_pos c56] at H
                                    have c56b0 : decide (t161 < (-1125899906842624)) = true := decide_eq_true c56
                                    clear c56
                                    have H' := Aside0.mk H
                                    clear H
                                    go_wp2
                                    go_meet
                                    case rel => exact ⟨_, (true), (by first | rfl | (simp; done) | (simp [*]; done)), H', ⟨by have := HJ6.out; first | omega | exact Nat.le_refl _⟩, ⟨by repeat (first | (with_reducible first | exact HB.out | apply below_alloc | apply pw_below_drewN | apply below_drew1) | exact HB.out)⟩⟩
                                  · as_aux_lemma =>
                                      rw [if_neg c56] at H
                                      have c56b0 : decide (t161 < (-1125899906842624)) = false := decide_eq_false c56
                                      clear c56
                                      by_cases c57 : t161 > 1125899906842624
                                      · rw [if_pos c57] at H
                                        have c57b0 : decide (1125899906842624 < t161) = true := decide_eq_true c57
                                        clear c57
                                        have H' := Aside0.mk H
                                        clear H
                                        go_wp2
                                        go_meet
                                        case rel => exact ⟨_, (true), (by first | rfl | (simp; done) | (simp [*]; done)), H', ⟨by have := HJ6.out; first | omega | exact Nat.le_refl _⟩, ⟨by repeat (first | (with_reducible first | exact HB.out | apply below_alloc | apply pw_below_drewN | apply below_drew1) | exact HB.out)⟩⟩
                                      · as_aux_lemma =>
                                          rw [if_neg c57] at H
                                          have c57b0 : decide (1125899906842624 < t161) = false := decide_eq_false c57
                                          clear c57
                                          by_cases c58 : (wrap64 (t163 - t161)) < 0
                                          · rw [if_pos c58] at H
                                            have c58b0 : decide ((wrap64 (t163 - t161)) < 0) = true := decide_eq_true c58
                                            clear c58
                                            have H' := Aside0.mk H
                                            clear H
                                            go_wp2
                                            go_meet
                                            case rel => exact ⟨_, (true), (by first | rfl | (simp; done) | (simp [*]; done)), H', ⟨by have := HJ6.out; first | omega | exact Nat.le_refl _⟩, ⟨by repeat (first | (with_reducible first | exact HB.out | apply below_alloc | apply pw_below_drewN | apply below_drew1) | exact HB.out)⟩⟩
                                          · as_aux_lemma =>
                                              rw [if_neg c58] at H
                                              have c58b0 : decide ((wrap64 (t163 - t161)) < 0) = false := decide_eq_false c58
                                              clear c58
                                              by_cases c59 : (wrap64 (t163 - t161)) > 1
                                              · rw [if_pos c59] at H
                                                have c59b0 : decide (1 < (wrap64 (t163 - t161))) = true := decide_eq_true c59
                                                clear c59
                                                have H' := Aside0.mk H
                                                clear H
                                                go_wp2
                                                go_meet
                                                case rel => exact ⟨_, (true), (by first | rfl | (simp; done) | (simp [*]; done)), H', ⟨by have := HJ6.out; first | omega | exact Nat.le_refl _⟩, ⟨by repeat (first | (with_reducible first | exact HB.out | apply below_alloc | apply pw_below_drewN | apply below_drew1) | exact HB.out)⟩⟩
                                              · as_aux_lemma =>
                                                  rw [if_neg c59] at H
                                                  have c59b0 : decide (1 < (wrap64 (t163 - t161))) = false := decide_eq_false c59
                                                  clear c59
                                                  by_cases c60 : t165 = t161
                                                  · rw [if_pos c60] at H
                                                    have c60b0 : (t165 == t161) = true := beq_iff_eq.mpr c60
                                                    have c60b1 : (t165 != t161) = false := bne_eq_false_iff_eq.mpr c60
                                                    clear c60
                                                    have H' := Aside0.mk H
                                                    clear H
                                                    go_wp2
                                                    go_meet
                                                    case rel => exact ⟨_, (false), (by first | rfl | (simp; done) | (simp [*]; done)), H', ⟨by have := HJ6.out; first | omega | exact Nat.le_refl _⟩, ⟨by repeat (first | (with_reducible first | exact HB.out | apply below_alloc | apply pw_below_drewN | apply below_drew1) | exact HB.out)⟩⟩
                                                  · rw [if_neg c60] at H
                                                    have c60b0 : (t165 == t161) = false := beq_eq_false_iff_ne.mpr c60
                                                    have c60b1 : (t165 != t161) = true := bne_iff_ne.mpr c60
                                                    have H' := Aside0.mk H
                                                    clear H
                                                    go_wp2
                                                    go_meet
                                                    case rel => exact ⟨_, ((t165 != t163)), (by first | rfl | (simp; done) | (simp [*]; done)), H', ⟨by have := HJ6.out; first | omega | exact Nat.le_refl _⟩, ⟨by repeat (first | (with_reducible first | exact HB.out | apply below_alloc | apply pw_below_drewN | apply below_drew1) | exact HB.out)⟩⟩
                              · rw [if_neg c55] at H
                                have c55b0 : (t166 == 0) = false := beq_eq_false_iff_ne.mpr c55
                                have c55b1 : (t166 != 0) = true := bne_iff_ne.mpr c55
                                have H' := Aside0.mk H
                                clear H
                                go_wp2
                                go_meet
                                case rel => exact ⟨_, (true), (by first | rfl | (simp; done) | (simp [*]; done)), H', ⟨by have := HJ6.out; first | omega | exact Nat.le_refl _⟩, ⟨by repeat (first | (with_reducible first | exact HB.out | apply below_alloc | apply pw_below_drewN | apply below_drew1) | exact HB.out)⟩⟩
                          · rw [if_neg c54] at H
                            have c54b0 : (t164 == 0) = false := beq_eq_false_iff_ne.mpr c54
                            have c54b1 : (t164 != 0) = true := bne_iff_ne.mpr c54
                            have H' := Aside0.mk H
                            clear H
                            go_wp2
                            go_meet
                            case rel => exact ⟨_, (true), (by first | rfl | (simp; done) | (simp [*]; done)), H', ⟨by have := HJ6.out; first | omega | exact Nat.le_refl _⟩, ⟨by repeat (first | (with_reducible first | exact HB.out | apply below_alloc | apply pw_below_drewN | apply below_drew1) | exact HB.out)⟩⟩
                      · rw [if_neg c53] at H
                        have c53b0 : (t162 == 0) = false := beq_eq_false_iff_ne.mpr c53
                        have c53b1 : (t162 != 0) = true := bne_iff_ne.mpr c53
                        (first | rw [c53b0] | (simp only [i64_w, i32_w]; rw [c53b0]) | skip)
                        have H' := Aside0.mk H
                        clear H
                        go_wp2
                        go_meet
                        case rel => exact ⟨_, (true), (by first | rfl | (simp; done) | (simp [*]; done)), H', ⟨by have := HJ6.out; first | omega | exact Nat.le_refl _⟩, ⟨by repeat (first | (with_reducible first | exact HB.out | apply below_alloc | apply pw_below_drewN | apply below_drew1) | exact HB.out)⟩⟩
                  case rest =>
                    as_aux_lemma =>
                      clear HC49
                      try clear c1
                      try clear c2
                      try clear p2
                      try clear c3
                      try clear c4
                      try clear c5
                      try clear c6
                      try clear p6
                      try clear c7
                      try clear c11
                      try clear c11b0
                      try clear c11b1
                      try clear c12
                      try clear c12b0
                      try clear c12b1
                      try clear c13
                      try clear c13b0
                      try clear c13b1
                      try clear c14
                      try clear c14b0
                      try clear c14b1
                      try clear c15
                      try clear c19
                      try clear c19b0
                      try clear c19b1
                      try clear c20
                      try clear c20b0
                      try clear c20b1
                      try clear c21
                      try clear c21b0
                      try clear c21b1
                      try clear c22
                      try clear c22b0
                      try clear c22b1
                      try clear c23
                      try clear c23b0
                      try clear c23b1
                      try clear c24
                      try clear c24b0
                      try clear c24b1
                      try clear c25
                      try clear c25b0
                      try clear c25b1
                      try clear c53
                      try clear c53b0
                      try clear c53b1
                      try clear c54
                      try clear c54b0
                      try clear c54b1
                      try clear c55
                      try clear c55b0
                      try clear c55b1
                      try clear c56
                      try clear c56b0
                      try clear c57
                      try clear c57b0
                      try clear c58
                      try clear c58b0
                      try clear c59
                      try clear c59b0
                      try clear c60
                      try clear c60b0
                      try clear c60b1
                      try clear p2
                      try clear p6
                      obtain ⟨kq, x159_48, rfl, HA, HJ48, HB⟩ := hcut
                      cases kq with
                      | zero => exact absurd HA.out (by simp [papermilllaw01_NumExact.j1])
                      | succ kj48 =>
                        as_aux_lemma =>
                          have H := HA.out
                          clear HA
                          simp only [papermilllaw01_NumExact.j1] at H
                          by_cases c61 : x159_48 = true
                          · subst c61
                            have H1 : (some false) = some r := by rw [if_pos rfl] at H; exact H
                            clear H
                            have H := H1
                            clear H1
                            exact absurd ((Option.some.inj H).trans hr_.out) (by decide)
                          · as_aux_lemma =>
                              replace c61 := Bool.eq_false_iff.mpr c61
                              subst c61
                              have H1 : (if (Int.tmod a2 1125899906842625) < 0 then (if (wrap64 (-(wrap64 (t155 - (wrap64 (t161 * (Int.tmod a2 1125899906842625))))))) < 0 then (some false) else (if (wrap64 (-(wrap64 (t155 - (wrap64 (t161 * (Int.tmod a2 1125899906842625))))))) ≥ (wrap64 (-(Int.tmod a2 1125899906842625))) then (some false) else (if (((wrap64 (-(wrap64 (t155 - (wrap64 (t161 * (Int.tmod a2 1125899906842625))))))) == 0) != (t161 == t163)) = true then (some false) else (if (((wrap64 (-(wrap64 (t155 - (wrap64 (t161 * (Int.tmod a2 1125899906842625))))))) == 0) != ((wrap64 (t161 * (Int.tmod a2 1125899906842625))) == t155)) = true then (some false) else (if (wrap64 (2 * (wrap64 (-(wrap64 (t155 - (wrap64 (t161 * (Int.tmod a2 1125899906842625))))))))) ≥ (wrap64 (-(Int.tmod a2 1125899906842625))) then (if (wrap64 (2 * (wrap64 (-(wrap64 (t155 - (wrap64 (t161 * (Int.tmod a2 1125899906842625))))))))) ≤ (wrap64 (-(Int.tmod a2 1125899906842625))) then (if (wrap64 (2 * (wrap64 (-(wrap64 (t155 - (wrap64 (t161 * (Int.tmod a2 1125899906842625))))))))) = (wrap64 (-(Int.tmod a2 1125899906842625))) then (if (Int.tmod t165 2) = 0 then ((papermilllaw01_awake.f kj48).bind fun t168 => (some t168)) else (some false)) else ((papermilllaw01_awake.f kj48).bind fun t169 => (some t169))) else (if t165 = t163 then (if (wrap64 (2 * (wrap64 (-(wrap64 (t155 - (wrap64 (t161 * (Int.tmod a2 1125899906842625))))))))) = (wrap64 (-(Int.tmod a2 1125899906842625))) then (if (Int.tmod t165 2) = 0 then ((papermilllaw01_awake.f kj48).bind fun t170 => (some t170)) else (some false)) else ((papermilllaw01_awake.f kj48).bind fun t171 => (some t171))) else (some false))) else (if t165 = t161 then (if (wrap64 (2 * (wrap64 (-(wrap64 (t155 - (wrap64 (t161 * (Int.tmod a2 1125899906842625))))))))) ≤ (wrap64 (-(Int.tmod a2 1125899906842625))) then (if (wrap64 (2 * (wrap64 (-(wrap64 (t155 - (wrap64 (t161 * (Int.tmod a2 1125899906842625))))))))) = (wrap64 (-(Int.tmod a2 1125899906842625))) then (if (Int.tmod t165 2) = 0 then ((papermilllaw01_awake.f kj48).bind fun t172 => (some t172)) else (some false)) else ((papermilllaw01_awake.f kj48).bind fun t173 => (some t173))) else (if t165 = t163 then (if (wrap64 (2 * (wrap64 (-(wrap64 (t155 - (wrap64 (t161 * (Int.tmod a2 1125899906842625))))))))) = (wrap64 (-(Int.tmod a2 1125899906842625))) then (if (Int.tmod t165 2) = 0 then ((papermilllaw01_awake.f kj48).bind fun t174 => (some t174)) else (some false)) else ((papermilllaw01_awake.f kj48).bind fun t175 => (some t175))) else (some false))) else (some false))))))) else (if (wrap64 (t155 - (wrap64 (t161 * (Int.tmod a2 1125899906842625))))) < 0 then (some false) else (if (wrap64 (t155 - (wrap64 (t161 * (Int.tmod a2 1125899906842625))))) ≥ (Int.tmod a2 1125899906842625) then (some false) else (if (((wrap64 (t155 - (wrap64 (t161 * (Int.tmod a2 1125899906842625))))) == 0) != (t161 == t163)) = true then (some false) else (if (((wrap64 (t155 - (wrap64 (t161 * (Int.tmod a2 1125899906842625))))) == 0) != ((wrap64 (t161 * (Int.tmod a2 1125899906842625))) == t155)) = true then (some false) else (if (wrap64 (2 * (wrap64 (t155 - (wrap64 (t161 * (Int.tmod a2 1125899906842625))))))) ≥ (Int.tmod a2 1125899906842625) then (if (wrap64 (2 * (wrap64 (t155 - (wrap64 (t161 * (Int.tmod a2 1125899906842625))))))) ≤ (Int.tmod a2 1125899906842625) then (if (wrap64 (2 * (wrap64 (t155 - (wrap64 (t161 * (Int.tmod a2 1125899906842625))))))) = (Int.tmod a2 1125899906842625) then (if (Int.tmod t165 2) = 0 then ((papermilllaw01_awake.f kj48).bind fun t176 => (some t176)) else (some false)) else ((papermilllaw01_awake.f kj48).bind fun t177 => (some t177))) else (if t165 = t163 then (if (wrap64 (2 * (wrap64 (t155 - (wrap64 (t161 * (Int.tmod a2 1125899906842625))))))) = (Int.tmod a2 1125899906842625) then (if (Int.tmod t165 2) = 0 then ((papermilllaw01_awake.f kj48).bind fun t178 => (some t178)) else (some false)) else ((papermilllaw01_awake.f kj48).bind fun t179 => (some t179))) else (some false))) else (if t165 = t161 then (if (wrap64 (2 * (wrap64 (t155 - (wrap64 (t161 * (Int.tmod a2 1125899906842625))))))) ≤ (Int.tmod a2 1125899906842625) then (if (wrap64 (2 * (wrap64 (t155 - (wrap64 (t161 * (Int.tmod a2 1125899906842625))))))) = (Int.tmod a2 1125899906842625) then (if (Int.tmod t165 2) = 0 then ((papermilllaw01_awake.f kj48).bind fun t180 => (some t180)) else (some false)) else ((papermilllaw01_awake.f kj48).bind fun t181 => (some t181))) else (if t165 = t163 then (if (wrap64 (2 * (wrap64 (t155 - (wrap64 (t161 * (Int.tmod a2 1125899906842625))))))) = (Int.tmod a2 1125899906842625) then (if (Int.tmod t165 2) = 0 then ((papermilllaw01_awake.f kj48).bind fun t182 => (some t182)) else (some false)) else ((papermilllaw01_awake.f kj48).bind fun t183 => (some t183))) else (some false))) else (some false)))))))) = some r := by rw [if_neg (show ¬ (false = true) by decide)] at H; exact H
                              clear H
                              have H := H1
                              clear H1
                              by_cases c62 : (Int.tmod a2 1125899906842625) < 0
                              · as_aux_lemma =>
                                  rw [if_pos c62] at H
                                  have c62b0 : decide ((Int.tmod a2 1125899906842625) < 0) = true := decide_eq_true c62
                                  clear c62
                                  by_cases c63 : (wrap64 (-(wrap64 (t155 - (wrap64 (t161 * (Int.tmod a2 1125899906842625))))))) < 0
                                  · rw [if_pos c63] at H
                                    have c63b0 : decide ((wrap64 (-(wrap64 (t155 - (wrap64 (t161 * (Int.tmod a2 1125899906842625))))))) < 0) = true := decide_eq_true c63
                                    clear c63
                                    exact absurd ((Option.some.inj H).trans hr_.out) (by decide)
                                  · as_aux_lemma =>
                                      rw [if_neg c63] at H
                                      have c63b0 : decide ((wrap64 (-(wrap64 (t155 - (wrap64 (t161 * (Int.tmod a2 1125899906842625))))))) < 0) = false := decide_eq_false c63
                                      clear c63
                                      by_cases c64 : (wrap64 (-(wrap64 (t155 - (wrap64 (t161 * (Int.tmod a2 1125899906842625))))))) ≥ (wrap64 (-(Int.tmod a2 1125899906842625)))
                                      · rw [if_pos c64] at H
                                        have c64b0 : decide ((wrap64 (-(Int.tmod a2 1125899906842625))) ≤ (wrap64 (-(wrap64 (t155 - (wrap64 (t161 * (Int.tmod a2 1125899906842625)))))))) = true := decide_eq_true c64
                                        clear c64
                                        exact absurd ((Option.some.inj H).trans hr_.out) (by decide)
                                      · as_aux_lemma =>
                                          rw [if_neg c64] at H
                                          have c64b0 : decide ((wrap64 (-(Int.tmod a2 1125899906842625))) ≤ (wrap64 (-(wrap64 (t155 - (wrap64 (t161 * (Int.tmod a2 1125899906842625)))))))) = false := decide_eq_false c64
                                          clear c64
                                          by_cases c65 : (((wrap64 (-(wrap64 (t155 - (wrap64 (t161 * (Int.tmod a2 1125899906842625))))))) == 0) != (t161 == t163)) = true
                                          · rw [if_pos c65] at H
                                            have c65b0 : (((wrap64 (-(wrap64 (t155 - (wrap64 (t161 * (Int.tmod a2 1125899906842625))))))) == 0) != (t161 == t163)) = true := c65
                                            (try (have c65b1 : decide (((wrap64 (-(wrap64 (t155 - (wrap64 (t161 * (Int.tmod a2 1125899906842625))))))) == 0) = (t161 == t163)) = false := by simpa using c65))
                                            (try (have c65b2 : (((wrap64 (-(wrap64 (t155 - (wrap64 (t161 * (Int.tmod a2 1125899906842625))))))) == 0) == (t161 == t163)) = false := by simpa using c65))
                                            (try (have c65b3 : ¬ (((wrap64 (-(wrap64 (t155 - (wrap64 (t161 * (Int.tmod a2 1125899906842625))))))) == 0) = (t161 == t163)) := by simpa using c65))
                                            clear c65
                                            exact absurd ((Option.some.inj H).trans hr_.out) (by decide)
                                          · as_aux_lemma =>
                                              rw [if_neg c65] at H
                                              have c65b0 : (((wrap64 (-(wrap64 (t155 - (wrap64 (t161 * (Int.tmod a2 1125899906842625))))))) == 0) != (t161 == t163)) = false := by simpa using c65
                                              (try (have c65b1 : decide (((wrap64 (-(wrap64 (t155 - (wrap64 (t161 * (Int.tmod a2 1125899906842625))))))) == 0) = (t161 == t163)) = true := by simpa using c65))
                                              (try (have c65b2 : (((wrap64 (-(wrap64 (t155 - (wrap64 (t161 * (Int.tmod a2 1125899906842625))))))) == 0) == (t161 == t163)) = true := by simpa using c65))
                                              clear c65
                                              by_cases c66 : (((wrap64 (-(wrap64 (t155 - (wrap64 (t161 * (Int.tmod a2 1125899906842625))))))) == 0) != ((wrap64 (t161 * (Int.tmod a2 1125899906842625))) == t155)) = true
                                              · rw [if_pos c66] at H
                                                have c66b0 : (((wrap64 (-(wrap64 (t155 - (wrap64 (t161 * (Int.tmod a2 1125899906842625))))))) == 0) != ((wrap64 (t161 * (Int.tmod a2 1125899906842625))) == t155)) = true := c66
                                                (try (have c66b1 : decide (((wrap64 (-(wrap64 (t155 - (wrap64 (t161 * (Int.tmod a2 1125899906842625))))))) == 0) = ((wrap64 (t161 * (Int.tmod a2 1125899906842625))) == t155)) = false := by simpa using c66))
                                                (try (have c66b2 : (((wrap64 (-(wrap64 (t155 - (wrap64 (t161 * (Int.tmod a2 1125899906842625))))))) == 0) == ((wrap64 (t161 * (Int.tmod a2 1125899906842625))) == t155)) = false := by simpa using c66))
                                                (try (have c66b3 : ¬ (((wrap64 (-(wrap64 (t155 - (wrap64 (t161 * (Int.tmod a2 1125899906842625))))))) == 0) = ((wrap64 (t161 * (Int.tmod a2 1125899906842625))) == t155)) := by simpa using c66))
                                                clear c66
                                                exact absurd ((Option.some.inj H).trans hr_.out) (by decide)
                                              · as_aux_lemma =>
                                                  rw [if_neg c66] at H
                                                  have c66b0 : (((wrap64 (-(wrap64 (t155 - (wrap64 (t161 * (Int.tmod a2 1125899906842625))))))) == 0) != ((wrap64 (t161 * (Int.tmod a2 1125899906842625))) == t155)) = false := by simpa using c66
                                                  (try (have c66b1 : decide (((wrap64 (-(wrap64 (t155 - (wrap64 (t161 * (Int.tmod a2 1125899906842625))))))) == 0) = ((wrap64 (t161 * (Int.tmod a2 1125899906842625))) == t155)) = true := by simpa using c66))
                                                  (try (have c66b2 : (((wrap64 (-(wrap64 (t155 - (wrap64 (t161 * (Int.tmod a2 1125899906842625))))))) == 0) == ((wrap64 (t161 * (Int.tmod a2 1125899906842625))) == t155)) = true := by simpa using c66))
                                                  clear c66
                                                  by_cases c67 : (wrap64 (2 * (wrap64 (-(wrap64 (t155 - (wrap64 (t161 * (Int.tmod a2 1125899906842625))))))))) ≥ (wrap64 (-(Int.tmod a2 1125899906842625)))
                                                  · as_aux_lemma =>
                                                      rw [if_pos c67] at H
                                                      have c67b0 : decide ((wrap64 (-(Int.tmod a2 1125899906842625))) ≤ (wrap64 (2 * (wrap64 (-(wrap64 (t155 - (wrap64 (t161 * (Int.tmod a2 1125899906842625)))))))))) = true := decide_eq_true c67
                                                      clear c67
                                                      by_cases c68 : (wrap64 (2 * (wrap64 (-(wrap64 (t155 - (wrap64 (t161 * (Int.tmod a2 1125899906842625))))))))) ≤ (wrap64 (-(Int.tmod a2 1125899906842625)))
                                                      · as_aux_lemma =>
                                                          rw [if_pos c68] at H
                                                          have c68b0 : decide ((wrap64 (2 * (wrap64 (-(wrap64 (t155 - (wrap64 (t161 * (Int.tmod a2 1125899906842625))))))))) ≤ (wrap64 (-(Int.tmod a2 1125899906842625)))) = true := decide_eq_true c68
                                                          clear c68
                                                          by_cases c69 : (wrap64 (2 * (wrap64 (-(wrap64 (t155 - (wrap64 (t161 * (Int.tmod a2 1125899906842625))))))))) = (wrap64 (-(Int.tmod a2 1125899906842625)))
                                                          · as_aux_lemma =>
                                                              rw [if_pos c69] at H
                                                              have c69b0 : ((wrap64 (2 * (wrap64 (-(wrap64 (t155 - (wrap64 (t161 * (Int.tmod a2 1125899906842625))))))))) == (wrap64 (-(Int.tmod a2 1125899906842625)))) = true := beq_iff_eq.mpr c69
                                                              have c69b1 : ((wrap64 (2 * (wrap64 (-(wrap64 (t155 - (wrap64 (t161 * (Int.tmod a2 1125899906842625))))))))) != (wrap64 (-(Int.tmod a2 1125899906842625)))) = false := bne_eq_false_iff_eq.mpr c69
                                                              clear c69
                                                              by_cases c70 : (Int.tmod t165 2) = 0
                                                              · as_aux_lemma =>
                                                                  rw [if_pos c70] at H
                                                                  have c70b0 : ((Int.tmod t165 2) == 0) = true := beq_iff_eq.mpr c70
                                                                  have c70b1 : ((Int.tmod t165 2) != 0) = false := bne_eq_false_iff_eq.mpr c70
                                                                  clear c70
                                                                  replace H := Option.bind_eq_some_iff.mp H
                                                                  obtain ⟨t168, A710, H⟩ := H
                                                                  replace H : (some t168) = some r := H
                                                                  have A71 := Aside0.mk A710
                                                                  clear A710
                                                                  first
                                                                    | exact absurd ((Option.some.inj H).trans hr_.out) (by decide)
                                                                    | (skip
                                                                       obtain rfl := Option.some.inj H
                                                                       as_aux_lemma =>
                                                                         go_wp2_with (first | (go_at_call 8; (with_reducible refine (papermilllaw01_awake.calls kj48  t168 _ A71.out).mono ?_); rintro e w72 ⟨rfl, hb⟩; have n0_ := Aside0.mk (below_step (by repeat (first | (with_reducible first | exact HB.out | apply below_alloc | apply pw_below_drewN | apply below_drew1) | exact HB.out)) hb); clear HB; have HB := n0_; clear n0_; (try clear hb); (try clear hb2); (try clear hk); (try clear hi)))
                                                                         go_ret
                                                                         exact ⟨by first | rfl | (simp [errW_none, errW_some] <;> rfl) | (simp [*, errW_none, errW_some] <;> rfl), by repeat (first | (with_reducible first | exact HB.out | apply below_alloc | apply pw_below_drewN | apply below_drew1) | exact HB.out)⟩)
                                                              · rw [if_neg c70] at H
                                                                have c70b0 : ((Int.tmod t165 2) == 0) = false := beq_eq_false_iff_ne.mpr c70
                                                                have c70b1 : ((Int.tmod t165 2) != 0) = true := bne_iff_ne.mpr c70
                                                                exact absurd ((Option.some.inj H).trans hr_.out) (by decide)
                                                          · as_aux_lemma =>
                                                              rw [if_neg c69] at H
                                                              have c69b0 : ((wrap64 (2 * (wrap64 (-(wrap64 (t155 - (wrap64 (t161 * (Int.tmod a2 1125899906842625))))))))) == (wrap64 (-(Int.tmod a2 1125899906842625)))) = false := beq_eq_false_iff_ne.mpr c69
                                                              have c69b1 : ((wrap64 (2 * (wrap64 (-(wrap64 (t155 - (wrap64 (t161 * (Int.tmod a2 1125899906842625))))))))) != (wrap64 (-(Int.tmod a2 1125899906842625)))) = true := bne_iff_ne.mpr c69
                                                              replace H := Option.bind_eq_some_iff.mp H
                                                              obtain ⟨t169, A730, H⟩ := H
                                                              replace H : (some t169) = some r := H
                                                              have A73 := Aside0.mk A730
                                                              clear A730
                                                              first
                                                                | exact absurd ((Option.some.inj H).trans hr_.out) (by decide)
                                                                | (skip
                                                                   obtain rfl := Option.some.inj H
                                                                   as_aux_lemma =>
                                                                     go_wp2_with (first | (go_at_call 8; (with_reducible refine (papermilllaw01_awake.calls kj48  t169 _ A73.out).mono ?_); rintro e w74 ⟨rfl, hb⟩; have n0_ := Aside0.mk (below_step (by repeat (first | (with_reducible first | exact HB.out | apply below_alloc | apply pw_below_drewN | apply below_drew1) | exact HB.out)) hb); clear HB; have HB := n0_; clear n0_; (try clear hb); (try clear hb2); (try clear hk); (try clear hi)))
                                                                     go_ret
                                                                     exact ⟨by first | rfl | (simp [errW_none, errW_some] <;> rfl) | (simp [*, errW_none, errW_some] <;> rfl), by repeat (first | (with_reducible first | exact HB.out | apply below_alloc | apply pw_below_drewN | apply below_drew1) | exact HB.out)⟩)
                                                      · as_aux_lemma =>
                                                          rw [if_neg c68] at H
                                                          have c68b0 : decide ((wrap64 (2 * (wrap64 (-(wrap64 (t155 - (wrap64 (t161 * (Int.tmod a2 1125899906842625))))))))) ≤ (wrap64 (-(Int.tmod a2 1125899906842625)))) = false := decide_eq_false c68
                                                          clear c68
                                                          by_cases c75 : t165 = t163
                                                          · as_aux_lemma =>
                                                              rw [if_pos c75] at H
                                                              have c75b0 : (t165 == t163) = true := beq_iff_eq.mpr c75
                                                              have c75b1 : (t165 != t163) = false := bne_eq_false_iff_eq.mpr c75
                                                              clear c75
                                                              by_cases c76 : (wrap64 (2 * (wrap64 (-(wrap64 (t155 - (wrap64 (t161 * (Int.tmod a2 1125899906842625))))))))) = (wrap64 (-(Int.tmod a2 1125899906842625)))
                                                              · as_aux_lemma =>
                                                                  rw [if_pos c76] at H
                                                                  have c76b0 : ((wrap64 (2 * (wrap64 (-(wrap64 (t155 - (wrap64 (t161 * (Int.tmod a2 1125899906842625))))))))) == (wrap64 (-(Int.tmod a2 1125899906842625)))) = true := beq_iff_eq.mpr c76
                                                                  have c76b1 : ((wrap64 (2 * (wrap64 (-(wrap64 (t155 - (wrap64 (t161 * (Int.tmod a2 1125899906842625))))))))) != (wrap64 (-(Int.tmod a2 1125899906842625)))) = false := bne_eq_false_iff_eq.mpr c76
                                                                  clear c76
                                                                  by_cases c77 : (Int.tmod t165 2) = 0
                                                                  · as_aux_lemma =>
                                                                      rw [if_pos c77] at H
                                                                      have c77b0 : ((Int.tmod t165 2) == 0) = true := beq_iff_eq.mpr c77
                                                                      have c77b1 : ((Int.tmod t165 2) != 0) = false := bne_eq_false_iff_eq.mpr c77
                                                                      clear c77
                                                                      replace H := Option.bind_eq_some_iff.mp H
                                                                      obtain ⟨t170, A780, H⟩ := H
                                                                      replace H : (some t170) = some r := H
                                                                      have A78 := Aside0.mk A780
                                                                      clear A780
                                                                      first
                                                                        | exact absurd ((Option.some.inj H).trans hr_.out) (by decide)
                                                                        | (skip
                                                                           obtain rfl := Option.some.inj H
                                                                           as_aux_lemma =>
                                                                             go_wp2_with (first | (go_at_call 8; (with_reducible refine (papermilllaw01_awake.calls kj48  t170 _ A78.out).mono ?_); rintro e w79 ⟨rfl, hb⟩; have n0_ := Aside0.mk (below_step (by repeat (first | (with_reducible first | exact HB.out | apply below_alloc | apply pw_below_drewN | apply below_drew1) | exact HB.out)) hb); clear HB; have HB := n0_; clear n0_; (try clear hb); (try clear hb2); (try clear hk); (try clear hi)))
                                                                             go_ret
                                                                             exact ⟨by first | rfl | (simp [errW_none, errW_some] <;> rfl) | (simp [*, errW_none, errW_some] <;> rfl), by repeat (first | (with_reducible first | exact HB.out | apply below_alloc | apply pw_below_drewN | apply below_drew1) | exact HB.out)⟩)
                                                                  · rw [if_neg c77] at H
                                                                    have c77b0 : ((Int.tmod t165 2) == 0) = false := beq_eq_false_iff_ne.mpr c77
                                                                    have c77b1 : ((Int.tmod t165 2) != 0) = true := bne_iff_ne.mpr c77
                                                                    exact absurd ((Option.some.inj H).trans hr_.out) (by decide)
                                                              · as_aux_lemma =>
                                                                  rw [if_neg c76] at H
                                                                  have c76b0 : ((wrap64 (2 * (wrap64 (-(wrap64 (t155 - (wrap64 (t161 * (Int.tmod a2 1125899906842625))))))))) == (wrap64 (-(Int.tmod a2 1125899906842625)))) = false := beq_eq_false_iff_ne.mpr c76
                                                                  have c76b1 : ((wrap64 (2 * (wrap64 (-(wrap64 (t155 - (wrap64 (t161 * (Int.tmod a2 1125899906842625))))))))) != (wrap64 (-(Int.tmod a2 1125899906842625)))) = true := bne_iff_ne.mpr c76
                                                                  replace H := Option.bind_eq_some_iff.mp H
                                                                  obtain ⟨t171, A800, H⟩ := H
                                                                  replace H : (some t171) = some r := H
                                                                  have A80 := Aside0.mk A800
                                                                  clear A800
                                                                  first
                                                                    | exact absurd ((Option.some.inj H).trans hr_.out) (by decide)
                                                                    | (skip
                                                                       obtain rfl := Option.some.inj H
                                                                       as_aux_lemma =>
                                                                         go_wp2_with (first | (go_at_call 8; (with_reducible refine (papermilllaw01_awake.calls kj48  t171 _ A80.out).mono ?_); rintro e w81 ⟨rfl, hb⟩; have n0_ := Aside0.mk (below_step (by repeat (first | (with_reducible first | exact HB.out | apply below_alloc | apply pw_below_drewN | apply below_drew1) | exact HB.out)) hb); clear HB; have HB := n0_; clear n0_; (try clear hb); (try clear hb2); (try clear hk); (try clear hi)))
                                                                         go_ret
                                                                         exact ⟨by first | rfl | (simp [errW_none, errW_some] <;> rfl) | (simp [*, errW_none, errW_some] <;> rfl), by repeat (first | (with_reducible first | exact HB.out | apply below_alloc | apply pw_below_drewN | apply below_drew1) | exact HB.out)⟩)
                                                          · rw [if_neg c75] at H
                                                            have c75b0 : (t165 == t163) = false := beq_eq_false_iff_ne.mpr c75
                                                            have c75b1 : (t165 != t163) = true := bne_iff_ne.mpr c75
                                                            exact absurd ((Option.some.inj H).trans hr_.out) (by decide)
                                                  · as_aux_lemma =>
                                                      rw [if_neg c67] at H
                                                      have c67b0 : decide ((wrap64 (-(Int.tmod a2 1125899906842625))) ≤ (wrap64 (2 * (wrap64 (-(wrap64 (t155 - (wrap64 (t161 * (Int.tmod a2 1125899906842625)))))))))) = false := decide_eq_false c67
                                                      clear c67
                                                      by_cases c82 : t165 = t161
                                                      · as_aux_lemma =>
                                                          rw [if_pos c82] at H
                                                          have c82b0 : (t165 == t161) = true := beq_iff_eq.mpr c82
                                                          have c82b1 : (t165 != t161) = false := bne_eq_false_iff_eq.mpr c82
                                                          clear c82
                                                          by_cases c83 : (wrap64 (2 * (wrap64 (-(wrap64 (t155 - (wrap64 (t161 * (Int.tmod a2 1125899906842625))))))))) ≤ (wrap64 (-(Int.tmod a2 1125899906842625)))
                                                          · as_aux_lemma =>
                                                              rw [if_pos c83] at H
                                                              have c83b0 : decide ((wrap64 (2 * (wrap64 (-(wrap64 (t155 - (wrap64 (t161 * (Int.tmod a2 1125899906842625))))))))) ≤ (wrap64 (-(Int.tmod a2 1125899906842625)))) = true := decide_eq_true c83
                                                              clear c83
                                                              by_cases c84 : (wrap64 (2 * (wrap64 (-(wrap64 (t155 - (wrap64 (t161 * (Int.tmod a2 1125899906842625))))))))) = (wrap64 (-(Int.tmod a2 1125899906842625)))
                                                              · as_aux_lemma =>
                                                                  rw [if_pos c84] at H
                                                                  have c84b0 : ((wrap64 (2 * (wrap64 (-(wrap64 (t155 - (wrap64 (t161 * (Int.tmod a2 1125899906842625))))))))) == (wrap64 (-(Int.tmod a2 1125899906842625)))) = true := beq_iff_eq.mpr c84
                                                                  have c84b1 : ((wrap64 (2 * (wrap64 (-(wrap64 (t155 - (wrap64 (t161 * (Int.tmod a2 1125899906842625))))))))) != (wrap64 (-(Int.tmod a2 1125899906842625)))) = false := bne_eq_false_iff_eq.mpr c84
                                                                  clear c84
                                                                  by_cases c85 : (Int.tmod t165 2) = 0
                                                                  · as_aux_lemma =>
                                                                      rw [if_pos c85] at H
                                                                      have c85b0 : ((Int.tmod t165 2) == 0) = true := beq_iff_eq.mpr c85
                                                                      have c85b1 : ((Int.tmod t165 2) != 0) = false := bne_eq_false_iff_eq.mpr c85
                                                                      clear c85
                                                                      replace H := Option.bind_eq_some_iff.mp H
                                                                      obtain ⟨t172, A860, H⟩ := H
                                                                      replace H : (some t172) = some r := H
                                                                      have A86 := Aside0.mk A860
                                                                      clear A860
                                                                      first
                                                                        | exact absurd ((Option.some.inj H).trans hr_.out) (by decide)
                                                                        | (skip
                                                                           obtain rfl := Option.some.inj H
                                                                           as_aux_lemma =>
                                                                             go_wp2_with (first | (go_at_call 8; (with_reducible refine (papermilllaw01_awake.calls kj48  t172 _ A86.out).mono ?_); rintro e w87 ⟨rfl, hb⟩; have n0_ := Aside0.mk (below_step (by repeat (first | (with_reducible first | exact HB.out | apply below_alloc | apply pw_below_drewN | apply below_drew1) | exact HB.out)) hb); clear HB; have HB := n0_; clear n0_; (try clear hb); (try clear hb2); (try clear hk); (try clear hi)))
                                                                             go_ret
                                                                             exact ⟨by first | rfl | (simp [errW_none, errW_some] <;> rfl) | (simp [*, errW_none, errW_some] <;> rfl), by repeat (first | (with_reducible first | exact HB.out | apply below_alloc | apply pw_below_drewN | apply below_drew1) | exact HB.out)⟩)
                                                                  · rw [if_neg c85] at H
                                                                    have c85b0 : ((Int.tmod t165 2) == 0) = false := beq_eq_false_iff_ne.mpr c85
                                                                    have c85b1 : ((Int.tmod t165 2) != 0) = true := bne_iff_ne.mpr c85
                                                                    exact absurd ((Option.some.inj H).trans hr_.out) (by decide)
                                                              · as_aux_lemma =>
                                                                  rw [if_neg c84] at H
                                                                  have c84b0 : ((wrap64 (2 * (wrap64 (-(wrap64 (t155 - (wrap64 (t161 * (Int.tmod a2 1125899906842625))))))))) == (wrap64 (-(Int.tmod a2 1125899906842625)))) = false := beq_eq_false_iff_ne.mpr c84
                                                                  have c84b1 : ((wrap64 (2 * (wrap64 (-(wrap64 (t155 - (wrap64 (t161 * (Int.tmod a2 1125899906842625))))))))) != (wrap64 (-(Int.tmod a2 1125899906842625)))) = true := bne_iff_ne.mpr c84
                                                                  replace H := Option.bind_eq_some_iff.mp H
                                                                  obtain ⟨t173, A880, H⟩ := H
                                                                  replace H : (some t173) = some r := H
                                                                  have A88 := Aside0.mk A880
                                                                  clear A880
                                                                  first
                                                                    | exact absurd ((Option.some.inj H).trans hr_.out) (by decide)
                                                                    | (skip
                                                                       obtain rfl := Option.some.inj H
                                                                       as_aux_lemma =>
                                                                         go_wp2_with (first | (go_at_call 8; (with_reducible refine (papermilllaw01_awake.calls kj48  t173 _ A88.out).mono ?_); rintro e w89 ⟨rfl, hb⟩; have n0_ := Aside0.mk (below_step (by repeat (first | (with_reducible first | exact HB.out | apply below_alloc | apply pw_below_drewN | apply below_drew1) | exact HB.out)) hb); clear HB; have HB := n0_; clear n0_; (try clear hb); (try clear hb2); (try clear hk); (try clear hi)))
                                                                         go_ret
                                                                         exact ⟨by first | rfl | (simp [errW_none, errW_some] <;> rfl) | (simp [*, errW_none, errW_some] <;> rfl), by repeat (first | (with_reducible first | exact HB.out | apply below_alloc | apply pw_below_drewN | apply below_drew1) | exact HB.out)⟩)
                                                          · as_aux_lemma =>
                                                              rw [if_neg c83] at H
                                                              have c83b0 : decide ((wrap64 (2 * (wrap64 (-(wrap64 (t155 - (wrap64 (t161 * (Int.tmod a2 1125899906842625))))))))) ≤ (wrap64 (-(Int.tmod a2 1125899906842625)))) = false := decide_eq_false c83
                                                              clear c83
                                                              by_cases c90 : t165 = t163
                                                              · as_aux_lemma =>
                                                                  rw [if_pos c90] at H
                                                                  have c90b0 : (t165 == t163) = true := beq_iff_eq.mpr c90
                                                                  have c90b1 : (t165 != t163) = false := bne_eq_false_iff_eq.mpr c90
                                                                  clear c90
                                                                  by_cases c91 : (wrap64 (2 * (wrap64 (-(wrap64 (t155 - (wrap64 (t161 * (Int.tmod a2 1125899906842625))))))))) = (wrap64 (-(Int.tmod a2 1125899906842625)))
                                                                  · as_aux_lemma =>
                                                                      rw [if_pos c91] at H
                                                                      have c91b0 : ((wrap64 (2 * (wrap64 (-(wrap64 (t155 - (wrap64 (t161 * (Int.tmod a2 1125899906842625))))))))) == (wrap64 (-(Int.tmod a2 1125899906842625)))) = true := beq_iff_eq.mpr c91
                                                                      have c91b1 : ((wrap64 (2 * (wrap64 (-(wrap64 (t155 - (wrap64 (t161 * (Int.tmod a2 1125899906842625))))))))) != (wrap64 (-(Int.tmod a2 1125899906842625)))) = false := bne_eq_false_iff_eq.mpr c91
                                                                      clear c91
                                                                      by_cases c92 : (Int.tmod t165 2) = 0
                                                                      · as_aux_lemma =>
                                                                          rw [if_pos c92] at H
                                                                          have c92b0 : ((Int.tmod t165 2) == 0) = true := beq_iff_eq.mpr c92
                                                                          have c92b1 : ((Int.tmod t165 2) != 0) = false := bne_eq_false_iff_eq.mpr c92
                                                                          clear c92
                                                                          replace H := Option.bind_eq_some_iff.mp H
                                                                          obtain ⟨t174, A930, H⟩ := H
                                                                          replace H : (some t174) = some r := H
                                                                          have A93 := Aside0.mk A930
                                                                          clear A930
                                                                          first
                                                                            | exact absurd ((Option.some.inj H).trans hr_.out) (by decide)
                                                                            | (skip
                                                                               obtain rfl := Option.some.inj H
                                                                               as_aux_lemma =>
                                                                                 go_wp2_with (first | (go_at_call 8; (with_reducible refine (papermilllaw01_awake.calls kj48  t174 _ A93.out).mono ?_); rintro e w94 ⟨rfl, hb⟩; have n0_ := Aside0.mk (below_step (by repeat (first | (with_reducible first | exact HB.out | apply below_alloc | apply pw_below_drewN | apply below_drew1) | exact HB.out)) hb); clear HB; have HB := n0_; clear n0_; (try clear hb); (try clear hb2); (try clear hk); (try clear hi)))
                                                                                 go_ret
                                                                                 exact ⟨by first | rfl | (simp [errW_none, errW_some] <;> rfl) | (simp [*, errW_none, errW_some] <;> rfl), by repeat (first | (with_reducible first | exact HB.out | apply below_alloc | apply pw_below_drewN | apply below_drew1) | exact HB.out)⟩)
                                                                      · rw [if_neg c92] at H
                                                                        have c92b0 : ((Int.tmod t165 2) == 0) = false := beq_eq_false_iff_ne.mpr c92
                                                                        have c92b1 : ((Int.tmod t165 2) != 0) = true := bne_iff_ne.mpr c92
                                                                        exact absurd ((Option.some.inj H).trans hr_.out) (by decide)
                                                                  · as_aux_lemma =>
                                                                      rw [if_neg c91] at H
                                                                      have c91b0 : ((wrap64 (2 * (wrap64 (-(wrap64 (t155 - (wrap64 (t161 * (Int.tmod a2 1125899906842625))))))))) == (wrap64 (-(Int.tmod a2 1125899906842625)))) = false := beq_eq_false_iff_ne.mpr c91
                                                                      have c91b1 : ((wrap64 (2 * (wrap64 (-(wrap64 (t155 - (wrap64 (t161 * (Int.tmod a2 1125899906842625))))))))) != (wrap64 (-(Int.tmod a2 1125899906842625)))) = true := bne_iff_ne.mpr c91
                                                                      replace H := Option.bind_eq_some_iff.mp H
                                                                      obtain ⟨t175, A950, H⟩ := H
                                                                      replace H : (some t175) = some r := H
                                                                      have A95 := Aside0.mk A950
                                                                      clear A950
                                                                      first
                                                                        | exact absurd ((Option.some.inj H).trans hr_.out) (by decide)
                                                                        | (skip
                                                                           obtain rfl := Option.some.inj H
                                                                           as_aux_lemma =>
                                                                             go_wp2_with (first | (go_at_call 8; (with_reducible refine (papermilllaw01_awake.calls kj48  t175 _ A95.out).mono ?_); rintro e w96 ⟨rfl, hb⟩; have n0_ := Aside0.mk (below_step (by repeat (first | (with_reducible first | exact HB.out | apply below_alloc | apply pw_below_drewN | apply below_drew1) | exact HB.out)) hb); clear HB; have HB := n0_; clear n0_; (try clear hb); (try clear hb2); (try clear hk); (try clear hi)))
                                                                             go_ret
                                                                             exact ⟨by first | rfl | (simp [errW_none, errW_some] <;> rfl) | (simp [*, errW_none, errW_some] <;> rfl), by repeat (first | (with_reducible first | exact HB.out | apply below_alloc | apply pw_below_drewN | apply below_drew1) | exact HB.out)⟩)
                                                              · rw [if_neg c90] at H
                                                                have c90b0 : (t165 == t163) = false := beq_eq_false_iff_ne.mpr c90
                                                                have c90b1 : (t165 != t163) = true := bne_iff_ne.mpr c90
                                                                exact absurd ((Option.some.inj H).trans hr_.out) (by decide)
                                                      · rw [if_neg c82] at H
                                                        have c82b0 : (t165 == t161) = false := beq_eq_false_iff_ne.mpr c82
                                                        have c82b1 : (t165 != t161) = true := bne_iff_ne.mpr c82
                                                        exact absurd ((Option.some.inj H).trans hr_.out) (by decide)
                              · as_aux_lemma =>
                                  rw [if_neg c62] at H
                                  have c62b0 : decide ((Int.tmod a2 1125899906842625) < 0) = false := decide_eq_false c62
                                  clear c62
                                  by_cases c97 : (wrap64 (t155 - (wrap64 (t161 * (Int.tmod a2 1125899906842625))))) < 0
                                  · rw [if_pos c97] at H
                                    have c97b0 : decide ((wrap64 (t155 - (wrap64 (t161 * (Int.tmod a2 1125899906842625))))) < 0) = true := decide_eq_true c97
                                    clear c97
                                    exact absurd ((Option.some.inj H).trans hr_.out) (by decide)
                                  · as_aux_lemma =>
                                      rw [if_neg c97] at H
                                      have c97b0 : decide ((wrap64 (t155 - (wrap64 (t161 * (Int.tmod a2 1125899906842625))))) < 0) = false := decide_eq_false c97
                                      clear c97
                                      by_cases c98 : (wrap64 (t155 - (wrap64 (t161 * (Int.tmod a2 1125899906842625))))) ≥ (Int.tmod a2 1125899906842625)
                                      · rw [if_pos c98] at H
                                        have c98b0 : decide ((Int.tmod a2 1125899906842625) ≤ (wrap64 (t155 - (wrap64 (t161 * (Int.tmod a2 1125899906842625)))))) = true := decide_eq_true c98
                                        clear c98
                                        exact absurd ((Option.some.inj H).trans hr_.out) (by decide)
                                      · as_aux_lemma =>
                                          rw [if_neg c98] at H
                                          have c98b0 : decide ((Int.tmod a2 1125899906842625) ≤ (wrap64 (t155 - (wrap64 (t161 * (Int.tmod a2 1125899906842625)))))) = false := decide_eq_false c98
                                          clear c98
                                          by_cases c99 : (((wrap64 (t155 - (wrap64 (t161 * (Int.tmod a2 1125899906842625))))) == 0) != (t161 == t163)) = true
                                          · rw [if_pos c99] at H
                                            have c99b0 : (((wrap64 (t155 - (wrap64 (t161 * (Int.tmod a2 1125899906842625))))) == 0) != (t161 == t163)) = true := c99
                                            (try (have c99b1 : decide (((wrap64 (t155 - (wrap64 (t161 * (Int.tmod a2 1125899906842625))))) == 0) = (t161 == t163)) = false := by simpa using c99))
                                            (try (have c99b2 : (((wrap64 (t155 - (wrap64 (t161 * (Int.tmod a2 1125899906842625))))) == 0) == (t161 == t163)) = false := by simpa using c99))
                                            (try (have c99b3 : ¬ (((wrap64 (t155 - (wrap64 (t161 * (Int.tmod a2 1125899906842625))))) == 0) = (t161 == t163)) := by simpa using c99))
                                            clear c99
                                            exact absurd ((Option.some.inj H).trans hr_.out) (by decide)
                                          · as_aux_lemma =>
                                              rw [if_neg c99] at H
                                              have c99b0 : (((wrap64 (t155 - (wrap64 (t161 * (Int.tmod a2 1125899906842625))))) == 0) != (t161 == t163)) = false := by simpa using c99
                                              (try (have c99b1 : decide (((wrap64 (t155 - (wrap64 (t161 * (Int.tmod a2 1125899906842625))))) == 0) = (t161 == t163)) = true := by simpa using c99))
                                              (try (have c99b2 : (((wrap64 (t155 - (wrap64 (t161 * (Int.tmod a2 1125899906842625))))) == 0) == (t161 == t163)) = true := by simpa using c99))
                                              clear c99
                                              by_cases c100 : (((wrap64 (t155 - (wrap64 (t161 * (Int.tmod a2 1125899906842625))))) == 0) != ((wrap64 (t161 * (Int.tmod a2 1125899906842625))) == t155)) = true
                                              · rw [if_pos c100] at H
                                                have c100b0 : (((wrap64 (t155 - (wrap64 (t161 * (Int.tmod a2 1125899906842625))))) == 0) != ((wrap64 (t161 * (Int.tmod a2 1125899906842625))) == t155)) = true := c100
                                                (try (have c100b1 : decide (((wrap64 (t155 - (wrap64 (t161 * (Int.tmod a2 1125899906842625))))) == 0) = ((wrap64 (t161 * (Int.tmod a2 1125899906842625))) == t155)) = false := by simpa using c100))
                                                (try (have c100b2 : (((wrap64 (t155 - (wrap64 (t161 * (Int.tmod a2 1125899906842625))))) == 0) == ((wrap64 (t161 * (Int.tmod a2 1125899906842625))) == t155)) = false := by simpa using c100))
                                                (try (have c100b3 : ¬ (((wrap64 (t155 - (wrap64 (t161 * (Int.tmod a2 1125899906842625))))) == 0) = ((wrap64 (t161 * (Int.tmod a2 1125899906842625))) == t155)) := by simpa using c100))
                                                clear c100
                                                exact absurd ((Option.some.inj H).trans hr_.out) (by decide)
                                              · as_aux_lemma =>
                                                  rw [if_neg c100] at H
                                                  have c100b0 : (((wrap64 (t155 - (wrap64 (t161 * (Int.tmod a2 1125899906842625))))) == 0) != ((wrap64 (t161 * (Int.tmod a2 1125899906842625))) == t155)) = false := by simpa using c100
                                                  (try (have c100b1 : decide (((wrap64 (t155 - (wrap64 (t161 * (Int.tmod a2 1125899906842625))))) == 0) = ((wrap64 (t161 * (Int.tmod a2 1125899906842625))) == t155)) = true := by simpa using c100))
                                                  (try (have c100b2 : (((wrap64 (t155 - (wrap64 (t161 * (Int.tmod a2 1125899906842625))))) == 0) == ((wrap64 (t161 * (Int.tmod a2 1125899906842625))) == t155)) = true := by simpa using c100))
                                                  clear c100
                                                  by_cases c101 : (wrap64 (2 * (wrap64 (t155 - (wrap64 (t161 * (Int.tmod a2 1125899906842625))))))) ≥ (Int.tmod a2 1125899906842625)
                                                  · as_aux_lemma =>
                                                      rw [if_pos c101] at H
                                                      have c101b0 : decide ((Int.tmod a2 1125899906842625) ≤ (wrap64 (2 * (wrap64 (t155 - (wrap64 (t161 * (Int.tmod a2 1125899906842625)))))))) = true := decide_eq_true c101
                                                      clear c101
                                                      by_cases c102 : (wrap64 (2 * (wrap64 (t155 - (wrap64 (t161 * (Int.tmod a2 1125899906842625))))))) ≤ (Int.tmod a2 1125899906842625)
                                                      · as_aux_lemma =>
                                                          rw [if_pos c102] at H
                                                          have c102b0 : decide ((wrap64 (2 * (wrap64 (t155 - (wrap64 (t161 * (Int.tmod a2 1125899906842625))))))) ≤ (Int.tmod a2 1125899906842625)) = true := decide_eq_true c102
                                                          clear c102
                                                          by_cases c103 : (wrap64 (2 * (wrap64 (t155 - (wrap64 (t161 * (Int.tmod a2 1125899906842625))))))) = (Int.tmod a2 1125899906842625)
                                                          · as_aux_lemma =>
                                                              rw [if_pos c103] at H
                                                              have c103b0 : ((wrap64 (2 * (wrap64 (t155 - (wrap64 (t161 * (Int.tmod a2 1125899906842625))))))) == (Int.tmod a2 1125899906842625)) = true := beq_iff_eq.mpr c103
                                                              have c103b1 : ((wrap64 (2 * (wrap64 (t155 - (wrap64 (t161 * (Int.tmod a2 1125899906842625))))))) != (Int.tmod a2 1125899906842625)) = false := bne_eq_false_iff_eq.mpr c103
                                                              clear c103
                                                              by_cases c104 : (Int.tmod t165 2) = 0
                                                              · as_aux_lemma =>
                                                                  rw [if_pos c104] at H
                                                                  have c104b0 : ((Int.tmod t165 2) == 0) = true := beq_iff_eq.mpr c104
                                                                  have c104b1 : ((Int.tmod t165 2) != 0) = false := bne_eq_false_iff_eq.mpr c104
                                                                  clear c104
                                                                  replace H := Option.bind_eq_some_iff.mp H
                                                                  obtain ⟨t176, A1050, H⟩ := H
                                                                  replace H : (some t176) = some r := H
                                                                  have A105 := Aside0.mk A1050
                                                                  clear A1050
                                                                  first
                                                                    | exact absurd ((Option.some.inj H).trans hr_.out) (by decide)
                                                                    | (skip
                                                                       obtain rfl := Option.some.inj H
                                                                       as_aux_lemma =>
                                                                         go_wp2_with (first | (go_at_call 8; (with_reducible refine (papermilllaw01_awake.calls kj48  t176 _ A105.out).mono ?_); rintro e w106 ⟨rfl, hb⟩; have n0_ := Aside0.mk (below_step (by repeat (first | (with_reducible first | exact HB.out | apply below_alloc | apply pw_below_drewN | apply below_drew1) | exact HB.out)) hb); clear HB; have HB := n0_; clear n0_; (try clear hb); (try clear hb2); (try clear hk); (try clear hi)))
                                                                         go_ret
                                                                         exact ⟨by first | rfl | (simp [errW_none, errW_some] <;> rfl) | (simp [*, errW_none, errW_some] <;> rfl), by repeat (first | (with_reducible first | exact HB.out | apply below_alloc | apply pw_below_drewN | apply below_drew1) | exact HB.out)⟩)
                                                              · rw [if_neg c104] at H
                                                                have c104b0 : ((Int.tmod t165 2) == 0) = false := beq_eq_false_iff_ne.mpr c104
                                                                have c104b1 : ((Int.tmod t165 2) != 0) = true := bne_iff_ne.mpr c104
                                                                exact absurd ((Option.some.inj H).trans hr_.out) (by decide)
                                                          · as_aux_lemma =>
                                                              rw [if_neg c103] at H
                                                              have c103b0 : ((wrap64 (2 * (wrap64 (t155 - (wrap64 (t161 * (Int.tmod a2 1125899906842625))))))) == (Int.tmod a2 1125899906842625)) = false := beq_eq_false_iff_ne.mpr c103
                                                              have c103b1 : ((wrap64 (2 * (wrap64 (t155 - (wrap64 (t161 * (Int.tmod a2 1125899906842625))))))) != (Int.tmod a2 1125899906842625)) = true := bne_iff_ne.mpr c103
                                                              replace H := Option.bind_eq_some_iff.mp H
                                                              obtain ⟨t177, A1070, H⟩ := H
                                                              replace H : (some t177) = some r := H
                                                              have A107 := Aside0.mk A1070
                                                              clear A1070
                                                              first
                                                                | exact absurd ((Option.some.inj H).trans hr_.out) (by decide)
                                                                | (skip
                                                                   obtain rfl := Option.some.inj H
                                                                   as_aux_lemma =>
                                                                     go_wp2_with (first | (go_at_call 8; (with_reducible refine (papermilllaw01_awake.calls kj48  t177 _ A107.out).mono ?_); rintro e w108 ⟨rfl, hb⟩; have n0_ := Aside0.mk (below_step (by repeat (first | (with_reducible first | exact HB.out | apply below_alloc | apply pw_below_drewN | apply below_drew1) | exact HB.out)) hb); clear HB; have HB := n0_; clear n0_; (try clear hb); (try clear hb2); (try clear hk); (try clear hi)))
                                                                     go_ret
                                                                     exact ⟨by first | rfl | (simp [errW_none, errW_some] <;> rfl) | (simp [*, errW_none, errW_some] <;> rfl), by repeat (first | (with_reducible first | exact HB.out | apply below_alloc | apply pw_below_drewN | apply below_drew1) | exact HB.out)⟩)
                                                      · as_aux_lemma =>
                                                          rw [if_neg c102] at H
                                                          have c102b0 : decide ((wrap64 (2 * (wrap64 (t155 - (wrap64 (t161 * (Int.tmod a2 1125899906842625))))))) ≤ (Int.tmod a2 1125899906842625)) = false := decide_eq_false c102
                                                          clear c102
                                                          by_cases c109 : t165 = t163
                                                          · as_aux_lemma =>
                                                              rw [if_pos c109] at H
                                                              have c109b0 : (t165 == t163) = true := beq_iff_eq.mpr c109
                                                              have c109b1 : (t165 != t163) = false := bne_eq_false_iff_eq.mpr c109
                                                              clear c109
                                                              by_cases c110 : (wrap64 (2 * (wrap64 (t155 - (wrap64 (t161 * (Int.tmod a2 1125899906842625))))))) = (Int.tmod a2 1125899906842625)
                                                              · as_aux_lemma =>
                                                                  rw [if_pos c110] at H
                                                                  have c110b0 : ((wrap64 (2 * (wrap64 (t155 - (wrap64 (t161 * (Int.tmod a2 1125899906842625))))))) == (Int.tmod a2 1125899906842625)) = true := beq_iff_eq.mpr c110
                                                                  have c110b1 : ((wrap64 (2 * (wrap64 (t155 - (wrap64 (t161 * (Int.tmod a2 1125899906842625))))))) != (Int.tmod a2 1125899906842625)) = false := bne_eq_false_iff_eq.mpr c110
                                                                  clear c110
                                                                  by_cases c111 : (Int.tmod t165 2) = 0
                                                                  · as_aux_lemma =>
                                                                      rw [if_pos c111] at H
                                                                      have c111b0 : ((Int.tmod t165 2) == 0) = true := beq_iff_eq.mpr c111
                                                                      have c111b1 : ((Int.tmod t165 2) != 0) = false := bne_eq_false_iff_eq.mpr c111
                                                                      clear c111
                                                                      replace H := Option.bind_eq_some_iff.mp H
                                                                      obtain ⟨t178, A1120, H⟩ := H
                                                                      replace H : (some t178) = some r := H
                                                                      have A112 := Aside0.mk A1120
                                                                      clear A1120
                                                                      first
                                                                        | exact absurd ((Option.some.inj H).trans hr_.out) (by decide)
                                                                        | (skip
                                                                           obtain rfl := Option.some.inj H
                                                                           as_aux_lemma =>
                                                                             go_wp2_with (first | (go_at_call 8; (with_reducible refine (papermilllaw01_awake.calls kj48  t178 _ A112.out).mono ?_); rintro e w113 ⟨rfl, hb⟩; have n0_ := Aside0.mk (below_step (by repeat (first | (with_reducible first | exact HB.out | apply below_alloc | apply pw_below_drewN | apply below_drew1) | exact HB.out)) hb); clear HB; have HB := n0_; clear n0_; (try clear hb); (try clear hb2); (try clear hk); (try clear hi)))
                                                                             go_ret
                                                                             exact ⟨by first | rfl | (simp [errW_none, errW_some] <;> rfl) | (simp [*, errW_none, errW_some] <;> rfl), by repeat (first | (with_reducible first | exact HB.out | apply below_alloc | apply pw_below_drewN | apply below_drew1) | exact HB.out)⟩)
                                                                  · rw [if_neg c111] at H
                                                                    have c111b0 : ((Int.tmod t165 2) == 0) = false := beq_eq_false_iff_ne.mpr c111
                                                                    have c111b1 : ((Int.tmod t165 2) != 0) = true := bne_iff_ne.mpr c111
                                                                    exact absurd ((Option.some.inj H).trans hr_.out) (by decide)
                                                              · as_aux_lemma =>
                                                                  rw [if_neg c110] at H
                                                                  have c110b0 : ((wrap64 (2 * (wrap64 (t155 - (wrap64 (t161 * (Int.tmod a2 1125899906842625))))))) == (Int.tmod a2 1125899906842625)) = false := beq_eq_false_iff_ne.mpr c110
                                                                  have c110b1 : ((wrap64 (2 * (wrap64 (t155 - (wrap64 (t161 * (Int.tmod a2 1125899906842625))))))) != (Int.tmod a2 1125899906842625)) = true := bne_iff_ne.mpr c110
                                                                  replace H := Option.bind_eq_some_iff.mp H
                                                                  obtain ⟨t179, A1140, H⟩ := H
                                                                  replace H : (some t179) = some r := H
                                                                  have A114 := Aside0.mk A1140
                                                                  clear A1140
                                                                  first
                                                                    | exact absurd ((Option.some.inj H).trans hr_.out) (by decide)
                                                                    | (skip
                                                                       obtain rfl := Option.some.inj H
                                                                       as_aux_lemma =>
                                                                         go_wp2_with (first | (go_at_call 8; (with_reducible refine (papermilllaw01_awake.calls kj48  t179 _ A114.out).mono ?_); rintro e w115 ⟨rfl, hb⟩; have n0_ := Aside0.mk (below_step (by repeat (first | (with_reducible first | exact HB.out | apply below_alloc | apply pw_below_drewN | apply below_drew1) | exact HB.out)) hb); clear HB; have HB := n0_; clear n0_; (try clear hb); (try clear hb2); (try clear hk); (try clear hi)))
                                                                         go_ret
                                                                         exact ⟨by first | rfl | (simp [errW_none, errW_some] <;> rfl) | (simp [*, errW_none, errW_some] <;> rfl), by repeat (first | (with_reducible first | exact HB.out | apply below_alloc | apply pw_below_drewN | apply below_drew1) | exact HB.out)⟩)
                                                          · rw [if_neg c109] at H
                                                            have c109b0 : (t165 == t163) = false := beq_eq_false_iff_ne.mpr c109
                                                            have c109b1 : (t165 != t163) = true := bne_iff_ne.mpr c109
                                                            exact absurd ((Option.some.inj H).trans hr_.out) (by decide)
                                                  · as_aux_lemma =>
                                                      rw [if_neg c101] at H
                                                      have c101b0 : decide ((Int.tmod a2 1125899906842625) ≤ (wrap64 (2 * (wrap64 (t155 - (wrap64 (t161 * (Int.tmod a2 1125899906842625)))))))) = false := decide_eq_false c101
                                                      clear c101
                                                      by_cases c116 : t165 = t161
                                                      · as_aux_lemma =>
                                                          rw [if_pos c116] at H
                                                          have c116b0 : (t165 == t161) = true := beq_iff_eq.mpr c116
                                                          have c116b1 : (t165 != t161) = false := bne_eq_false_iff_eq.mpr c116
                                                          clear c116
                                                          by_cases c117 : (wrap64 (2 * (wrap64 (t155 - (wrap64 (t161 * (Int.tmod a2 1125899906842625))))))) ≤ (Int.tmod a2 1125899906842625)
                                                          · as_aux_lemma =>
                                                              rw [if_pos c117] at H
                                                              have c117b0 : decide ((wrap64 (2 * (wrap64 (t155 - (wrap64 (t161 * (Int.tmod a2 1125899906842625))))))) ≤ (Int.tmod a2 1125899906842625)) = true := decide_eq_true c117
                                                              clear c117
                                                              by_cases c118 : (wrap64 (2 * (wrap64 (t155 - (wrap64 (t161 * (Int.tmod a2 1125899906842625))))))) = (Int.tmod a2 1125899906842625)
                                                              · as_aux_lemma =>
                                                                  rw [if_pos c118] at H
                                                                  have c118b0 : ((wrap64 (2 * (wrap64 (t155 - (wrap64 (t161 * (Int.tmod a2 1125899906842625))))))) == (Int.tmod a2 1125899906842625)) = true := beq_iff_eq.mpr c118
                                                                  have c118b1 : ((wrap64 (2 * (wrap64 (t155 - (wrap64 (t161 * (Int.tmod a2 1125899906842625))))))) != (Int.tmod a2 1125899906842625)) = false := bne_eq_false_iff_eq.mpr c118
                                                                  clear c118
                                                                  by_cases c119 : (Int.tmod t165 2) = 0
                                                                  · as_aux_lemma =>
                                                                      rw [if_pos c119] at H
                                                                      have c119b0 : ((Int.tmod t165 2) == 0) = true := beq_iff_eq.mpr c119
                                                                      have c119b1 : ((Int.tmod t165 2) != 0) = false := bne_eq_false_iff_eq.mpr c119
                                                                      clear c119
                                                                      replace H := Option.bind_eq_some_iff.mp H
                                                                      obtain ⟨t180, A1200, H⟩ := H
                                                                      replace H : (some t180) = some r := H
                                                                      have A120 := Aside0.mk A1200
                                                                      clear A1200
                                                                      first
                                                                        | exact absurd ((Option.some.inj H).trans hr_.out) (by decide)
                                                                        | (skip
                                                                           obtain rfl := Option.some.inj H
                                                                           as_aux_lemma =>
                                                                             go_wp2_with (first | (go_at_call 8; (with_reducible refine (papermilllaw01_awake.calls kj48  t180 _ A120.out).mono ?_); rintro e w121 ⟨rfl, hb⟩; have n0_ := Aside0.mk (below_step (by repeat (first | (with_reducible first | exact HB.out | apply below_alloc | apply pw_below_drewN | apply below_drew1) | exact HB.out)) hb); clear HB; have HB := n0_; clear n0_; (try clear hb); (try clear hb2); (try clear hk); (try clear hi)))
                                                                             go_ret
                                                                             exact ⟨by first | rfl | (simp [errW_none, errW_some] <;> rfl) | (simp [*, errW_none, errW_some] <;> rfl), by repeat (first | (with_reducible first | exact HB.out | apply below_alloc | apply pw_below_drewN | apply below_drew1) | exact HB.out)⟩)
                                                                  · rw [if_neg c119] at H
                                                                    have c119b0 : ((Int.tmod t165 2) == 0) = false := beq_eq_false_iff_ne.mpr c119
                                                                    have c119b1 : ((Int.tmod t165 2) != 0) = true := bne_iff_ne.mpr c119
                                                                    exact absurd ((Option.some.inj H).trans hr_.out) (by decide)
                                                              · as_aux_lemma =>
                                                                  rw [if_neg c118] at H
                                                                  have c118b0 : ((wrap64 (2 * (wrap64 (t155 - (wrap64 (t161 * (Int.tmod a2 1125899906842625))))))) == (Int.tmod a2 1125899906842625)) = false := beq_eq_false_iff_ne.mpr c118
                                                                  have c118b1 : ((wrap64 (2 * (wrap64 (t155 - (wrap64 (t161 * (Int.tmod a2 1125899906842625))))))) != (Int.tmod a2 1125899906842625)) = true := bne_iff_ne.mpr c118
                                                                  replace H := Option.bind_eq_some_iff.mp H
                                                                  obtain ⟨t181, A1220, H⟩ := H
                                                                  replace H : (some t181) = some r := H
                                                                  have A122 := Aside0.mk A1220
                                                                  clear A1220
                                                                  first
                                                                    | exact absurd ((Option.some.inj H).trans hr_.out) (by decide)
                                                                    | (skip
                                                                       obtain rfl := Option.some.inj H
                                                                       as_aux_lemma =>
                                                                         go_wp2_with (first | (go_at_call 8; (with_reducible refine (papermilllaw01_awake.calls kj48  t181 _ A122.out).mono ?_); rintro e w123 ⟨rfl, hb⟩; have n0_ := Aside0.mk (below_step (by repeat (first | (with_reducible first | exact HB.out | apply below_alloc | apply pw_below_drewN | apply below_drew1) | exact HB.out)) hb); clear HB; have HB := n0_; clear n0_; (try clear hb); (try clear hb2); (try clear hk); (try clear hi)))
                                                                         go_ret
                                                                         exact ⟨by first | rfl | (simp [errW_none, errW_some] <;> rfl) | (simp [*, errW_none, errW_some] <;> rfl), by repeat (first | (with_reducible first | exact HB.out | apply below_alloc | apply pw_below_drewN | apply below_drew1) | exact HB.out)⟩)
                                                          · as_aux_lemma =>
                                                              rw [if_neg c117] at H
                                                              have c117b0 : decide ((wrap64 (2 * (wrap64 (t155 - (wrap64 (t161 * (Int.tmod a2 1125899906842625))))))) ≤ (Int.tmod a2 1125899906842625)) = false := decide_eq_false c117
                                                              clear c117
                                                              by_cases c124 : t165 = t163
                                                              · as_aux_lemma =>
                                                                  rw [if_pos c124] at H
                                                                  have c124b0 : (t165 == t163) = true := beq_iff_eq.mpr c124
                                                                  have c124b1 : (t165 != t163) = false := bne_eq_false_iff_eq.mpr c124
                                                                  clear c124
                                                                  by_cases c125 : (wrap64 (2 * (wrap64 (t155 - (wrap64 (t161 * (Int.tmod a2 1125899906842625))))))) = (Int.tmod a2 1125899906842625)
                                                                  · as_aux_lemma =>
                                                                      rw [if_pos c125] at H
                                                                      have c125b0 : ((wrap64 (2 * (wrap64 (t155 - (wrap64 (t161 * (Int.tmod a2 1125899906842625))))))) == (Int.tmod a2 1125899906842625)) = true := beq_iff_eq.mpr c125
                                                                      have c125b1 : ((wrap64 (2 * (wrap64 (t155 - (wrap64 (t161 * (Int.tmod a2 1125899906842625))))))) != (Int.tmod a2 1125899906842625)) = false := bne_eq_false_iff_eq.mpr c125
                                                                      clear c125
                                                                      by_cases c126 : (Int.tmod t165 2) = 0
                                                                      · as_aux_lemma =>
                                                                          rw [if_pos c126] at H
                                                                          have c126b0 : ((Int.tmod t165 2) == 0) = true := beq_iff_eq.mpr c126
                                                                          have c126b1 : ((Int.tmod t165 2) != 0) = false := bne_eq_false_iff_eq.mpr c126
                                                                          clear c126
                                                                          replace H := Option.bind_eq_some_iff.mp H
                                                                          obtain ⟨t182, A1270, H⟩ := H
                                                                          replace H : (some t182) = some r := H
                                                                          have A127 := Aside0.mk A1270
                                                                          clear A1270
                                                                          first
                                                                            | exact absurd ((Option.some.inj H).trans hr_.out) (by decide)
                                                                            | (skip
                                                                               obtain rfl := Option.some.inj H
                                                                               as_aux_lemma =>
                                                                                 go_wp2_with (first | (go_at_call 8; (with_reducible refine (papermilllaw01_awake.calls kj48  t182 _ A127.out).mono ?_); rintro e w128 ⟨rfl, hb⟩; have n0_ := Aside0.mk (below_step (by repeat (first | (with_reducible first | exact HB.out | apply below_alloc | apply pw_below_drewN | apply below_drew1) | exact HB.out)) hb); clear HB; have HB := n0_; clear n0_; (try clear hb); (try clear hb2); (try clear hk); (try clear hi)))
                                                                                 go_ret
                                                                                 exact ⟨by first | rfl | (simp [errW_none, errW_some] <;> rfl) | (simp [*, errW_none, errW_some] <;> rfl), by repeat (first | (with_reducible first | exact HB.out | apply below_alloc | apply pw_below_drewN | apply below_drew1) | exact HB.out)⟩)
                                                                      · rw [if_neg c126] at H
                                                                        have c126b0 : ((Int.tmod t165 2) == 0) = false := beq_eq_false_iff_ne.mpr c126
                                                                        have c126b1 : ((Int.tmod t165 2) != 0) = true := bne_iff_ne.mpr c126
                                                                        exact absurd ((Option.some.inj H).trans hr_.out) (by decide)
                                                                  · as_aux_lemma =>
                                                                      rw [if_neg c125] at H
                                                                      have c125b0 : ((wrap64 (2 * (wrap64 (t155 - (wrap64 (t161 * (Int.tmod a2 1125899906842625))))))) == (Int.tmod a2 1125899906842625)) = false := beq_eq_false_iff_ne.mpr c125
                                                                      have c125b1 : ((wrap64 (2 * (wrap64 (t155 - (wrap64 (t161 * (Int.tmod a2 1125899906842625))))))) != (Int.tmod a2 1125899906842625)) = true := bne_iff_ne.mpr c125
                                                                      replace H := Option.bind_eq_some_iff.mp H
                                                                      obtain ⟨t183, A1290, H⟩ := H
                                                                      replace H : (some t183) = some r := H
                                                                      have A129 := Aside0.mk A1290
                                                                      clear A1290
                                                                      first
                                                                        | exact absurd ((Option.some.inj H).trans hr_.out) (by decide)
                                                                        | (skip
                                                                           obtain rfl := Option.some.inj H
                                                                           as_aux_lemma =>
                                                                             go_wp2_with (first | (go_at_call 8; (with_reducible refine (papermilllaw01_awake.calls kj48  t183 _ A129.out).mono ?_); rintro e w130 ⟨rfl, hb⟩; have n0_ := Aside0.mk (below_step (by repeat (first | (with_reducible first | exact HB.out | apply below_alloc | apply pw_below_drewN | apply below_drew1) | exact HB.out)) hb); clear HB; have HB := n0_; clear n0_; (try clear hb); (try clear hb2); (try clear hk); (try clear hi)))
                                                                             go_ret
                                                                             exact ⟨by first | rfl | (simp [errW_none, errW_some] <;> rfl) | (simp [*, errW_none, errW_some] <;> rfl), by repeat (first | (with_reducible first | exact HB.out | apply below_alloc | apply pw_below_drewN | apply below_drew1) | exact HB.out)⟩)
                                                              · rw [if_neg c124] at H
                                                                have c124b0 : (t165 == t163) = false := beq_eq_false_iff_ne.mpr c124
                                                                have c124b1 : (t165 != t163) = true := bne_iff_ne.mpr c124
                                                                exact absurd ((Option.some.inj H).trans hr_.out) (by decide)
                                                      · rw [if_neg c116] at H
                                                        have c116b0 : (t165 == t161) = false := beq_eq_false_iff_ne.mpr c116
                                                        have c116b1 : (t165 != t161) = true := bne_iff_ne.mpr c116
                                                        exact absurd ((Option.some.inj H).trans hr_.out) (by decide)

/-- THE ONE PURE STATEMENT of papermilllaw01_NumExact: yours. -/
def papermilllaw01_NumExact.Pure : Prop := ∀ (a0 : Int) (a1 : Int) (a2 : Int), (Lit.int .i32 a0).wf = true → (Lit.int .i32 a1).wf = true → (Lit.int .i64 a2).wf = true → ∃ k, papermilllaw01_NumExact.f k a0 a1 a2 = some true
theorem papermilllaw01_NumExact.walk (P : papermilllaw01_NumExact.Pure) (a0 : Int) (a1 : Int) (a2 : Int) (w : World) (w0 : (Lit.int .i32 a0).wf = true) (w1 : (Lit.int .i32 a1).wf = true) (w2 : (Lit.int .i64 a2).wf = true) :
    Calls Try.prog 3 #[.int .i32 a0, .int .i32 a1, .int .i64 a2] w fun e w' => e = .returned (.bool true) ∧ Below w.heap.size w w' := by
  obtain ⟨k, h⟩ := P a0 a1 a2 w0 w1 w2
  refine (papermilllaw01_NumExact.calls k a0 a1 a2 true w ⟨rfl⟩ h).mono ?_
  rintro e w' ⟨rfl, hd⟩
  exact ⟨rfl, hd⟩

end Go.Proofs.Ythbfkmgcomomfaa.P
