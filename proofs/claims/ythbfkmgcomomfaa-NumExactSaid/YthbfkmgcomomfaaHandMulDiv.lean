/- num.MulDiv: a * b / c, computed exactly and rounded: the walk. Its answer is Math.md. -/
import Derived.Test.YthbfkmgcomomfaaNumIn
namespace Go.Proofs.Ythbfkmgcomomfaa.P
open Go.RowKit Go.Proofs.YthbfkmgcomomfaaW.PrintWords Go.Proofs.YthbfkmgcomomfaaW.PrintLast Go.Proofs.YthbfkmgcomomfaaW.PrintMore Go.Proofs.Ythbfkmgcomomfaa.Math
set_option linter.unusedVariables false
set_option linter.unusedSimpArgs false

set_option maxHeartbeats 4000000 in
set_option maxRecDepth 100000 in
theorem mulDiv_out (a0 a1 a2 a3 : Int) (w : World) (y110 : List Int) (hy110 : y110 = ([a0, a1, a2] : List Int)) (a5 : num_in.f 4 y110 = some false) :
    Calls Try.prog 7 #[.int .i64 a0, .int .i64 a1, .int .i64 a2, .int .i64 a3] w fun e w' => e = .returned (.tuple #[.int .i64 0, .int .i64 1]) ∧ Below w.heap.size w w' := by
  have HB := Aside0.mk (Below.refl w.heap.size w)
  have Ny110 := Aside0.mk hy110
  have A5 := Aside0.mk a5
  clear hy110 a5
  go_enter Try.func7, Try.ntmps7
  go_wp2_with (first | ((with_reducible refine gate_dst (N := 19) rfl ?_); refine Kd.R_lit (Kd.int .i64) _ 3 ?hg (N := 19) ?hd (xs := ([a0, a1, a2] : List Int)) (inner := [.int .i64 a0, .int .i64 a1, .int .i64 a2]) (ok := fun _ => True) (okp := fun _ => True) ?hr ?hp (fun _ hk => hk) trivial (Below.refl _ _) (Nat.le_refl _) (by simp) ?_; (case hd => rfl); (case hg => rfl); (case hr => first | (go_simp; done) | (go_simp; rfl)); (case hp => exact (Reps.one (show Kd.M (Kd.int .i64) _ _ _ a0 [.int .i64 a0] from rfl) (Reps.one (show Kd.M (Kd.int .i64) _ _ _ a1 [.int .i64 a1] from rfl) (Reps.one (show Kd.M (Kd.int .i64) _ _ _ a2 [.int .i64 a2] from rfl) (Reps.none _ _))))); intro v111 w26 ho27 hb hg_ hnew_; clear hg_ hnew_; (first | rw [← Ny110.out] at ho27 | (simp only [Int.reduceToNat] at ho27; rw [← Ny110.out] at ho27)); have n0_ := Aside0.mk ho27; have n1_ := Aside0.mk (below_step (by repeat (first | (with_reducible first | exact HB.out | apply below_alloc | apply pw_below_drewN | apply below_drew1) | exact HB.out)) hb); clear HB; have HO112 := n0_; have HB := n1_; clear n0_ n1_; clear hb ho27; obtain ⟨Ao28, co28, eo28⟩ := Kd.R_slice HO112.out; subst eo28) | ((with_reducible refine gate_callee (f := 9) rfl ?_); refine goesL_ (some 20) rfl rfl Try.func9 (by kernel_rfl) rfl #[.slice Ao28 y110.length co28] rfl (by (try simp only [List.map_toArray, List.map_cons, List.map_nil]); first | done | rfl | (simp only [List.length_drop, List.length_take]; rfl)) ?_; (with_reducible refine (num_in.calls 4 _ _ y110 false _ ?side1 ?side2 A5.out).mono ?_); (case side1 => repeat (first | exact (Kd.R_reads' HO112.out).2.2 | (with_reducible refine Kd.C_alloc ?_ _) | (with_reducible refine Kd.C_drewN ?_ _) | (with_reducible refine Kd.C_drew ?_))); (case side2 => exact (Kd.R_reads' HO112.out).2.1); rintro e w' ⟨rfl, ⟨nd, rfl⟩⟩; refine ⟨_, rfl, ?_⟩))
  go_ret2
  exact ⟨rfl, (by repeat (first | (with_reducible first | exact HB.out | apply below_alloc | apply pw_below_drewN | apply below_drew1) | exact HB.out))⟩

set_option maxHeartbeats 4000000 in
set_option maxRecDepth 100000 in
theorem mulDiv_zero (a0 a1 a2 a3 : Int) (w : World) (y110 : List Int) (hy110 : y110 = ([a0, a1, a2] : List Int)) (a5 : num_in.f 4 y110 = some true) (c7 : a2 = 0) :
    Calls Try.prog 7 #[.int .i64 a0, .int .i64 a1, .int .i64 a2, .int .i64 a3] w fun e w' => e = .returned (.tuple #[.int .i64 0, .int .i64 16]) ∧ Below w.heap.size w w' := by
  have HB := Aside0.mk (Below.refl w.heap.size w)
  have Ny110 := Aside0.mk hy110
  have A5 := Aside0.mk a5
  clear hy110 a5
  have c7b0 : (a2 == 0) = true := beq_iff_eq.mpr c7
  have c7b1 : (a2 != 0) = false := bne_eq_false_iff_eq.mpr c7
  clear c7
  go_enter Try.func7, Try.ntmps7
  go_wp2_with (first | ((with_reducible refine gate_dst (N := 19) rfl ?_); refine Kd.R_lit (Kd.int .i64) _ 3 ?hg (N := 19) ?hd (xs := ([a0, a1, a2] : List Int)) (inner := [.int .i64 a0, .int .i64 a1, .int .i64 a2]) (ok := fun _ => True) (okp := fun _ => True) ?hr ?hp (fun _ hk => hk) trivial (Below.refl _ _) (Nat.le_refl _) (by simp) ?_; (case hd => rfl); (case hg => rfl); (case hr => first | (go_simp; done) | (go_simp; rfl)); (case hp => exact (Reps.one (show Kd.M (Kd.int .i64) _ _ _ a0 [.int .i64 a0] from rfl) (Reps.one (show Kd.M (Kd.int .i64) _ _ _ a1 [.int .i64 a1] from rfl) (Reps.one (show Kd.M (Kd.int .i64) _ _ _ a2 [.int .i64 a2] from rfl) (Reps.none _ _))))); intro v111 w26 ho27 hb hg_ hnew_; clear hg_ hnew_; (first | rw [← Ny110.out] at ho27 | (simp only [Int.reduceToNat] at ho27; rw [← Ny110.out] at ho27)); have n0_ := Aside0.mk ho27; have n1_ := Aside0.mk (below_step (by repeat (first | (with_reducible first | exact HB.out | apply below_alloc | apply pw_below_drewN | apply below_drew1) | exact HB.out)) hb); clear HB; have HO112 := n0_; have HB := n1_; clear n0_ n1_; clear hb ho27; obtain ⟨Ao28, co28, eo28⟩ := Kd.R_slice HO112.out; subst eo28) | ((with_reducible refine gate_callee (f := 9) rfl ?_); refine goesL_ (some 20) rfl rfl Try.func9 (by kernel_rfl) rfl #[.slice Ao28 y110.length co28] rfl (by (try simp only [List.map_toArray, List.map_cons, List.map_nil]); first | done | rfl | (simp only [List.length_drop, List.length_take]; rfl)) ?_; (with_reducible refine (num_in.calls 4 _ _ y110 true _ ?side1 ?side2 A5.out).mono ?_); (case side1 => repeat (first | exact (Kd.R_reads' HO112.out).2.2 | (with_reducible refine Kd.C_alloc ?_ _) | (with_reducible refine Kd.C_drewN ?_ _) | (with_reducible refine Kd.C_drew ?_))); (case side2 => exact (Kd.R_reads' HO112.out).2.1); rintro e w' ⟨rfl, ⟨nd, rfl⟩⟩; refine ⟨_, rfl, ?_⟩))
  go_ret2
  exact ⟨rfl, (by repeat (first | (with_reducible first | exact HB.out | apply below_alloc | apply pw_below_drewN | apply below_drew1) | exact HB.out))⟩

set_option maxHeartbeats 4000000 in
set_option maxRecDepth 100000 in
theorem mulDiv_low (a0 a1 a2 a3 : Int) (w : World) (y110 : List Int) (hy110 : y110 = ([a0, a1, a2] : List Int)) (a5 : num_in.f 4 y110 = some true) (c7 : a2 ≠ 0) (c8 : a3 < 0) :
    Calls Try.prog 7 #[.int .i64 a0, .int .i64 a1, .int .i64 a2, .int .i64 a3] w fun e w' => e = .returned (.tuple #[.int .i64 0, .int .i64 17]) ∧ Below w.heap.size w w' := by
  have HB := Aside0.mk (Below.refl w.heap.size w)
  have Ny110 := Aside0.mk hy110
  have A5 := Aside0.mk a5
  clear hy110 a5
  have c7b0 : (a2 == 0) = false := beq_eq_false_iff_ne.mpr c7
  have c7b1 : (a2 != 0) = true := bne_iff_ne.mpr c7
  clear c7
  have c8b0 : decide (a3 < 0) = true := decide_eq_true c8
  clear c8
  go_enter Try.func7, Try.ntmps7
  go_wp2_with (first | ((with_reducible refine gate_dst (N := 19) rfl ?_); refine Kd.R_lit (Kd.int .i64) _ 3 ?hg (N := 19) ?hd (xs := ([a0, a1, a2] : List Int)) (inner := [.int .i64 a0, .int .i64 a1, .int .i64 a2]) (ok := fun _ => True) (okp := fun _ => True) ?hr ?hp (fun _ hk => hk) trivial (Below.refl _ _) (Nat.le_refl _) (by simp) ?_; (case hd => rfl); (case hg => rfl); (case hr => first | (go_simp; done) | (go_simp; rfl)); (case hp => exact (Reps.one (show Kd.M (Kd.int .i64) _ _ _ a0 [.int .i64 a0] from rfl) (Reps.one (show Kd.M (Kd.int .i64) _ _ _ a1 [.int .i64 a1] from rfl) (Reps.one (show Kd.M (Kd.int .i64) _ _ _ a2 [.int .i64 a2] from rfl) (Reps.none _ _))))); intro v111 w26 ho27 hb hg_ hnew_; clear hg_ hnew_; (first | rw [← Ny110.out] at ho27 | (simp only [Int.reduceToNat] at ho27; rw [← Ny110.out] at ho27)); have n0_ := Aside0.mk ho27; have n1_ := Aside0.mk (below_step (by repeat (first | (with_reducible first | exact HB.out | apply below_alloc | apply pw_below_drewN | apply below_drew1) | exact HB.out)) hb); clear HB; have HO112 := n0_; have HB := n1_; clear n0_ n1_; clear hb ho27; obtain ⟨Ao28, co28, eo28⟩ := Kd.R_slice HO112.out; subst eo28) | ((with_reducible refine gate_callee (f := 9) rfl ?_); refine goesL_ (some 20) rfl rfl Try.func9 (by kernel_rfl) rfl #[.slice Ao28 y110.length co28] rfl (by (try simp only [List.map_toArray, List.map_cons, List.map_nil]); first | done | rfl | (simp only [List.length_drop, List.length_take]; rfl)) ?_; (with_reducible refine (num_in.calls 4 _ _ y110 true _ ?side1 ?side2 A5.out).mono ?_); (case side1 => repeat (first | exact (Kd.R_reads' HO112.out).2.2 | (with_reducible refine Kd.C_alloc ?_ _) | (with_reducible refine Kd.C_drewN ?_ _) | (with_reducible refine Kd.C_drew ?_))); (case side2 => exact (Kd.R_reads' HO112.out).2.1); rintro e w' ⟨rfl, ⟨nd, rfl⟩⟩; refine ⟨_, rfl, ?_⟩))
  go_ret2
  exact ⟨rfl, (by repeat (first | (with_reducible first | exact HB.out | apply below_alloc | apply pw_below_drewN | apply below_drew1) | exact HB.out))⟩

set_option maxHeartbeats 4000000 in
set_option maxRecDepth 100000 in
theorem mulDiv_high (a0 a1 a2 a3 : Int) (w : World) (y110 : List Int) (hy110 : y110 = ([a0, a1, a2] : List Int)) (a5 : num_in.f 4 y110 = some true) (c7 : a2 ≠ 0) (c8 : ¬ a3 < 0) (c9 : 3 ≤ a3) :
    Calls Try.prog 7 #[.int .i64 a0, .int .i64 a1, .int .i64 a2, .int .i64 a3] w fun e w' => e = .returned (.tuple #[.int .i64 0, .int .i64 17]) ∧ Below w.heap.size w w' := by
  have HB := Aside0.mk (Below.refl w.heap.size w)
  have Ny110 := Aside0.mk hy110
  have A5 := Aside0.mk a5
  clear hy110 a5
  have c7b0 : (a2 == 0) = false := beq_eq_false_iff_ne.mpr c7
  have c7b1 : (a2 != 0) = true := bne_iff_ne.mpr c7
  clear c7
  have c8b0 : decide (a3 < 0) = false := decide_eq_false c8
  have c9b0 : decide (3 ≤ a3) = true := decide_eq_true c9
  clear c8 c9
  go_enter Try.func7, Try.ntmps7
  go_wp2_with (first | ((with_reducible refine gate_dst (N := 19) rfl ?_); refine Kd.R_lit (Kd.int .i64) _ 3 ?hg (N := 19) ?hd (xs := ([a0, a1, a2] : List Int)) (inner := [.int .i64 a0, .int .i64 a1, .int .i64 a2]) (ok := fun _ => True) (okp := fun _ => True) ?hr ?hp (fun _ hk => hk) trivial (Below.refl _ _) (Nat.le_refl _) (by simp) ?_; (case hd => rfl); (case hg => rfl); (case hr => first | (go_simp; done) | (go_simp; rfl)); (case hp => exact (Reps.one (show Kd.M (Kd.int .i64) _ _ _ a0 [.int .i64 a0] from rfl) (Reps.one (show Kd.M (Kd.int .i64) _ _ _ a1 [.int .i64 a1] from rfl) (Reps.one (show Kd.M (Kd.int .i64) _ _ _ a2 [.int .i64 a2] from rfl) (Reps.none _ _))))); intro v111 w26 ho27 hb hg_ hnew_; clear hg_ hnew_; (first | rw [← Ny110.out] at ho27 | (simp only [Int.reduceToNat] at ho27; rw [← Ny110.out] at ho27)); have n0_ := Aside0.mk ho27; have n1_ := Aside0.mk (below_step (by repeat (first | (with_reducible first | exact HB.out | apply below_alloc | apply pw_below_drewN | apply below_drew1) | exact HB.out)) hb); clear HB; have HO112 := n0_; have HB := n1_; clear n0_ n1_; clear hb ho27; obtain ⟨Ao28, co28, eo28⟩ := Kd.R_slice HO112.out; subst eo28) | ((with_reducible refine gate_callee (f := 9) rfl ?_); refine goesL_ (some 20) rfl rfl Try.func9 (by kernel_rfl) rfl #[.slice Ao28 y110.length co28] rfl (by (try simp only [List.map_toArray, List.map_cons, List.map_nil]); first | done | rfl | (simp only [List.length_drop, List.length_take]; rfl)) ?_; (with_reducible refine (num_in.calls 4 _ _ y110 true _ ?side1 ?side2 A5.out).mono ?_); (case side1 => repeat (first | exact (Kd.R_reads' HO112.out).2.2 | (with_reducible refine Kd.C_alloc ?_ _) | (with_reducible refine Kd.C_drewN ?_ _) | (with_reducible refine Kd.C_drew ?_))); (case side2 => exact (Kd.R_reads' HO112.out).2.1); rintro e w' ⟨rfl, ⟨nd, rfl⟩⟩; refine ⟨_, rfl, ?_⟩))
  go_ret2
  exact ⟨rfl, (by repeat (first | (with_reducible first | exact HB.out | apply below_alloc | apply pw_below_drewN | apply below_drew1) | exact HB.out))⟩

set_option maxHeartbeats 4000000 in
set_option maxRecDepth 100000 in
theorem mulDiv_wide (a0 a1 a2 a3 : Int) (w : World) (y110 : List Int) (hy110 : y110 = ([a0, a1, a2] : List Int)) (a5 : num_in.f 4 y110 = some true) (c7 : a2 ≠ 0) (c8 : ¬ a3 < 0) (c9 : ¬ 3 ≤ a3) (t114 t115 t116 t117 t118 t119 t120 : Int) (a19 : num_size.f a0 = some t114) (a20 : num_size.f a1 = some t115) (a21 : num_product.f t114 t115 = some (t116, t117)) (a22 : num_size.f a2 = some t118) (a23 : num_wide_divide.f t116 t117 t118 = some (t119, t120, false)) :
    Calls Try.prog 7 #[.int .i64 a0, .int .i64 a1, .int .i64 a2, .int .i64 a3] w fun e w' => e = .returned (.tuple #[.int .i64 0, .int .i64 2]) ∧ Below w.heap.size w w' := by
  have HB := Aside0.mk (Below.refl w.heap.size w)
  have Ny110 := Aside0.mk hy110
  have A5 := Aside0.mk a5
  clear hy110 a5
  have c7b0 : (a2 == 0) = false := beq_eq_false_iff_ne.mpr c7
  have c7b1 : (a2 != 0) = true := bne_iff_ne.mpr c7
  clear c7
  have c8b0 : decide (a3 < 0) = false := decide_eq_false c8
  have c9b0 : decide (3 ≤ a3) = false := decide_eq_false c9
  clear c8 c9
  have A19 := Aside0.mk a19
  have A20 := Aside0.mk a20
  have A21 := Aside0.mk a21
  have A22 := Aside0.mk a22
  have A23 := Aside0.mk a23
  clear a19 a20 a21 a22 a23
  go_enter Try.func7, Try.ntmps7
  go_wp2_with (first | ((with_reducible refine gate_dst (N := 19) rfl ?_); refine Kd.R_lit (Kd.int .i64) _ 3 ?hg (N := 19) ?hd (xs := ([a0, a1, a2] : List Int)) (inner := [.int .i64 a0, .int .i64 a1, .int .i64 a2]) (ok := fun _ => True) (okp := fun _ => True) ?hr ?hp (fun _ hk => hk) trivial (Below.refl _ _) (Nat.le_refl _) (by simp) ?_; (case hd => rfl); (case hg => rfl); (case hr => first | (go_simp; done) | (go_simp; rfl)); (case hp => exact (Reps.one (show Kd.M (Kd.int .i64) _ _ _ a0 [.int .i64 a0] from rfl) (Reps.one (show Kd.M (Kd.int .i64) _ _ _ a1 [.int .i64 a1] from rfl) (Reps.one (show Kd.M (Kd.int .i64) _ _ _ a2 [.int .i64 a2] from rfl) (Reps.none _ _))))); intro v111 w26 ho27 hb hg_ hnew_; clear hg_ hnew_; (first | rw [← Ny110.out] at ho27 | (simp only [Int.reduceToNat] at ho27; rw [← Ny110.out] at ho27)); have n0_ := Aside0.mk ho27; have n1_ := Aside0.mk (below_step (by repeat (first | (with_reducible first | exact HB.out | apply below_alloc | apply pw_below_drewN | apply below_drew1) | exact HB.out)) hb); clear HB; have HO112 := n0_; have HB := n1_; clear n0_ n1_; clear hb ho27; obtain ⟨Ao28, co28, eo28⟩ := Kd.R_slice HO112.out; subst eo28) | ((with_reducible refine gate_callee (f := 9) rfl ?_); refine goesL_ (some 20) rfl rfl Try.func9 (by kernel_rfl) rfl #[.slice Ao28 y110.length co28] rfl (by (try simp only [List.map_toArray, List.map_cons, List.map_nil]); first | done | rfl | (simp only [List.length_drop, List.length_take]; rfl)) ?_; (with_reducible refine (num_in.calls 4 _ _ y110 true _ ?side1 ?side2 A5.out).mono ?_); (case side1 => repeat (first | exact (Kd.R_reads' HO112.out).2.2 | (with_reducible refine Kd.C_alloc ?_ _) | (with_reducible refine Kd.C_drewN ?_ _) | (with_reducible refine Kd.C_drew ?_))); (case side2 => exact (Kd.R_reads' HO112.out).2.1); rintro e w' ⟨rfl, ⟨nd, rfl⟩⟩; refine ⟨_, rfl, ?_⟩) | ((with_reducible refine gate_callee (f := 12) rfl ?_); refine goesL_ (some 34) rfl rfl Try.func12 (by kernel_rfl) rfl #[.int .i64 a0] rfl (by (try simp only [List.map_toArray, List.map_cons, List.map_nil]); first | done | rfl | (simp only [List.length_drop, List.length_take]; rfl)) ?_; (with_reducible refine (num_size.calls a0 t114 _ A19.out).mono ?_); rintro e w' ⟨rfl, ⟨nd, rfl⟩⟩; refine ⟨_, rfl, ?_⟩) | ((with_reducible refine gate_callee (f := 12) rfl ?_); refine goesL_ (some 36) rfl rfl Try.func12 (by kernel_rfl) rfl #[.int .i64 a1] rfl (by (try simp only [List.map_toArray, List.map_cons, List.map_nil]); first | done | rfl | (simp only [List.length_drop, List.length_take]; rfl)) ?_; (with_reducible refine (num_size.calls a1 t115 _ A20.out).mono ?_); rintro e w' ⟨rfl, ⟨nd, rfl⟩⟩; refine ⟨_, rfl, ?_⟩) | ((with_reducible refine gate_callee (f := 11) rfl ?_); refine goesL_ (some 37) rfl rfl Try.func11 (by kernel_rfl) rfl #[.int .u64 t114, .int .u64 t115] rfl (by (try simp only [List.map_toArray, List.map_cons, List.map_nil]); first | done | rfl | (simp only [List.length_drop, List.length_take]; rfl)) ?_; (with_reducible refine (num_product.calls t114 t115 t116 t117 _ A21.out).mono ?_); rintro e w29 ⟨rfl, hb⟩; refine ⟨_, rfl, ?_⟩; have n1_ := Aside0.mk (below_step (by repeat (first | (with_reducible first | exact HB.out | apply below_alloc | apply pw_below_drewN | apply below_drew1) | exact HB.out)) hb); clear HB; have HB := n1_; clear n1_; clear hb) | ((with_reducible refine gate_callee (f := 12) rfl ?_); refine goesL_ (some 39) rfl rfl Try.func12 (by kernel_rfl) rfl #[.int .i64 a2] rfl (by (try simp only [List.map_toArray, List.map_cons, List.map_nil]); first | done | rfl | (simp only [List.length_drop, List.length_take]; rfl)) ?_; (with_reducible refine (num_size.calls a2 t118 _ A22.out).mono ?_); rintro e w' ⟨rfl, ⟨nd, rfl⟩⟩; refine ⟨_, rfl, ?_⟩) | ((with_reducible refine gate_callee (f := 13) rfl ?_); refine goesL_ (some 40) rfl rfl Try.func13 (by kernel_rfl) rfl #[.agg #[.int .u64 t116, .int .u64 t117], .int .u64 t118] rfl (by (try simp only [List.map_toArray, List.map_cons, List.map_nil]); first | done | rfl | (simp only [List.length_drop, List.length_take]; rfl)) ?_; (with_reducible refine (num_wide_divide.calls t116 t117 t118 t119 t120 false _ A23.out).mono ?_); rintro e w30 ⟨rfl, hb⟩; refine ⟨_, rfl, ?_⟩; have n1_ := Aside0.mk (below_step (by repeat (first | (with_reducible first | exact HB.out | apply below_alloc | apply pw_below_drewN | apply below_drew1) | exact HB.out)) hb); clear HB; have HB := n1_; clear n1_; clear hb))
  go_ret2
  exact ⟨rfl, (by repeat (first | (with_reducible first | exact HB.out | apply below_alloc | apply pw_below_drewN | apply below_drew1) | exact HB.out))⟩

set_option maxHeartbeats 4000000 in
set_option maxRecDepth 100000 in
theorem mulDiv_main (a0 a1 a2 a3 : Int) (w : World) (y110 : List Int) (hy110 : y110 = ([a0, a1, a2] : List Int)) (a5 : num_in.f 4 y110 = some true) (c7 : a2 ≠ 0) (c8 : ¬ a3 < 0) (c9 : ¬ 3 ≤ a3) (t114 t115 t116 t117 t118 t119 t120 : Int) (a19 : num_size.f a0 = some t114) (a20 : num_size.f a1 = some t115) (a21 : num_product.f t114 t115 = some (t116, t117)) (a22 : num_size.f a2 = some t118) (a23 : num_wide_divide.f t116 t117 t118 = some (t119, t120, true)) (N G : Bool) (hN : N = ((decide (a0 < 0) != decide (a1 < 0)) != decide (a2 < 0))) (hG : G = (if a3 = 0 then N && decide (0 < t120) else if a3 = 1 then !N && decide (0 < t120) else decide (t118 < 2 * t120) || (decide (2 * t120 = t118) && decide (t119 % 2 = 1)))) (hq0 : 0 ≤ t119) (hq1 : t119 < 4611686018427387904) (hr0 : 0 ≤ t120) (hr1 : t120 < 1125899906842624) :
    Calls Try.prog 7 #[.int .i64 a0, .int .i64 a1, .int .i64 a2, .int .i64 a3] w fun e w' => e = .returned (.tuple #[.int .i64 (if 1125899906842624 < (if G = true then t119 + 1 else t119) then (0, 2) else (if N = true then -(if G = true then t119 + 1 else t119) else (if G = true then t119 + 1 else t119), 0) : Int × Int).1, .int .i64 (if 1125899906842624 < (if G = true then t119 + 1 else t119) then (0, 2) else (if N = true then -(if G = true then t119 + 1 else t119) else (if G = true then t119 + 1 else t119), 0) : Int × Int).2]) ∧ Below w.heap.size w w' := by
  have HB := Aside0.mk (Below.refl w.heap.size w)
  have Ny110 := Aside0.mk hy110
  have A5 := Aside0.mk a5
  clear hy110 a5
  have c7b0 : (a2 == 0) = false := beq_eq_false_iff_ne.mpr c7
  have c7b1 : (a2 != 0) = true := bne_iff_ne.mpr c7
  clear c7
  have c8b0 : decide (a3 < 0) = false := decide_eq_false c8
  have c9b0 : decide (3 ≤ a3) = false := decide_eq_false c9
  have C8 := Aside0.mk c8
  have C9 := Aside0.mk c9
  clear c8 c9
  have A19 := Aside0.mk a19
  have A20 := Aside0.mk a20
  have A21 := Aside0.mk a21
  have A22 := Aside0.mk a22
  have A23 := Aside0.mk a23
  clear a19 a20 a21 a22 a23
  have HN := Aside0.mk hN
  have HG := Aside0.mk hG
  have HQ := Aside0.mk (And.intro hq0 (And.intro hq1 (And.intro hr0 hr1)))
  clear hN hG hq0 hq1 hr0 hr1
  go_enter Try.func7, Try.ntmps7
  go_upto_region 10 with (first | ((with_reducible refine gate_dst (N := 19) rfl ?_); refine Kd.R_lit (Kd.int .i64) _ 3 ?hg (N := 19) ?hd (xs := ([a0, a1, a2] : List Int)) (inner := [.int .i64 a0, .int .i64 a1, .int .i64 a2]) (ok := fun _ => True) (okp := fun _ => True) ?hr ?hp (fun _ hk => hk) trivial (Below.refl _ _) (Nat.le_refl _) (by simp) ?_; (case hd => rfl); (case hg => rfl); (case hr => first | (go_simp; done) | (go_simp; rfl)); (case hp => exact (Reps.one (show Kd.M (Kd.int .i64) _ _ _ a0 [.int .i64 a0] from rfl) (Reps.one (show Kd.M (Kd.int .i64) _ _ _ a1 [.int .i64 a1] from rfl) (Reps.one (show Kd.M (Kd.int .i64) _ _ _ a2 [.int .i64 a2] from rfl) (Reps.none _ _))))); intro v111 w26 ho27 hb hg_ hnew_; clear hg_ hnew_; (first | rw [← Ny110.out] at ho27 | (simp only [Int.reduceToNat] at ho27; rw [← Ny110.out] at ho27)); have n0_ := Aside0.mk ho27; have n1_ := Aside0.mk (below_step (by repeat (first | (with_reducible first | exact HB.out | apply below_alloc | apply pw_below_drewN | apply below_drew1) | exact HB.out)) hb); clear HB; have HO112 := n0_; have HB := n1_; clear n0_ n1_; clear hb ho27; obtain ⟨Ao28, co28, eo28⟩ := Kd.R_slice HO112.out; subst eo28) | ((with_reducible refine gate_callee (f := 9) rfl ?_); refine goesL_ (some 20) rfl rfl Try.func9 (by kernel_rfl) rfl #[.slice Ao28 y110.length co28] rfl (by (try simp only [List.map_toArray, List.map_cons, List.map_nil]); first | done | rfl | (simp only [List.length_drop, List.length_take]; rfl)) ?_; (with_reducible refine (num_in.calls 4 _ _ y110 true _ ?side1 ?side2 A5.out).mono ?_); (case side1 => repeat (first | exact (Kd.R_reads' HO112.out).2.2 | (with_reducible refine Kd.C_alloc ?_ _) | (with_reducible refine Kd.C_drewN ?_ _) | (with_reducible refine Kd.C_drew ?_))); (case side2 => exact (Kd.R_reads' HO112.out).2.1); rintro e w' ⟨rfl, ⟨nd, rfl⟩⟩; refine ⟨_, rfl, ?_⟩) | ((with_reducible refine gate_callee (f := 12) rfl ?_); refine goesL_ (some 34) rfl rfl Try.func12 (by kernel_rfl) rfl #[.int .i64 a0] rfl (by (try simp only [List.map_toArray, List.map_cons, List.map_nil]); first | done | rfl | (simp only [List.length_drop, List.length_take]; rfl)) ?_; (with_reducible refine (num_size.calls a0 t114 _ A19.out).mono ?_); rintro e w' ⟨rfl, ⟨nd, rfl⟩⟩; refine ⟨_, rfl, ?_⟩) | ((with_reducible refine gate_callee (f := 12) rfl ?_); refine goesL_ (some 36) rfl rfl Try.func12 (by kernel_rfl) rfl #[.int .i64 a1] rfl (by (try simp only [List.map_toArray, List.map_cons, List.map_nil]); first | done | rfl | (simp only [List.length_drop, List.length_take]; rfl)) ?_; (with_reducible refine (num_size.calls a1 t115 _ A20.out).mono ?_); rintro e w' ⟨rfl, ⟨nd, rfl⟩⟩; refine ⟨_, rfl, ?_⟩) | ((with_reducible refine gate_callee (f := 11) rfl ?_); refine goesL_ (some 37) rfl rfl Try.func11 (by kernel_rfl) rfl #[.int .u64 t114, .int .u64 t115] rfl (by (try simp only [List.map_toArray, List.map_cons, List.map_nil]); first | done | rfl | (simp only [List.length_drop, List.length_take]; rfl)) ?_; (with_reducible refine (num_product.calls t114 t115 t116 t117 _ A21.out).mono ?_); rintro e w29 ⟨rfl, hb⟩; refine ⟨_, rfl, ?_⟩; have n1_ := Aside0.mk (below_step (by repeat (first | (with_reducible first | exact HB.out | apply below_alloc | apply pw_below_drewN | apply below_drew1) | exact HB.out)) hb); clear HB; have HB := n1_; clear n1_; clear hb) | ((with_reducible refine gate_callee (f := 12) rfl ?_); refine goesL_ (some 39) rfl rfl Try.func12 (by kernel_rfl) rfl #[.int .i64 a2] rfl (by (try simp only [List.map_toArray, List.map_cons, List.map_nil]); first | done | rfl | (simp only [List.length_drop, List.length_take]; rfl)) ?_; (with_reducible refine (num_size.calls a2 t118 _ A22.out).mono ?_); rintro e w' ⟨rfl, ⟨nd, rfl⟩⟩; refine ⟨_, rfl, ?_⟩) | ((with_reducible refine gate_callee (f := 13) rfl ?_); refine goesL_ (some 40) rfl rfl Try.func13 (by kernel_rfl) rfl #[.agg #[.int .u64 t116, .int .u64 t117], .int .u64 t118] rfl (by (try simp only [List.map_toArray, List.map_cons, List.map_nil]); first | done | rfl | (simp only [List.length_drop, List.length_take]; rfl)) ?_; (with_reducible refine (num_wide_divide.calls t116 t117 t118 t119 t120 true _ A23.out).mono ?_); rintro e w30 ⟨rfl, hb⟩; refine ⟨_, rfl, ?_⟩; have n1_ := Aside0.mk (below_step (by repeat (first | (with_reducible first | exact HB.out | apply below_alloc | apply pw_below_drewN | apply below_drew1) | exact HB.out)) hb); clear HB; have HB := n1_; clear n1_; clear hb))
  (try simp only [Act.put, List.setIfInBounds_toArray, List.set_cons_zero, List.set_cons_succ])
  go_cut [13] (fun v13 wc => v13 = .bool N ∧ Aside0 (Below w.heap.size w wc))
  case first =>
    by_cases c0 : a0 < 0 <;> by_cases c1 : a1 < 0 <;> by_cases c2 : a2 < 0
    all_goals
      go_wp2
      go_meet
      case rel => exact ⟨by rw [HN.out]; (first | rw [decide_eq_true c0] | rw [decide_eq_false (show ¬ a0 < 0 by omega)]); (first | rw [decide_eq_true c1] | rw [decide_eq_false (show ¬ a1 < 0 by omega)]); (first | rw [decide_eq_true c2] | rw [decide_eq_false (show ¬ a2 < 0 by omega)]); rfl, ⟨(by repeat (first | (with_reducible first | exact HB.out | apply below_alloc | apply pw_below_drewN | apply below_drew1) | exact HB.out))⟩⟩
  case rest =>
    obtain ⟨rfl, HB⟩ := hcut
    go_upto_block 1 with (fail)
    (try simp only [Act.put, List.setIfInBounds_toArray, List.set_cons_zero, List.set_cons_succ])
    go_cut [14] (fun v14 wc => v14 = .bool G ∧ Aside0 (Below w.heap.size w wc))
    case first =>
      obtain ⟨hq0, hq1, hr0, hr1⟩ := HQ.out
      by_cases m0 : a3 = 0
      · have M0 := Aside0.mk m0
        have m0b : (a3 == 0) = true := beq_iff_eq.mpr m0
        clear m0
        cases N with
        | true =>
          go_wp2
          go_meet
          case rel => exact ⟨by rw [HG.out, if_pos M0.out]; simp, ⟨(by repeat (first | (with_reducible first | exact HB.out | apply below_alloc | apply pw_below_drewN | apply below_drew1) | exact HB.out))⟩⟩
        | false =>
          go_wp2
          go_meet
          case rel => exact ⟨by rw [HG.out, if_pos M0.out]; simp, ⟨(by repeat (first | (with_reducible first | exact HB.out | apply below_alloc | apply pw_below_drewN | apply below_drew1) | exact HB.out))⟩⟩
      · have M0 := Aside0.mk m0
        have m0b : (a3 == 0) = false := beq_eq_false_iff_ne.mpr m0
        clear m0
        by_cases m1 : a3 = 1
        · have M1 := Aside0.mk m1
          have m1b : (a3 == 1) = true := beq_iff_eq.mpr m1
          clear m1
          cases N with
          | true =>
            go_wp2
            go_meet
            case rel => exact ⟨by rw [HG.out, if_neg M0.out, if_pos M1.out]; simp, ⟨(by repeat (first | (with_reducible first | exact HB.out | apply below_alloc | apply pw_below_drewN | apply below_drew1) | exact HB.out))⟩⟩
          | false =>
            go_wp2
            go_meet
            case rel => exact ⟨by rw [HG.out, if_neg M0.out, if_pos M1.out]; simp, ⟨(by repeat (first | (with_reducible first | exact HB.out | apply below_alloc | apply pw_below_drewN | apply below_drew1) | exact HB.out))⟩⟩
        · have M1 := Aside0.mk m1
          have m1b : (a3 == 1) = false := beq_eq_false_iff_ne.mpr m1
          clear m1
          by_cases g1 : t118 < 2 * t120
          · have g1b : decide (t118 < 2 * t120) = true := decide_eq_true g1
            go_wp2_with (first | ((with_reducible refine gate_callee (f := 12) rfl ?_); refine goesL_ (some 58) rfl rfl Try.func12 (by kernel_rfl) rfl #[.int .i64 a2] rfl (by (try simp only [List.map_toArray, List.map_cons, List.map_nil]); first | done | rfl | (simp only [List.length_drop, List.length_take]; rfl)) ?_; (with_reducible refine (num_size.calls a2 t118 _ A22.out).mono ?_); rintro e w' ⟨rfl, ⟨nd, rfl⟩⟩; refine ⟨_, rfl, ?_⟩) | ((with_reducible refine gate_callee (f := 12) rfl ?_); refine goesL_ (some 64) rfl rfl Try.func12 (by kernel_rfl) rfl #[.int .i64 a2] rfl (by (try simp only [List.map_toArray, List.map_cons, List.map_nil]); first | done | rfl | (simp only [List.length_drop, List.length_take]; rfl)) ?_; (with_reducible refine (num_size.calls a2 t118 _ A22.out).mono ?_); rintro e w' ⟨rfl, ⟨nd, rfl⟩⟩; refine ⟨_, rfl, ?_⟩) | (go_at_call 12; (with_reducible refine (num_size.calls a2 t118 _ A22.out).mono ?_); rintro e w' ⟨rfl, ⟨nd2, rfl⟩⟩))
            go_meet
            case rel => exact ⟨by rw [HG.out, if_neg M0.out, if_neg M1.out, decide_eq_true g1]; rfl, ⟨(by repeat (first | (with_reducible first | exact HB.out | apply below_alloc | apply pw_below_drewN | apply below_drew1) | exact HB.out))⟩⟩
          · have g1b : decide (t118 < 2 * t120) = false := decide_eq_false g1
            by_cases g2 : 2 * t120 = t118
            · have g2b : (2 * t120 == t118) = true := beq_iff_eq.mpr g2
              have G2 := Aside0.mk g2
              clear g2
              by_cases g3 : t119 % 2 = 1
              · have g3b : (t119 % 2 == 1) = true := beq_iff_eq.mpr g3
                have G3 := Aside0.mk g3
                clear g3
                go_wp2_with (first | ((with_reducible refine gate_callee (f := 12) rfl ?_); refine goesL_ (some 58) rfl rfl Try.func12 (by kernel_rfl) rfl #[.int .i64 a2] rfl (by (try simp only [List.map_toArray, List.map_cons, List.map_nil]); first | done | rfl | (simp only [List.length_drop, List.length_take]; rfl)) ?_; (with_reducible refine (num_size.calls a2 t118 _ A22.out).mono ?_); rintro e w' ⟨rfl, ⟨nd, rfl⟩⟩; refine ⟨_, rfl, ?_⟩) | ((with_reducible refine gate_callee (f := 12) rfl ?_); refine goesL_ (some 64) rfl rfl Try.func12 (by kernel_rfl) rfl #[.int .i64 a2] rfl (by (try simp only [List.map_toArray, List.map_cons, List.map_nil]); first | done | rfl | (simp only [List.length_drop, List.length_take]; rfl)) ?_; (with_reducible refine (num_size.calls a2 t118 _ A22.out).mono ?_); rintro e w' ⟨rfl, ⟨nd, rfl⟩⟩; refine ⟨_, rfl, ?_⟩) | (go_at_call 12; (with_reducible refine (num_size.calls a2 t118 _ A22.out).mono ?_); rintro e w' ⟨rfl, ⟨nd2, rfl⟩⟩))
                go_meet
                case rel => exact ⟨by rw [HG.out, if_neg M0.out, if_neg M1.out, decide_eq_false (show ¬ t118 < 2 * t120 by omega), decide_eq_true G2.out, decide_eq_true G3.out]; rfl, ⟨(by repeat (first | (with_reducible first | exact HB.out | apply below_alloc | apply pw_below_drewN | apply below_drew1) | exact HB.out))⟩⟩
              · have g3b : (t119 % 2 == 1) = false := beq_eq_false_iff_ne.mpr g3
                have G3 := Aside0.mk g3
                clear g3
                go_wp2_with (first | ((with_reducible refine gate_callee (f := 12) rfl ?_); refine goesL_ (some 58) rfl rfl Try.func12 (by kernel_rfl) rfl #[.int .i64 a2] rfl (by (try simp only [List.map_toArray, List.map_cons, List.map_nil]); first | done | rfl | (simp only [List.length_drop, List.length_take]; rfl)) ?_; (with_reducible refine (num_size.calls a2 t118 _ A22.out).mono ?_); rintro e w' ⟨rfl, ⟨nd, rfl⟩⟩; refine ⟨_, rfl, ?_⟩) | ((with_reducible refine gate_callee (f := 12) rfl ?_); refine goesL_ (some 64) rfl rfl Try.func12 (by kernel_rfl) rfl #[.int .i64 a2] rfl (by (try simp only [List.map_toArray, List.map_cons, List.map_nil]); first | done | rfl | (simp only [List.length_drop, List.length_take]; rfl)) ?_; (with_reducible refine (num_size.calls a2 t118 _ A22.out).mono ?_); rintro e w' ⟨rfl, ⟨nd, rfl⟩⟩; refine ⟨_, rfl, ?_⟩) | (go_at_call 12; (with_reducible refine (num_size.calls a2 t118 _ A22.out).mono ?_); rintro e w' ⟨rfl, ⟨nd2, rfl⟩⟩))
                go_meet
                case rel => exact ⟨by rw [HG.out, if_neg M0.out, if_neg M1.out, decide_eq_false (show ¬ t118 < 2 * t120 by omega), decide_eq_true G2.out, decide_eq_false G3.out]; rfl, ⟨(by repeat (first | (with_reducible first | exact HB.out | apply below_alloc | apply pw_below_drewN | apply below_drew1) | exact HB.out))⟩⟩
            · have g2b : (2 * t120 == t118) = false := beq_eq_false_iff_ne.mpr g2
              have G2 := Aside0.mk g2
              clear g2
              go_wp2_with (first | ((with_reducible refine gate_callee (f := 12) rfl ?_); refine goesL_ (some 58) rfl rfl Try.func12 (by kernel_rfl) rfl #[.int .i64 a2] rfl (by (try simp only [List.map_toArray, List.map_cons, List.map_nil]); first | done | rfl | (simp only [List.length_drop, List.length_take]; rfl)) ?_; (with_reducible refine (num_size.calls a2 t118 _ A22.out).mono ?_); rintro e w' ⟨rfl, ⟨nd, rfl⟩⟩; refine ⟨_, rfl, ?_⟩) | ((with_reducible refine gate_callee (f := 12) rfl ?_); refine goesL_ (some 64) rfl rfl Try.func12 (by kernel_rfl) rfl #[.int .i64 a2] rfl (by (try simp only [List.map_toArray, List.map_cons, List.map_nil]); first | done | rfl | (simp only [List.length_drop, List.length_take]; rfl)) ?_; (with_reducible refine (num_size.calls a2 t118 _ A22.out).mono ?_); rintro e w' ⟨rfl, ⟨nd, rfl⟩⟩; refine ⟨_, rfl, ?_⟩) | (go_at_call 12; (with_reducible refine (num_size.calls a2 t118 _ A22.out).mono ?_); rintro e w' ⟨rfl, ⟨nd2, rfl⟩⟩))
              go_meet
              case rel => exact ⟨by rw [HG.out, if_neg M0.out, if_neg M1.out, decide_eq_false (show ¬ t118 < 2 * t120 by omega), decide_eq_false G2.out]; rfl, ⟨(by repeat (first | (with_reducible first | exact HB.out | apply below_alloc | apply pw_below_drewN | apply below_drew1) | exact HB.out))⟩⟩
    case rest =>
      obtain ⟨rfl, HB⟩ := hcut
      obtain ⟨hq0, hq1, hr0, hr1⟩ := HQ.out
      clear HN HG
      cases G with
      | true =>
        by_cases ov : 1125899906842624 < t119 + 1
        · have ovb : decide (1125899906842624 < t119 + 1) = true := decide_eq_true ov
          go_wp2
          go_ret2
          exact ⟨by simp [ov], (by repeat (first | (with_reducible first | exact HB.out | apply below_alloc | apply pw_below_drewN | apply below_drew1) | exact HB.out))⟩
        · have ovb : decide (1125899906842624 < t119 + 1) = false := decide_eq_false ov
          cases N with
          | true =>
            go_wp2
            go_ret2
            exact ⟨by simp [ov], (by repeat (first | (with_reducible first | exact HB.out | apply below_alloc | apply pw_below_drewN | apply below_drew1) | exact HB.out))⟩
          | false =>
            go_wp2
            go_ret2
            exact ⟨by simp [ov], (by repeat (first | (with_reducible first | exact HB.out | apply below_alloc | apply pw_below_drewN | apply below_drew1) | exact HB.out))⟩
      | false =>
        by_cases ov : 1125899906842624 < t119
        · have ovb : decide (1125899906842624 < t119) = true := decide_eq_true ov
          go_wp2
          go_ret2
          exact ⟨by simp [ov], (by repeat (first | (with_reducible first | exact HB.out | apply below_alloc | apply pw_below_drewN | apply below_drew1) | exact HB.out))⟩
        · have ovb : decide (1125899906842624 < t119) = false := decide_eq_false ov
          cases N with
          | true =>
            go_wp2
            go_ret2
            exact ⟨by simp [ov], (by repeat (first | (with_reducible first | exact HB.out | apply below_alloc | apply pw_below_drewN | apply below_drew1) | exact HB.out))⟩
          | false =>
            go_wp2
            go_ret2
            exact ⟨by simp [ov], (by repeat (first | (with_reducible first | exact HB.out | apply below_alloc | apply pw_below_drewN | apply below_drew1) | exact HB.out))⟩


def num_MulDiv.f (a0 a1 a2 a3 : Int) : Option (Int × Int) := some (md a0 a1 a2 a3)

theorem num_MulDiv.calls (a0 a1 a2 a3 r1 r2 : Int) (w : World) (h : num_MulDiv.f a0 a1 a2 a3 = some (r1, r2)) :
    Calls Try.prog 7 #[.int .i64 a0, .int .i64 a1, .int .i64 a2, .int .i64 a3] w fun e w' => e = .returned (.tuple #[.int .i64 r1, .int .i64 r2]) ∧ Below w.heap.size w w' := by
  have hmd : md a0 a1 a2 a3 = (r1, r2) := Option.some.inj h
  have hin := num_in_eq ([a0, a1, a2] : List Int) (by simp) 4 (by simp)
  have hall : ([a0, a1, a2] : List Int).all inR = (inR a0 && (inR a1 && inR a2)) := by simp
  rw [hall] at hin
  by_cases hr : -1125899906842624 ≤ a0 ∧ a0 ≤ 1125899906842624 ∧ -1125899906842624 ≤ a1 ∧ a1 ≤ 1125899906842624 ∧ -1125899906842624 ≤ a2 ∧ a2 ≤ 1125899906842624
  · have ht : (inR a0 && (inR a1 && inR a2)) = true := by unfold inR; simp; omega
    rw [ht] at hin
    obtain ⟨x1, x2, x3, x4, x5, x6⟩ := hr
    by_cases hz : a2 = 0
    · have e : md a0 a1 a2 a3 = (0, 16) := by unfold md; rw [if_neg (by omega), if_pos hz]
      rw [e] at hmd; obtain ⟨rfl, rfl⟩ := Prod.mk.inj hmd
      exact mulDiv_zero a0 a1 a2 a3 w _ rfl hin hz
    · by_cases hl : a3 < 0
      · have e : md a0 a1 a2 a3 = (0, 17) := by unfold md; rw [if_neg (by omega), if_neg hz, if_pos (by omega)]
        rw [e] at hmd; obtain ⟨rfl, rfl⟩ := Prod.mk.inj hmd
        exact mulDiv_low a0 a1 a2 a3 w _ rfl hin hz hl
      · by_cases hh : 3 ≤ a3
        · have e : md a0 a1 a2 a3 = (0, 17) := by unfold md; rw [if_neg (by omega), if_neg hz, if_pos (by omega)]
          rw [e] at hmd; obtain ⟨rfl, rfl⟩ := Prod.mk.inj hmd
          exact mulDiv_high a0 a1 a2 a3 w _ rfl hin hz hl hh
        · have s0 := num_size_eq a0 x1 x2
          have s1 := num_size_eq a1 x3 x4
          have s2 := num_size_eq a2 x5 x6
          have p0 := num_product_eq (if a0 < 0 then -a0 else a0) (if a1 < 0 then -a1 else a1) (by split <;> omega) (by split <;> omega) (by split <;> omega) (by split <;> omega)
          have hC : 0 < (if a2 < 0 then -a2 else a2) := by split <;> omega
          have hC' : (if a2 < 0 then -a2 else a2) ≤ 1125899906842624 := by split <;> omega
          have hAB : 0 ≤ (if a0 < 0 then -a0 else a0) * (if a1 < 0 then -a1 else a1) := Int.mul_nonneg (by split <;> omega) (by split <;> omega)
          have d0 := num_wide_divide_eq (if a0 < 0 then -a0 else a0) (if a1 < 0 then -a1 else a1) (if a2 < 0 then -a2 else a2) (by split <;> omega) (by split <;> omega) (by split <;> omega) (by split <;> omega) hC hC'
          have key := fun (N G : Bool) (q r : Int) => md_abs a0 a1 a2 a3 q r ⟨x1, x2⟩ ⟨x3, x4⟩ ⟨x5, x6⟩ hz (by omega) (by omega)
          generalize hP : ((if a0 < 0 then -a0 else a0) * (if a1 < 0 then -a1 else a1)).toNat = P at *
          generalize hCN : (if a2 < 0 then -a2 else a2).toNat = C at *
          have eP : (if a0 < 0 then -a0 else a0) * (if a1 < 0 then -a1 else a1) = (P : Int) := by omega
          have eC : (if a2 < 0 then -a2 else a2) = (C : Int) := by omega
          rw [eC] at hC hC'
          have hdm := Nat.div_add_mod P C
          have hml := Nat.mod_lt P (show 0 < C by omega)
          have n1 : (0 : Int) ≤ ((P / C : Nat) : Int) := Int.natCast_nonneg _
          have n2 : (0 : Int) ≤ ((P % C : Nat) : Int) := Int.natCast_nonneg _
          have n3 : ((P % C : Nat) : Int) < (C : Int) := by omega
          have key2 := fun (N G : Bool) (hN : N = ((decide (a0 < 0) != decide (a1 < 0)) != decide (a2 < 0))) hG => key N G ((P / C : Nat) : Int) ((P % C : Nat) : Int) (by rw [eP, eC, ← Int.natCast_mul, ← Int.natCast_add, hdm]) (by omega) (by rw [eC]; omega) (by omega) N G hN hG
          clear key
          by_cases hf : P / C < 4611686018427387904
          · have e1 : dB P C = true := decide_eq_true hf
            have e2 : dQ P C = ((P / C : Nat) : Int) := if_pos hf
            have e3 : dR P C = ((P % C : Nat) : Int) := if_pos hf
            rw [e1, e2, e3] at d0
            have hm := key2 _ _ rfl rfl
            rw [hm] at hmd
            have hw := mulDiv_main a0 a1 a2 a3 w _ rfl hin hz hl hh _ _ _ _ _ _ _ s0 s1 p0 s2 d0 _ _ rfl rfl (by omega) (by omega) (by omega) (by omega)
            rw [hmd] at hw
            exact hw
          · have e1 : dB P C = false := decide_eq_false hf
            rw [e1] at d0
            have hm := key2 _ _ rfl rfl
            rw [hm, if_pos (by split <;> omega)] at hmd
            obtain ⟨rfl, rfl⟩ := Prod.mk.inj hmd
            exact mulDiv_wide a0 a1 a2 a3 w _ rfl hin hz hl hh _ _ _ _ _ _ _ s0 s1 p0 s2 d0
  · have ht : (inR a0 && (inR a1 && inR a2)) = false := by
      unfold inR
      rw [Bool.eq_false_iff]
      intro hh
      simp at hh
      omega
    rw [ht] at hin
    have e : md a0 a1 a2 a3 = (0, 1) := by unfold md; rw [if_pos (by omega)]
    rw [e] at hmd; obtain ⟨rfl, rfl⟩ := Prod.mk.inj hmd
    exact mulDiv_out a0 a1 a2 a3 w _ rfl hin
end Go.Proofs.Ythbfkmgcomomfaa.P
