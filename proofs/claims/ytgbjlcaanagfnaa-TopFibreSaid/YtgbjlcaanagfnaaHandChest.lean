/- chest.Check, chest.Fill and chest.Draw: a chest is checked; masses are added to it, and drawn from it. -/
import Derived.Test.YtgbjlcaanagfnaaPx3
import Derived.Test.YtgbjlcaanagfnaaPlantW
import Derived.Test.YtgbjlcaanagfnaaHandSort
import Derived.Deep.QuietTactic
import Derived.BigQuiet
import Derived.RegionTactic
import Derived.WalkKit
namespace Go.Proofs.Ytgbjlcaanagfnaa.P
open Go.RowKit Go.Proofs.YtgbjlcaanagfnaaW.PrintWords Go.Proofs.YtgbjlcaanagfnaaW.PrintLast Go.Proofs.YtgbjlcaanagfnaaW.PrintMore
open List (setIfInBounds_toArray set_cons_zero set_cons_succ)
set_option linter.unusedVariables false
set_option linter.unusedSimpArgs false

def chest_Check.j0 : Nat → Bool → Int → List Int → Option (Int)
 | 0, _, _, _ => none
 | k + 1, x11, x130000, x130001 => if x11 = true then (some 1) else ((fibre_Parts.f x130001 (x130001.length : Int)).bind fun t130 => (if t130 = 0 then ((chest_level.f k x130001).bind fun t131 => (if t131 > x130000 then (some 8) else (some 0))) else (some t130)))
def chest_Check.f (k : Nat) (a0_0 : Int) (l0_1 : List Int) : Option (Int) := if a0_0 < 1 then (chest_Check.j0 k true a0_0 l0_1) else (chest_Check.j0 k (decide (a0_0 > 1099511627776)) a0_0 l0_1)
set_option maxHeartbeats 1000000 in
set_option maxRecDepth 100000 in
theorem chest_Check.calls (k : Nat) (a0_0 : Int) (A0_1 : Option Addr) (c0_1 : Nat) (l0_1 : List Int) (r : Int) (w : World) (hr0_1 : Kd.C (Kd.int .i64) w A0_1 l0_1.length l0_1) (hc0_1 : l0_1.length ≤ c0_1) (h : chest_Check.f k a0_0 l0_1 = some r) :
  Calls Try.prog 39 #[.agg #[.int .i64 a0_0, .slice A0_1 l0_1.length c0_1]] w fun e w' => e = .returned (.int .i64 r) ∧ Below w.heap.size w w' := by
 have HR0 := Aside0.mk hr0_1
 unfold chest_Check.f at h
 have H := h
 clear hr0_1 h
 go_enter Try.func39, Try.ntmps39
 go_upto_region 1 with (first | ((with_reducible refine gate_dst (N := 1) rfl ?_); refine box_event ?hg (N := 1) ?hd (cs := #[.int .i64 a0_0, .slice A0_1 l0_1.length c0_1]) (t := 56) ?hr ?_; (case hd => rfl); (case hg => rfl); (case hr => first | (go_simp; done) | (go_simp; rfl)); intro g1 hg w1 hbox hb; have K1 := Aside0.mk hbox; have HB := Aside0.mk hb; clear hb hbox hg; have c10 : w1.cell? ⟨g1, 0, none⟩ = some (.int .i64 a0_0) := (blk_cell K1.out 0).trans rfl; have c11 : w1.cell? ⟨g1, 1, none⟩ = some (.slice A0_1 l0_1.length c0_1) := (blk_cell K1.out 1).trans rfl))
 cases k with
 | zero => split at H <;> cases H
 | succ k =>
  by_cases c1 : a0_0 < 1
  ·rw [if_pos c1] at H
   simp only [chest_Check.j0] at H
   rw [if_pos trivial] at H
   cases H
   have d0 : decide (a0_0 < 1) = true := decide_eq_true c1
   go_wp2
   go_ret
   exact ⟨rfl, HB.out⟩
  ·rw [if_neg c1] at H
   have d0 : decide (a0_0 < 1) = false := decide_eq_false c1
   simp only [chest_Check.j0] at H
   by_cases c2 : a0_0 > 1099511627776
   ·rw [if_pos (decide_eq_true c2)] at H
    cases H
    have d1 : decide (1099511627776 < a0_0) = true := decide_eq_true c2
    go_wp2
    go_ret
    exact ⟨rfl, HB.out⟩
   ·rw [if_neg (by simpa using c2)] at H
    have d1 : decide (1099511627776 < a0_0) = false := decide_eq_false c2
    obtain ⟨t, ht, H⟩ := Option.bind_eq_some_iff.mp H
    have HT := Aside0.mk ht
    clear ht
    go_upto_region 4 with (first | (go_at_call 16; (with_reducible refine (fibre_Parts.calls A0_1 c0_1 l0_1 (l0_1.length : Int) t _ (Kd.C_below HR0.out HB.out) hc0_1 HT.out).mono ?_); rintro e wq ⟨rfl, hb⟩; have n0_ := Aside0.mk (below_step HB.out hb); have n1_ := Aside0.mk (blk_below K1.out hb); clear HB K1 c10 c11 hb; have HB := n0_; have K1 := n1_; clear n0_ n1_; have c10 : wq.cell? ⟨g1, 0, none⟩ = some (.int .i64 a0_0) := (blk_cell K1.out 0).trans rfl; have c11 : wq.cell? ⟨g1, 1, none⟩ = some (.slice A0_1 l0_1.length c0_1) := (blk_cell K1.out 1).trans rfl))
    by_cases c : t = 0
    ·subst c
     rw [if_pos rfl] at H
     obtain ⟨u1, hu1, H⟩ := Option.bind_eq_some_iff.mp H
     have HU1 := Aside0.mk hu1
     clear hu1
     go_upto_region 6 with (first | fail)
     refine start_ (n := 6) (S := fun w' => w'.cell? ⟨g1, 0, none⟩ = some (.int .i64 a0_0) ∧ w'.cell? ⟨g1, 1, none⟩ = some (.slice A0_1 l0_1.length c0_1)) (ds := []) #[false,false,false,false,false,false] (by kernel_rfl) rfl rfl ⟨(show wq.drew.cell? _ = _ from c10), (show wq.drew.cell? _ = _ from c11)⟩ (fun hHeld => ?_)
     have n0_ := Aside0.mk (below_drew HB.out)
     have n1_ := Aside0.mk (blk_drew K1.out)
     clear HB K1 c10 c11
     have HB := n0_
     have K1 := n1_
     clear n0_ n1_
     generalize wq.drew = w5 at HB K1 hHeld ⊢
     refine pure_ (i := 0) (N := some 21) (v := ?_) (a' := ?_) #[true,false,false,false,false,false] rfl rfl (by kernel_rfl) (fun _ _ _ h => h) (Or.inl ⟨by rfl, ?_⟩) ?_ ?_
     rotate_left
     ·intro w'; go_simp; with_reducible rfl
     rotate_left
     ·simp only [Act.put, setIfInBounds_toArray, set_cons_zero, set_cons_succ, i64_w, i32_w]; rfl
     refine pure_ (i := 3) (N := some 24) (v := ?_) (a' := ?_) #[true,false,false,true,false,false] rfl rfl (by kernel_rfl) (fun _ _ _ h => h) (Or.inl ⟨by rfl, ?_⟩) ?_ ?_
     rotate_left
     ·intro w'; go_simp; with_reducible rfl
     rotate_left
     ·simp only [Act.put, setIfInBounds_toArray, set_cons_zero, set_cons_succ, i64_w, i32_w]; rfl
     refine take_ (i := 1) (N := some 22) (v := ?_) (a' := ?_) #[true,true,false,true,false,false] rfl rfl (by kernel_rfl) (fun _ _ _ h => h) (Or.inl ⟨by rfl, ?_⟩) hHeld ?_ ?_
     rotate_left
     ·rintro w' ⟨s0, s1⟩; go_simp; with_reducible rfl
     rotate_left
     ·simp only [Act.put, setIfInBounds_toArray, set_cons_zero, set_cons_succ, i64_w, i32_w]; rfl
     refine take_ (i := 4) (N := some 25) (v := ?_) (a' := ?_) #[true,true,false,true,true,false] rfl rfl (by kernel_rfl) (fun _ _ _ h => h) (Or.inl ⟨by rfl, ?_⟩) hHeld ?_ ?_
     rotate_left
     ·rintro w' ⟨s0, s1⟩; go_simp; with_reducible rfl
     rotate_left
     ·simp only [Act.put, setIfInBounds_toArray, set_cons_zero, set_cons_succ, i64_w, i32_w]; rfl
     refine one_ (i := 2) (N := some 23) #[true,true,true,true,true,false] rfl rfl (by kernel_rfl) (by decide) (fun K hK => ?_)
     refine goes_ Try.func40 (by kernel_rfl) rfl #[.slice A0_1 l0_1.length c0_1] (by rfl) rfl rfl (by simp only [List.map_toArray, List.map_cons, List.map_nil]; rfl) ?_
     with_reducible refine (chest_level.calls _ A0_1 c0_1 l0_1 u1 _ (Kd.C_below HR0.out HB.out) hc0_1 HU1.out).mono ?_
     rintro e w3 ⟨rfl, hd⟩
     refine ⟨_, rfl, ?_⟩
     have hb := hd.below
     have n0_ := Aside0.mk (below_step HB.out hb)
     have n1_ := Aside0.mk (blk_below K1.out hb)
     clear HB K1 hb hd hHeld
     have HB := n0_
     have K1 := n1_
     clear n0_ n1_
     refine hK.out _ _ ⟨((blk_cell K1.out 0).trans rfl), ((blk_cell K1.out 1).trans rfl)⟩ (fun hHeld => ?_)
     clear hK K
     refine norm_ (a' := ?_) ?_ ?_
     rotate_left
     ·show Act.put _ (some 23) _ = _
      simp only [Act.put, setIfInBounds_toArray, set_cons_zero, set_cons_succ, i64_w, i32_w]
      rfl
     refine pure_ (i := 5) (N := some 26) (v := ?_) (a' := ?_) #[true,true,true,true,true,true] rfl rfl (by kernel_rfl) (fun _ _ _ h => h) (Or.inl ⟨by rfl, ?_⟩) ?_ ?_
     rotate_left
     ·intro w'; go_simp; with_reducible rfl
     rotate_left
     ·simp only [Act.put, setIfInBounds_toArray, set_cons_zero, set_cons_succ, i64_w, i32_w]; rfl
     refine done_ (by kernel_rfl) ?_
     by_cases c3 : u1 > a0_0
     ·rw [if_pos c3] at H
      cases H
      have d2 : decide (a0_0 < u1) = true := decide_eq_true c3
      go_wp2
      go_ret
      exact ⟨rfl, HB.out⟩
     ·rw [if_neg c3] at H
      cases H
      have d2 : decide (a0_0 < u1) = false := decide_eq_false c3
      go_wp2
      go_ret
      exact ⟨rfl, HB.out⟩
    ·rw [if_neg c] at H
     have e0 : (t == 0) = false := beq_eq_false_iff_ne.mpr c
     have e1 : (t != 0) = true := bne_iff_ne.mpr c
     cases H
     go_wp2
     go_ret
     exact ⟨rfl, HB.out⟩
def chest_Fill.f (k : Nat) (a0_0 : Int) (l0_1 : List Int) (l1 : List Int) : Option (Int × List Int × Int) := (chest_Check.f k a0_0 l0_1).bind fun t184 => (if t184 = 0 then ((fibre_Parts.f l1 (l0_1.length : Int)).bind fun t185 => (if t185 = 0 then ((chest_level.f k l0_1).bind fun t186 => ((chest_level.f k l1).bind fun t187 => (if (wrap64 (t186 + t187)) > a0_0 then (some (0, ([] : List Int), 8)) else ((chest_changed.f a0_0 l0_1 l1 1).bind fun bt188 => (some (bt188.1, bt188.2, 0)))))) else (some (0, ([] : List Int), t185)))) else (some (0, ([] : List Int), t184)))
set_option maxHeartbeats 1000000 in
set_option maxRecDepth 100000 in
theorem chest_Fill.calls (k : Nat) (a0_0 : Int) (A0_1 : Option Addr) (c0_1 : Nat) (l0_1 : List Int) (A1 : Option Addr) (c1 : Nat) (l1 : List Int) (r1 : Int) (r2 : List Int) (r3 : Int) (w : World) (hr0_1 : Kd.C (Kd.int .i64) w A0_1 l0_1.length l0_1) (hc0_1 : l0_1.length ≤ c0_1) (hr1 : Kd.C (Kd.int .i64) w A1 l1.length l1) (hc1 : l1.length ≤ c1) (h : chest_Fill.f k a0_0 l0_1 l1 = some (r1, r2, r3)) :
  Calls Try.prog 22 #[.agg #[.int .i64 a0_0, .slice A0_1 l0_1.length c0_1], .slice A1 l1.length c1] w fun e w' => ∃ v1_ : Value, e = .returned (.tuple #[.agg #[.int .i64 r1, v1_], .int .i64 r3]) ∧ Kd.R (Kd.int .i64) 3 w' w.heap.size (fun _ => True) v1_ r2 ∧ Below w.heap.size w w' := by
 have HR0 := Aside0.mk hr0_1
 have HR1 := Aside0.mk hr1
 obtain ⟨t, ht, H⟩ := Option.bind_eq_some_iff.mp h
 have HT := Aside0.mk ht
 clear hr0_1 hr1 h ht
 go_enter Try.func22, Try.ntmps22
 go_upto_region 2 with (first | ((with_reducible refine gate_dst (N := 2) rfl ?_); refine box_event ?hg (N := 2) ?hd (cs := #[.int .i64 a0_0, .slice A0_1 l0_1.length c0_1]) (t := 56) ?hr ?_; (case hd => rfl); (case hg => rfl); (case hr => first | (go_simp; done) | (go_simp; rfl)); intro g2 hg w1 hbox hb; have K2 := Aside0.mk hbox; have HB := Aside0.mk hb; clear hb hbox hg) | ((with_reducible refine gate_dst (N := 4) rfl ?_); refine box_event ?hg (N := 4) ?hd (cs := #[.int .i64 0, .slice none 0 0]) (t := 56) ?hr ?_; (case hd => rfl); (case hg => rfl); (case hr => first | (go_simp; done) | (go_simp; rfl)); intro g4 hg w2 hbox hb; have K4 := Aside0.mk hbox; have G4 := Aside0.mk (show w.heap.size ≤ g4 by rw [hg]; exact below_size HB.out); have n0_ := Aside0.mk (below_step HB.out hb); have n1_ := Aside0.mk (blk_below K2.out hb); clear HB K2 hb hbox hg; have HB := n0_; have K2 := n1_; clear n0_ n1_; have c20 : w2.cell? ⟨g2, 0, none⟩ = some (.int .i64 a0_0) := (blk_cell K2.out 0).trans rfl; have c21 : w2.cell? ⟨g2, 1, none⟩ = some (.slice A0_1 l0_1.length c0_1) := (blk_cell K2.out 1).trans rfl) | (go_at_call 39; (with_reducible refine (chest_Check.calls k a0_0 A0_1 c0_1 l0_1 t _ (Kd.C_below HR0.out HB.out) hc0_1 HT.out).mono ?_); rintro e wq ⟨rfl, hb⟩; have n0_ := Aside0.mk (below_step HB.out hb); have n1_ := Aside0.mk (blk_below K2.out hb); have n2_ := Aside0.mk (blk_below K4.out hb); clear HB K2 K4 c20 c21 hb; have HB := n0_; have K2 := n1_; have K4 := n2_; clear n0_ n1_ n2_; have c20 : wq.cell? ⟨g2, 0, none⟩ = some (.int .i64 a0_0) := (blk_cell K2.out 0).trans rfl; have c21 : wq.cell? ⟨g2, 1, none⟩ = some (.slice A0_1 l0_1.length c0_1) := (blk_cell K2.out 1).trans rfl))
 by_cases c : t = 0
 ·subst c
  rw [if_pos rfl] at H
  obtain ⟨t, ht, H⟩ := Option.bind_eq_some_iff.mp H
  have HT := Aside0.mk ht
  clear ht
  go_upto_region 5 with (first | (go_at_call 16; (with_reducible refine (fibre_Parts.calls A1 c1 l1 (l0_1.length : Int) t _ (Kd.C_below HR1.out HB.out) hc1 HT.out).mono ?_); rintro e wq ⟨rfl, hb⟩; have n0_ := Aside0.mk (below_step HB.out hb); have n1_ := Aside0.mk (blk_below K2.out hb); have n2_ := Aside0.mk (blk_below K4.out hb); clear HB K2 K4 c20 c21 hb; have HB := n0_; have K2 := n1_; have K4 := n2_; clear n0_ n1_ n2_; have c20 : wq.cell? ⟨g2, 0, none⟩ = some (.int .i64 a0_0) := (blk_cell K2.out 0).trans rfl; have c21 : wq.cell? ⟨g2, 1, none⟩ = some (.slice A0_1 l0_1.length c0_1) := (blk_cell K2.out 1).trans rfl))
  by_cases c : t = 0
  ·subst c
   rw [if_pos rfl] at H
   obtain ⟨u1, hu1, H⟩ := Option.bind_eq_some_iff.mp H
   obtain ⟨u2, hu2, H⟩ := Option.bind_eq_some_iff.mp H
   have HU1 := Aside0.mk hu1
   have HU2 := Aside0.mk hu2
   clear hu1 hu2
   go_upto_region 7 with (first | fail)
   refine start_ (n := 9) (S := fun w' => w'.cell? ⟨g2, 0, none⟩ = some (.int .i64 a0_0) ∧ w'.cell? ⟨g2, 1, none⟩ = some (.slice A0_1 l0_1.length c0_1)) (ds := []) #[false,false,false,false,false,false,false,false,false] (by kernel_rfl) rfl rfl ⟨(show wq.drew.cell? _ = _ from c20), (show wq.drew.cell? _ = _ from c21)⟩ (fun hHeld => ?_)
   have n0_ := Aside0.mk (below_drew HB.out)
   have n1_ := Aside0.mk (blk_drew K2.out)
   have n2_ := Aside0.mk (blk_drew K4.out)
   clear HB K2 K4 c20 c21
   have HB := n0_
   have K2 := n1_
   have K4 := n2_
   clear n0_ n1_ n2_
   generalize wq.drew = w5 at HB K2 K4 hHeld ⊢
   refine pure_ (i := 0) (N := some 23) (v := ?_) (a' := ?_) #[true,false,false,false,false,false,false,false,false] rfl rfl (by kernel_rfl) (fun _ _ _ h => h) (Or.inl ⟨by rfl, ?_⟩) ?_ ?_
   rotate_left
   ·intro w'; go_simp; with_reducible rfl
   rotate_left
   ·simp only [Act.put, setIfInBounds_toArray, set_cons_zero, set_cons_succ, i64_w, i32_w]; rfl
   refine pure_ (i := 3) (N := some 26) (v := ?_) (a' := ?_) #[true,false,false,true,false,false,false,false,false] rfl rfl (by kernel_rfl) (fun _ _ _ h => h) (Or.inl ⟨by rfl, ?_⟩) ?_ ?_
   rotate_left
   ·intro w'; go_simp; with_reducible rfl
   rotate_left
   ·simp only [Act.put, setIfInBounds_toArray, set_cons_zero, set_cons_succ, i64_w, i32_w]; rfl
   refine pure_ (i := 6) (N := some 29) (v := ?_) (a' := ?_) #[true,false,false,true,false,false,true,false,false] rfl rfl (by kernel_rfl) (fun _ _ _ h => h) (Or.inl ⟨by rfl, ?_⟩) ?_ ?_
   rotate_left
   ·intro w'; go_simp; with_reducible rfl
   rotate_left
   ·simp only [Act.put, setIfInBounds_toArray, set_cons_zero, set_cons_succ, i64_w, i32_w]; rfl
   refine take_ (i := 1) (N := some 24) (v := ?_) (a' := ?_) #[true,true,false,true,false,false,true,false,false] rfl rfl (by kernel_rfl) (fun _ _ _ h => h) (Or.inl ⟨by rfl, ?_⟩) hHeld ?_ ?_
   rotate_left
   ·rintro w' ⟨s0, s1⟩; go_simp; with_reducible rfl
   rotate_left
   ·simp only [Act.put, setIfInBounds_toArray, set_cons_zero, set_cons_succ, i64_w, i32_w]; rfl
   refine take_ (i := 7) (N := some 30) (v := ?_) (a' := ?_) #[true,true,false,true,false,false,true,true,false] rfl rfl (by kernel_rfl) (fun _ _ _ h => h) (Or.inl ⟨by rfl, ?_⟩) hHeld ?_ ?_
   rotate_left
   ·rintro w' ⟨s0, s1⟩; go_simp; with_reducible rfl
   rotate_left
   ·simp only [Act.put, setIfInBounds_toArray, set_cons_zero, set_cons_succ, i64_w, i32_w]; rfl
   refine one_ (i := 2) (N := some 25) #[true,true,true,true,false,false,true,true,false] rfl rfl (by kernel_rfl) (by decide) (fun K hK => ?_)
   refine goes_ Try.func40 (by kernel_rfl) rfl #[.slice A0_1 l0_1.length c0_1] (by rfl) rfl rfl (by simp only [List.map_toArray, List.map_cons, List.map_nil]; rfl) ?_
   with_reducible refine (chest_level.calls _ A0_1 c0_1 l0_1 u1 _ (Kd.C_below HR0.out HB.out) hc0_1 HU1.out).mono ?_
   rintro e w3 ⟨rfl, hd⟩
   refine ⟨_, rfl, ?_⟩
   have hb := hd.below
   have n0_ := Aside0.mk (below_step HB.out hb)
   have n1_ := Aside0.mk (blk_below K2.out hb)
   have n2_ := Aside0.mk (blk_below K4.out hb)
   clear HB K2 K4 hb hd hHeld
   have HB := n0_
   have K2 := n1_
   have K4 := n2_
   clear n0_ n1_ n2_
   refine hK.out _ _ ⟨((blk_cell K2.out 0).trans rfl), ((blk_cell K2.out 1).trans rfl)⟩ (fun hHeld => ?_)
   clear hK K
   refine norm_ (a' := ?_) ?_ ?_
   rotate_left
   ·show Act.put _ (some 25) _ = _
    simp only [Act.put, setIfInBounds_toArray, set_cons_zero, set_cons_succ, i64_w, i32_w]
    rfl
   refine one_ (i := 4) (N := some 27) #[true,true,true,true,true,false,true,true,false] rfl rfl (by kernel_rfl) (by decide) (fun K hK => ?_)
   refine goes_ Try.func40 (by kernel_rfl) rfl #[.slice A1 l1.length c1] (by rfl) rfl rfl (by simp only [List.map_toArray, List.map_cons, List.map_nil]; rfl) ?_
   with_reducible refine (chest_level.calls _ A1 c1 l1 u2 _ (Kd.C_below HR1.out HB.out) hc1 HU2.out).mono ?_
   rintro e w3 ⟨rfl, hd⟩
   refine ⟨_, rfl, ?_⟩
   have hb := hd.below
   have n0_ := Aside0.mk (below_step HB.out hb)
   have n1_ := Aside0.mk (blk_below K2.out hb)
   have n2_ := Aside0.mk (blk_below K4.out hb)
   clear HB K2 K4 hb hd hHeld
   have HB := n0_
   have K2 := n1_
   have K4 := n2_
   clear n0_ n1_ n2_
   refine hK.out _ _ ⟨((blk_cell K2.out 0).trans rfl), ((blk_cell K2.out 1).trans rfl)⟩ (fun hHeld => ?_)
   clear hK K
   refine norm_ (a' := ?_) ?_ ?_
   rotate_left
   ·show Act.put _ (some 27) _ = _
    simp only [Act.put, setIfInBounds_toArray, set_cons_zero, set_cons_succ, i64_w, i32_w]
    rfl
   refine pure_ (i := 5) (N := some 28) (v := ?_) (a' := ?_) #[true,true,true,true,true,true,true,true,false] rfl rfl (by kernel_rfl) (fun _ _ _ h => h) (Or.inl ⟨by rfl, ?_⟩) ?_ ?_
   rotate_left
   ·intro w'; go_simp; with_reducible rfl
   rotate_left
   ·simp only [Act.put, setIfInBounds_toArray, set_cons_zero, set_cons_succ, i64_w, i32_w]; rfl
   refine pure_ (i := 8) (N := some 31) (v := ?_) (a' := ?_) #[true,true,true,true,true,true,true,true,true] rfl rfl (by kernel_rfl) (fun _ _ _ h => h) (Or.inl ⟨by rfl, ?_⟩) ?_ ?_
   rotate_left
   ·intro w'; go_simp; with_reducible rfl
   rotate_left
   ·simp only [Act.put, setIfInBounds_toArray, set_cons_zero, set_cons_succ, i64_w, i32_w]; rfl
   refine done_ (by kernel_rfl) ?_
   by_cases c : wrap64 (u1 + u2) > a0_0
   ·rw [if_pos c] at H
    cases H
    have d0 : decide (a0_0 < wrap64 (u1 + u2)) = true := decide_eq_true c
    have d1 : decide (a0_0 < IntKind.i64.wrap (u1 + u2)) = true := by rw [i64_w]; exact d0
    have c40 : w3.cell? ⟨g4, 0, none⟩ = some (.int .i64 0) := (blk_cell K4.out 0).trans rfl
    have c41 : w3.cell? ⟨g4, 1, none⟩ = some (.slice none 0 0) := (blk_cell K4.out 1).trans rfl
    have f40 := blk_frozen K4.out 0
    have f41 := blk_frozen K4.out 1
    go_wp2
    refine bodyPost_ret (results_ct rfl _ _ g4 56 #[.int .i64 0, .slice none 0 0] (0, 0) _ rfl (by refine blk_put (cs := #[.int .i64 0, .slice none 0 0]) ?_ 1 _ rfl; refine blk_put (cs := #[.int .i64 0, .slice none 0 0]) ?_ 0 _ rfl; exact K4.out) Try.underlying56 rfl (by kernel_rfl)) rfl ?_
    exact ⟨_, rfl, Kd.R_nil _ _ _ _ _, below_set (below_set HB.out G4.out) G4.out⟩
   ·rw [if_neg c] at H
    obtain ⟨⟨t1, t2⟩, hch, H⟩ := Option.bind_eq_some_iff.mp H
    cases H
    have HCH := Aside0.mk hch
    have d0 : decide (a0_0 < wrap64 (u1 + u2)) = false := decide_eq_false c
    have d1 : decide (a0_0 < IntKind.i64.wrap (u1 + u2)) = false := by rw [i64_w]; exact d0
    clear hch
    have c20 : w3.cell? ⟨g2, 0, none⟩ = some (.int .i64 a0_0) := (blk_cell K2.out 0).trans rfl
    have c21 : w3.cell? ⟨g2, 1, none⟩ = some (.slice A0_1 l0_1.length c0_1) := (blk_cell K2.out 1).trans rfl
    go_wp2_with (first | (go_at_call 41; (with_reducible refine (chest_changed.calls a0_0 A0_1 c0_1 l0_1 A1 c1 l1 1 t1 t2 _ (Kd.C_below HR0.out HB.out) hc0_1 (Kd.C_below HR1.out HB.out) hc1 HCH.out).mono ?_); rintro e wq ⟨v, rfl, ho, hb⟩; obtain ⟨Ao, co, eo⟩ := Kd.R_slice ho; subst eo; have HO := Aside0.mk (Kd.R_lower ho (below_size HB.out)); clear ho; have n0_ := Aside0.mk (below_step HB.out hb); have n1_ := Aside0.mk (blk_below K2.out hb); have n2_ := Aside0.mk (blk_below K4.out hb); clear HB K2 K4 c20 c21 hb; have HB := n0_; have K2 := n1_; have K4 := n2_; clear n0_ n1_ n2_; have c20 : wq.cell? ⟨g2, 0, none⟩ = some (.int .i64 a0_0) := (blk_cell K2.out 0).trans rfl; have c21 : wq.cell? ⟨g2, 1, none⟩ = some (.slice A0_1 l0_1.length c0_1) := (blk_cell K2.out 1).trans rfl; have c40 : wq.cell? ⟨g4, 0, none⟩ = some (.int .i64 0) := (blk_cell K4.out 0).trans rfl; have c41 : wq.cell? ⟨g4, 1, none⟩ = some (.slice none 0 0) := (blk_cell K4.out 1).trans rfl; have f40 := blk_frozen K4.out 0; have f41 := blk_frozen K4.out 1))
    refine bodyPost_ret (results_ct rfl _ _ g4 56 #[.int .i64 t1, .slice Ao t2.length co] (0, 0) _ rfl (by refine blk_put (cs := #[.int .i64 t1, .slice none 0 0]) ?_ 1 _ rfl; refine blk_put (cs := #[.int .i64 0, .slice none 0 0]) ?_ 0 _ rfl; exact K4.out) Try.underlying56 rfl (by kernel_rfl)) rfl ?_
    exact ⟨_, rfl, Kd.R_mono (Kd.R_far (p := ⟨g4, 1, none⟩) (Kd.R_far (p := ⟨g4, 0, none⟩) (Kd.R_types HO.out K4.out (by decide)) (fun _ hk => hk.2) (.int .i64 t1)) (fun _ hk => hk.2) (.slice Ao t2.length co)) (fun _ hk => trivial), below_set (below_set HB.out G4.out) G4.out⟩
  ·rw [if_neg c] at H
   have d0 : (t == 0) = false := beq_eq_false_iff_ne.mpr c
   have d1 : (t != 0) = true := bne_iff_ne.mpr c
   cases H
   have c40 : wq.cell? ⟨g4, 0, none⟩ = some (.int .i64 0) := (blk_cell K4.out 0).trans rfl
   have c41 : wq.cell? ⟨g4, 1, none⟩ = some (.slice none 0 0) := (blk_cell K4.out 1).trans rfl
   have f40 := blk_frozen K4.out 0
   have f41 := blk_frozen K4.out 1
   go_wp2
   refine bodyPost_ret (results_ct rfl _ _ g4 56 #[.int .i64 0, .slice none 0 0] (0, 0) _ rfl (by refine blk_put (cs := #[.int .i64 0, .slice none 0 0]) ?_ 1 _ rfl; refine blk_put (cs := #[.int .i64 0, .slice none 0 0]) ?_ 0 _ rfl; exact K4.out) Try.underlying56 rfl (by kernel_rfl)) rfl ?_
   exact ⟨_, rfl, Kd.R_nil _ _ _ _ _, below_set (below_set HB.out G4.out) G4.out⟩
 ·rw [if_neg c] at H
  have d0 : (t == 0) = false := beq_eq_false_iff_ne.mpr c
  have d1 : (t != 0) = true := bne_iff_ne.mpr c
  cases H
  have c40 : wq.cell? ⟨g4, 0, none⟩ = some (.int .i64 0) := (blk_cell K4.out 0).trans rfl
  have c41 : wq.cell? ⟨g4, 1, none⟩ = some (.slice none 0 0) := (blk_cell K4.out 1).trans rfl
  have f40 := blk_frozen K4.out 0
  have f41 := blk_frozen K4.out 1
  go_wp2
  refine bodyPost_ret (results_ct rfl _ _ g4 56 #[.int .i64 0, .slice none 0 0] (0, 0) _ rfl (by refine blk_put (cs := #[.int .i64 0, .slice none 0 0]) ?_ 1 _ rfl; refine blk_put (cs := #[.int .i64 0, .slice none 0 0]) ?_ 0 _ rfl; exact K4.out) Try.underlying56 rfl (by kernel_rfl)) rfl ?_
  exact ⟨_, rfl, Kd.R_nil _ _ _ _ _, below_set (below_set HB.out G4.out) G4.out⟩

def chest_Draw.j0 : Nat → Int → Bool → Int → List Int → Option (Int × List Int × List Int × Int)
 | 0, _, _, _, _ => none
 | k + 1, x1, x16, x133000, x133001 => if x16 = true then (some (0, ([] : List Int), ([] : List Int), 1)) else ((chest_level.f k x133001).bind fun t135 => (if x1 > t135 then (some (0, ([] : List Int), ([] : List Int), 19)) else ((share_Split.f x1 x133001).bind fun bt136 => (if bt136.2 = 0 then ((chest_changed.f x133000 x133001 bt136.1 (-1)).bind fun bt140 => (some (bt140.1, bt140.2, bt136.1, 0))) else (some (0, ([] : List Int), ([] : List Int), bt136.2))))))
def chest_Draw.f (k : Nat) (a0_0 : Int) (l0_1 : List Int) (a1 : Int) : Option (Int × List Int × List Int × Int) := (chest_Check.f k a0_0 l0_1).bind fun t134 => (if t134 = 0 then (if a1 < 0 then (chest_Draw.j0 k a1 true a0_0 l0_1) else (chest_Draw.j0 k a1 (decide (a1 > 1099511627776)) a0_0 l0_1)) else (some (0, ([] : List Int), ([] : List Int), t134)))
set_option maxHeartbeats 1000000 in
set_option maxRecDepth 100000 in
theorem chest_Draw.calls (k : Nat) (a0_0 : Int) (A0_1 : Option Addr) (c0_1 : Nat) (l0_1 : List Int) (a1 : Int) (r1 : Int) (r2 : List Int) (r3 : List Int) (r4 : Int) (w : World) (hr0_1 : Kd.C (Kd.int .i64) w A0_1 l0_1.length l0_1) (hc0_1 : l0_1.length ≤ c0_1) (h : chest_Draw.f k a0_0 l0_1 a1 = some (r1, r2, r3, r4)) :
  Calls Try.prog 43 #[.agg #[.int .i64 a0_0, .slice A0_1 l0_1.length c0_1], .int .i64 a1] w fun e w' => ∃ v1_ v2_ : Value, e = .returned (.tuple #[.agg #[.int .i64 r1, v1_], v2_, .int .i64 r4]) ∧ Kd.R (Kd.int .i64) 3 w' w.heap.size (fun k_ => some k_ ≠ (v2_ : Value).ownBlock) v1_ r2 ∧ Kd.R (Kd.int .i64) 3 w' w.heap.size (fun k_ => some k_ ≠ (v1_ : Value).ownBlock) v2_ r3 ∧ Below w.heap.size w w' := by
 have HR0 := Aside0.mk hr0_1
 obtain ⟨t, ht, H⟩ := Option.bind_eq_some_iff.mp h
 have HT := Aside0.mk ht
 clear hr0_1 h ht
 go_enter Try.func43, Try.ntmps43
 go_upto_region 2 with (first | ((with_reducible refine gate_dst (N := 2) rfl ?_); refine box_event ?hg (N := 2) ?hd (cs := #[.int .i64 a0_0, .slice A0_1 l0_1.length c0_1]) (t := 56) ?hr ?_; (case hd => rfl); (case hg => rfl); (case hr => first | (go_simp; done) | (go_simp; rfl)); intro g2 hg w1 hbox hb; have K2 := Aside0.mk hbox; have HB := Aside0.mk hb; clear hb hbox hg) | ((with_reducible refine gate_dst (N := 4) rfl ?_); refine box_event ?hg (N := 4) ?hd (cs := #[.int .i64 0, .slice none 0 0]) (t := 56) ?hr ?_; (case hd => rfl); (case hg => rfl); (case hr => first | (go_simp; done) | (go_simp; rfl)); intro g4 hg w2 hbox hb; have K4 := Aside0.mk hbox; have G4 := Aside0.mk (show w.heap.size ≤ g4 by rw [hg]; exact below_size HB.out); have n0_ := Aside0.mk (below_step HB.out hb); have n1_ := Aside0.mk (blk_below K2.out hb); clear HB K2 hb hbox hg; have HB := n0_; have K2 := n1_; clear n0_ n1_; have c20 : w2.cell? ⟨g2, 0, none⟩ = some (.int .i64 a0_0) := (blk_cell K2.out 0).trans rfl; have c21 : w2.cell? ⟨g2, 1, none⟩ = some (.slice A0_1 l0_1.length c0_1) := (blk_cell K2.out 1).trans rfl) | (go_at_call 39; (with_reducible refine (chest_Check.calls k a0_0 A0_1 c0_1 l0_1 t _ (Kd.C_below HR0.out HB.out) hc0_1 HT.out).mono ?_); rintro e wq ⟨rfl, hb⟩; have n0_ := Aside0.mk (below_step HB.out hb); have n1_ := Aside0.mk (blk_below K2.out hb); have n2_ := Aside0.mk (blk_below K4.out hb); clear HB K2 K4 c20 c21 hb; have HB := n0_; have K2 := n1_; have K4 := n2_; clear n0_ n1_ n2_; have c20 : wq.cell? ⟨g2, 0, none⟩ = some (.int .i64 a0_0) := (blk_cell K2.out 0).trans rfl; have c21 : wq.cell? ⟨g2, 1, none⟩ = some (.slice A0_1 l0_1.length c0_1) := (blk_cell K2.out 1).trans rfl))
 by_cases c : t = 0
 ·subst c
  rw [if_pos rfl] at H
  cases k with
  | zero => split at H <;> cases H
  | succ k =>
   clear HT
   by_cases c1 : a1 < 0
   ·rw [if_pos c1] at H
    simp only [chest_Draw.j0] at H
    rw [if_pos trivial] at H
    cases H
    have d0 : decide (a1 < 0) = true := decide_eq_true c1
    have c40 : wq.cell? ⟨g4, 0, none⟩ = some (.int .i64 0) := (blk_cell K4.out 0).trans rfl
    have c41 : wq.cell? ⟨g4, 1, none⟩ = some (.slice none 0 0) := (blk_cell K4.out 1).trans rfl
    have f40 := blk_frozen K4.out 0
    have f41 := blk_frozen K4.out 1
    go_wp2
    refine bodyPost_ret (results_ctt rfl _ _ g4 56 #[.int .i64 0, .slice none 0 0] (0, 0) _ rfl (by refine blk_put (cs := #[.int .i64 0, .slice none 0 0]) ?_ 1 _ rfl; refine blk_put (cs := #[.int .i64 0, .slice none 0 0]) ?_ 0 _ rfl; exact K4.out) Try.underlying56 rfl (by kernel_rfl)) rfl ?_
    exact ⟨_, _, rfl, Kd.R_nil _ _ _ _ _, Kd.R_nil _ _ _ _ _, below_set (below_set HB.out G4.out) G4.out⟩
   ·rw [if_neg c1] at H
    have d0 : decide (a1 < 0) = false := decide_eq_false c1
    simp only [chest_Draw.j0] at H
    by_cases c2 : a1 > 1099511627776
    ·rw [if_pos (decide_eq_true c2)] at H
     cases H
     have d1 : decide (1099511627776 < a1) = true := decide_eq_true c2
     have c40 : wq.cell? ⟨g4, 0, none⟩ = some (.int .i64 0) := (blk_cell K4.out 0).trans rfl
     have c41 : wq.cell? ⟨g4, 1, none⟩ = some (.slice none 0 0) := (blk_cell K4.out 1).trans rfl
     have f40 := blk_frozen K4.out 0
     have f41 := blk_frozen K4.out 1
     go_wp2
     refine bodyPost_ret (results_ctt rfl _ _ g4 56 #[.int .i64 0, .slice none 0 0] (0, 0) _ rfl (by refine blk_put (cs := #[.int .i64 0, .slice none 0 0]) ?_ 1 _ rfl; refine blk_put (cs := #[.int .i64 0, .slice none 0 0]) ?_ 0 _ rfl; exact K4.out) Try.underlying56 rfl (by kernel_rfl)) rfl ?_
     exact ⟨_, _, rfl, Kd.R_nil _ _ _ _ _, Kd.R_nil _ _ _ _ _, below_set (below_set HB.out G4.out) G4.out⟩
    ·rw [if_neg (by simpa using c2)] at H
     have d1 : decide (1099511627776 < a1) = false := decide_eq_false c2
     obtain ⟨u1, hu1, H⟩ := Option.bind_eq_some_iff.mp H
     have HU1 := Aside0.mk hu1
     clear hu1
     by_cases c3 : a1 > u1
     ·rw [if_pos c3] at H
      cases H
      have d2 : decide (u1 < a1) = true := decide_eq_true c3
      go_upto_region 7 with (first | (go_at_call 40; (with_reducible refine (chest_level.calls k A0_1 c0_1 l0_1 u1 _ (Kd.C_below HR0.out HB.out) hc0_1 HU1.out).mono ?_); rintro e wq ⟨rfl, hd⟩; have hb := hd.below; clear hd; have n0_ := Aside0.mk (below_step HB.out hb); have n1_ := Aside0.mk (blk_below K2.out hb); have n2_ := Aside0.mk (blk_below K4.out hb); clear HB K2 K4 c20 c21 hb; have HB := n0_; have K2 := n1_; have K4 := n2_; clear n0_ n1_ n2_; have c20 : wq.cell? ⟨g2, 0, none⟩ = some (.int .i64 a0_0) := (blk_cell K2.out 0).trans rfl; have c21 : wq.cell? ⟨g2, 1, none⟩ = some (.slice A0_1 l0_1.length c0_1) := (blk_cell K2.out 1).trans rfl))
      have c40 : wq.cell? ⟨g4, 0, none⟩ = some (.int .i64 0) := (blk_cell K4.out 0).trans rfl
      have c41 : wq.cell? ⟨g4, 1, none⟩ = some (.slice none 0 0) := (blk_cell K4.out 1).trans rfl
      have f40 := blk_frozen K4.out 0
      have f41 := blk_frozen K4.out 1
      go_wp2
      refine bodyPost_ret (results_ctt rfl _ _ g4 56 #[.int .i64 0, .slice none 0 0] (0, 0) _ rfl (by refine blk_put (cs := #[.int .i64 0, .slice none 0 0]) ?_ 1 _ rfl; refine blk_put (cs := #[.int .i64 0, .slice none 0 0]) ?_ 0 _ rfl; exact K4.out) Try.underlying56 rfl (by kernel_rfl)) rfl ?_
      exact ⟨_, _, rfl, Kd.R_nil _ _ _ _ _, Kd.R_nil _ _ _ _ _, below_set (below_set HB.out G4.out) G4.out⟩
     ·rw [if_neg c3] at H
      have d2 : decide (u1 < a1) = false := decide_eq_false c3
      obtain ⟨⟨m, q⟩, hsp, H⟩ := Option.bind_eq_some_iff.mp H
      have HSP := Aside0.mk hsp
      clear hsp
      go_upto_region 9 with (first | (go_at_call 40; (with_reducible refine (chest_level.calls k A0_1 c0_1 l0_1 u1 _ (Kd.C_below HR0.out HB.out) hc0_1 HU1.out).mono ?_); rintro e wq ⟨rfl, hd⟩; have hb := hd.below; clear hd; have n0_ := Aside0.mk (below_step HB.out hb); have n1_ := Aside0.mk (blk_below K2.out hb); have n2_ := Aside0.mk (blk_below K4.out hb); clear HB K2 K4 c20 c21 hb; have HB := n0_; have K2 := n1_; have K4 := n2_; clear n0_ n1_ n2_; have c20 : wq.cell? ⟨g2, 0, none⟩ = some (.int .i64 a0_0) := (blk_cell K2.out 0).trans rfl; have c21 : wq.cell? ⟨g2, 1, none⟩ = some (.slice A0_1 l0_1.length c0_1) := (blk_cell K2.out 1).trans rfl) | (go_at_call 21; (with_reducible refine (share_Split.calls a1 A0_1 c0_1 l0_1 m q _ (Kd.C_below HR0.out HB.out) hc0_1 HSP.out).mono ?_); rintro e wq ⟨v, rfl, ho, hb⟩; obtain ⟨Am, cm, em⟩ := Kd.R_slice ho; subst em; have HM := Aside0.mk (Kd.R_lower ho (below_size HB.out)); clear ho; have n0_ := Aside0.mk (below_step HB.out hb); have n1_ := Aside0.mk (blk_below K2.out hb); have n2_ := Aside0.mk (blk_below K4.out hb); clear HB K2 K4 c20 c21 hb; have HB := n0_; have K2 := n1_; have K4 := n2_; clear n0_ n1_ n2_; have c20 : wq.cell? ⟨g2, 0, none⟩ = some (.int .i64 a0_0) := (blk_cell K2.out 0).trans rfl; have c21 : wq.cell? ⟨g2, 1, none⟩ = some (.slice A0_1 l0_1.length c0_1) := (blk_cell K2.out 1).trans rfl))
      by_cases c4 : q = 0
      ·subst c4
       rw [if_pos rfl] at H
       obtain ⟨⟨t1, t2⟩, hch, H⟩ := Option.bind_eq_some_iff.mp H
       cases H
       have HCH := Aside0.mk hch
       clear hch
       go_wp2_with (first | (go_at_call 41; (with_reducible refine (chest_changed.calls a0_0 A0_1 c0_1 l0_1 Am cm r3 (-1) t1 t2 _ (Kd.C_below HR0.out HB.out) hc0_1 (Kd.R_reads' HM.out).2.2 (Kd.R_reads' HM.out).2.1 HCH.out).mono ?_); rintro e w8 ⟨v, rfl, ho, hb⟩; obtain ⟨Ao, co, eo⟩ := Kd.R_slice ho; subst eo; have HM2 := Aside0.mk (Kd.R_mono (ok' := fun k_ => some k_ ≠ (Value.slice Ao t2.length co).ownBlock) (Kd.R_below (Kd.R_bound HM.out) hb) (fun k_ hk e => by have h1 := Kd.R_base ho k_ e.symm; have h2 := hk.2.2.1; omega)); have HO := Aside0.mk (Kd.R_mono (ok' := fun k_ => some k_ ≠ (Value.slice Am r3.length cm).ownBlock) (Kd.R_tight rfl (Kd.R_lower ho (below_size HB.out))) (fun k_ hk e => by have h1 := Kd.R_base ho k_ hk.symm; have h2 := Kd.R_lt HM.out k_ e.symm; omega)); have n0_ := Aside0.mk (below_step HB.out hb); have n2_ := Aside0.mk (blk_below K4.out hb); clear HB K4 HM ho hb c20 c21; have HB := n0_; have K4 := n2_; clear n0_ n2_; have c40 : w8.cell? ⟨g4, 0, none⟩ = some (.int .i64 0) := (blk_cell K4.out 0).trans rfl; have c41 : w8.cell? ⟨g4, 1, none⟩ = some (.slice none 0 0) := (blk_cell K4.out 1).trans rfl; have f40 := blk_frozen K4.out 0; have f41 := blk_frozen K4.out 1))
       refine bodyPost_ret (results_ctt rfl _ _ g4 56 #[.int .i64 t1, .slice Ao t2.length co] (0, 0) _ rfl (by refine blk_put (cs := #[.int .i64 t1, .slice none 0 0]) ?_ 1 _ rfl; refine blk_put (cs := #[.int .i64 0, .slice none 0 0]) ?_ 0 _ rfl; exact K4.out) Try.underlying56 rfl (by kernel_rfl)) rfl ?_
       exact ⟨_, _, rfl, Kd.R_mono (Kd.R_far (p := ⟨g4, 1, none⟩) (Kd.R_far (p := ⟨g4, 0, none⟩) (Kd.R_types HO.out K4.out (by decide)) (fun _ hk => hk.2) (.int .i64 t1)) (fun _ hk => hk.2) (.slice Ao t2.length co)) (fun _ hk => hk.1), Kd.R_mono (Kd.R_far (p := ⟨g4, 1, none⟩) (Kd.R_far (p := ⟨g4, 0, none⟩) (Kd.R_types HM2.out K4.out (by decide)) (fun _ hk => hk.2) (.int .i64 t1)) (fun _ hk => hk.2) (.slice Ao t2.length co)) (fun _ hk => hk.1), below_set (below_set HB.out G4.out) G4.out⟩
      ·rw [if_neg c4] at H
       have e0 : (q == 0) = false := beq_eq_false_iff_ne.mpr c4
       have e1 : (q != 0) = true := bne_iff_ne.mpr c4
       cases H
       have c40 : wq.cell? ⟨g4, 0, none⟩ = some (.int .i64 0) := (blk_cell K4.out 0).trans rfl
       have c41 : wq.cell? ⟨g4, 1, none⟩ = some (.slice none 0 0) := (blk_cell K4.out 1).trans rfl
       have f40 := blk_frozen K4.out 0
       have f41 := blk_frozen K4.out 1
       go_wp2
       refine bodyPost_ret (results_ctt rfl _ _ g4 56 #[.int .i64 0, .slice none 0 0] (0, 0) _ rfl (by refine blk_put (cs := #[.int .i64 0, .slice none 0 0]) ?_ 1 _ rfl; refine blk_put (cs := #[.int .i64 0, .slice none 0 0]) ?_ 0 _ rfl; exact K4.out) Try.underlying56 rfl (by kernel_rfl)) rfl ?_
       exact ⟨_, _, rfl, Kd.R_nil _ _ _ _ _, Kd.R_nil _ _ _ _ _, below_set (below_set HB.out G4.out) G4.out⟩
 ·rw [if_neg c] at H
  have d0 : (t == 0) = false := beq_eq_false_iff_ne.mpr c
  have d1 : (t != 0) = true := bne_iff_ne.mpr c
  cases H
  have c40 : wq.cell? ⟨g4, 0, none⟩ = some (.int .i64 0) := (blk_cell K4.out 0).trans rfl
  have c41 : wq.cell? ⟨g4, 1, none⟩ = some (.slice none 0 0) := (blk_cell K4.out 1).trans rfl
  have f40 := blk_frozen K4.out 0
  have f41 := blk_frozen K4.out 1
  go_wp2
  refine bodyPost_ret (results_ctt rfl _ _ g4 56 #[.int .i64 0, .slice none 0 0] (0, 0) _ rfl (by refine blk_put (cs := #[.int .i64 0, .slice none 0 0]) ?_ 1 _ rfl; refine blk_put (cs := #[.int .i64 0, .slice none 0 0]) ?_ 0 _ rfl; exact K4.out) Try.underlying56 rfl (by kernel_rfl)) rfl ?_
  exact ⟨_, _, rfl, Kd.R_nil _ _ _ _ _, Kd.R_nil _ _ _ _ _, below_set (below_set HB.out G4.out) G4.out⟩
end Go.Proofs.Ytgbjlcaanagfnaa.P
