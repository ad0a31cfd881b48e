/- (*Plant).store: what was drawn goes into a chest. (*Plant).push: what was drawn is pushed into the pipe. (*Plant).pump: a pump draws from a chest, and stores or pushes. (*Plant).pump in one contract; all pumps of a step. -/
import Derived.Test.YtgbjlcaanagfnaaPlantW
import Derived.Test.YtgbjlcaanagfnaaHandChest
import Derived.Deep.QuietTactic
import Derived.BigQuiet
import Derived.RegionTactic
import Derived.WalkKit
import Derived.Test.YtgbjlcaanagfnaaHandPush
import Derived.Test.YtgbjlcaanagfnaaPx3
namespace Go.Proofs.Ytgbjlcaanagfnaa.P
open Go.RowKit Go.Proofs.YtgbjlcaanagfnaaW.PrintWords Go.Proofs.YtgbjlcaanagfnaaW.PrintLast Go.Proofs.YtgbjlcaanagfnaaW.PrintMore
open List (setIfInBounds_toArray set_cons_zero set_cons_succ)
set_option linter.unusedVariables false
set_option linter.unusedSimpArgs false

set_option maxHeartbeats 1000000 in
set_option maxRecDepth 100000 in
theorem store_calls (K : Nat) (ex : Nat → Prop) (g : PX) (s : Pl) (w0 w : World) (hP : PAt w w0.heap.size ex g s) (hB : Below w0.heap.size w0 w) (i : Nat) (hi : i < s.chests.length) (c : S56) (hci : s.chests.getD i ⟨0, []⟩ = c) (A : Option Addr) (cM : Nat) (m : List Int) (hM : Kd.C (Kd.int .i64) w A m.length m) (hcM : m.length ≤ cM) (r1 : Int) (r2 : List Int) (r3 : Int) (hF : chest_Fill.f K c.f0 c.f1 m = some (r1, r2, r3)) :
  Calls Try.prog 44 #[.pointer (some ⟨g.gx, 0, none⟩), .int .i64 i, .slice A m.length cM] w fun e w' => e = .returned (.int .i64 r3) ∧ Below w0.heap.size w0 w' ∧ Kept w w' (fun k => k = g.gc) ∧ (r3 = 0 → PAt w' w0.heap.size ex g { s with chests := s.chests.set i ⟨r1, r2⟩ }) := by
 obtain ⟨gx, gc, cc, gf, cf, gm, cm, CA, cn, ck, PA, pc, QA, qc⟩ := g
 have HP := Aside0.mk hP
 have HB := Aside0.mk hB
 have HK := Aside0.mk (Kept.refl w (fun k => k = gc))
 have HM := Aside0.mk hM
 have HMU := Aside0.mk (show ∀ k, w.heap.size ≤ k → ¬ PX.mu ⟨gx, gc, cc, gf, cf, gm, cm, CA, cn, ck, PA, pc, QA, qc⟩ k ∧ ¬ ex k from fun k hk => ⟨fun hm => by have := hP.lt_mu k hm; omega, fun hx => by have := hP.exb k hx; omega⟩)
 have HF := Aside0.mk hF
 obtain ⟨cl, hcl, hfk, hcc, hfr⟩ := Kd.N_elem hP.hc ⟨0, []⟩ (i : Int) (by omega) (by omega)
 rw [Int.toNat_natCast, hci] at hfk
 rw [Int.toNat_natCast] at hcc hfr
 obtain ⟨A1, c1, rfl, hc1, hF1⟩ := k56_openF hfk
 have e0 : w.cell? ⟨gc, i * 2, none⟩ = some (.int .i64 c.f0) := hcc 0 _ rfl
 have e1 : w.cell? ⟨gc, i * 2 + 1, none⟩ = some (.slice A1 c.f1.length c1) := hcc 1 _ rfl
 have c4 : w.cell? ⟨gx, 4, none⟩ = some (.slice (some ⟨gc, 0, none⟩) s.chests.length cc) := (blk_cell hP.kx 4).trans rfl
 have HC1 := Aside0.mk (Kd.F_now hF1)
 have HCI := Aside0.mk hci
 clear hP hB hM hF hcl hfk hcc hfr hF1 hci
 have p1 : (0 ≤ (i : Int)) = True := eq_true (by omega)
 have q1 : ((i : Int) < (s.chests.length : Int)) = True := eq_true (by omega)
 by_cases cr : r3 = 0
 ·subst cr
  go_enter Try.func44, Try.ntmps44
  go_wp2_with (first | (go_at_call 22; (with_reducible refine (chest_Fill.calls K c.f0 A1 c1 c.f1 A cM m r1 r2 _ _ HC1.out hc1 HM.out hcM HF.out).mono ?_); rintro e w3 ⟨v1, rfl, hoR, hb⟩; obtain ⟨Ao, co, eo⟩ := Kd.R_slice hoR; subst eo; have n0_ := Aside0.mk (HP.out.below hb); have n1_ := Aside0.mk (below_step HB.out hb); have n2_ := Aside0.mk (Kept.below HK.out hb); have n3_ := Aside0.mk hoR; clear HP HB HK hoR hb c4 e0 e1; have HP := n0_; have HB := n1_; have HK := n2_; have HO := n3_; clear n0_ n1_ n2_ n3_) | ((with_reducible refine gate_dst (N := 7) rfl ?_); refine box_event ?hg (N := 7) ?hd (cs := #[.int .i64 0, .slice none 0 0]) (t := 56) ?hr ?_; (case hd => rfl); (case hg => rfl); (case hr => first | (go_simp; done) | (go_simp; rfl)); intro g7 hg w4 hbox hb; have n1_ := Aside0.mk (below_step HB.out hb); have n2_ := Aside0.mk (Kept.of_below hb (fun _ => False)); have n4_ := Aside0.mk hbox; have n5_ := Aside0.mk (show w3.heap.size ≤ g7 by rw [hg]; exact Nat.le_refl _); have n6_ := Aside0.mk (below_size HB.out); clear HB hbox hg hb; have HB := n1_; have HK34 := n2_; have K7 := n4_; have G7 := n5_; have HBS := n6_; clear n1_ n2_ n4_ n5_ n6_; have c70 : w4.cell? ⟨g7, 0, none⟩ = some (.int .i64 0) := (blk_cell K7.out 0).trans rfl; have c71 : w4.cell? ⟨g7, 1, none⟩ = some (.slice none 0 0) := (blk_cell K7.out 1).trans rfl; have f70 := blk_frozen K7.out 0; have f71 := blk_frozen K7.out 1))
  generalize hW : World.setCell (World.setCell w4 _ _) _ _ = w5
  have HK35 := Aside0.mk (show Kept w3 w5 (fun _ => False) from by rw [← hW]; exact (HK34.out.setCell (p := ⟨g7, 0, none⟩) (.inr G7.out) _).setCell (p := ⟨g7, 1, none⟩) (.inr G7.out) _)
  have HB5 := Aside0.mk (show Below w0.heap.size w0 w5 from by rw [← hW]; exact below_set (below_set HB.out (Nat.le_trans HBS.out G7.out)) (Nat.le_trans HBS.out G7.out))
  have K75 := Aside0.mk (show w5.heap[g7]? = some (.cells #[.int .i64 r1, .slice Ao r2.length co] 56 (0, 0)) from by rw [← hW]; exact blk_put (blk_put K7.out 0 _ rfl) 1 _ rfl)
  have HP5 := Aside0.mk (HP.out.kept HK35.out (fun _ hk => hk.elim))
  have HK5 := Aside0.mk (HK.out.then_ HK35.out (fun _ hk => hk.elim))
  have HO5 := Aside0.mk (Kd.R_kept HO.out HK35.out (fun _ _ hk => hk))
  clear hW HP HB HK HO HK34 K7 f70 f71
  have HFK5 := Aside0.mk (Kd.FK_of_M (k56_mkM w5 w.heap.size (fun k => some k = (Value.slice Ao r2.length co).ownBlock) ⟨r1, r2⟩ (Kd.R_tight rfl HO5.out)))
  have hokp := Kd.R_base HO5.out
  obtain ⟨cl, hcl, hfk, hcc, hfr⟩ := Kd.N_elem HP5.out.hc ⟨0, []⟩ (i : Int) (by omega) (by show (i : Int) < (s.chests.length : Int); omega)
  rw [Int.toNat_natCast, HCI.out] at hfk
  rw [Int.toNat_natCast] at hcc hfr
  obtain ⟨A1, c1, rfl, hc1, hF1⟩ := k56_openF hfk
  have e0 : w5.cell? ⟨gc, i * 2, none⟩ = some (.int .i64 c.f0) := hcc 0 _ rfl
  have e1 : w5.cell? ⟨gc, i * 2 + 1, none⟩ = some (.slice A1 c.f1.length c1) := hcc 1 _ rfl
  have z0 : w5.frozen? ⟨gc, i * 2, none⟩ = false := hfr 0
  have z1 : w5.frozen? ⟨gc, i * 2 + 1, none⟩ = false := hfr 1
  have c4 : w5.cell? ⟨gx, 4, none⟩ = some (.slice (some ⟨gc, 0, none⟩) s.chests.length cc) := (blk_cell HP5.out.kx 4).trans rfl
  have c70 : w5.cell? ⟨g7, 0, none⟩ = some (.int .i64 r1) := (blk_cell K75.out 0).trans rfl
  have c71 : w5.cell? ⟨g7, 1, none⟩ = some (.slice Ao r2.length co) := (blk_cell K75.out 1).trans rfl
  have HOK := Aside0.mk hokp
  clear hcl hfk hcc hfr hF1 hokp
  refine start_ (n := 8) (S := fun w' => w'.cell? ⟨gx, 4, none⟩ = some (.slice (some ⟨gc, 0, none⟩) s.chests.length cc) ∧ w'.cell? ⟨g7, 0, none⟩ = some (.int .i64 r1) ∧ w'.cell? ⟨g7, 1, none⟩ = some (.slice Ao r2.length co)) (ds := [7]) #[false,false,false,false,false,false,false,false] (by kernel_rfl) rfl rfl ⟨(show w5.drew.cell? _ = _ from c4), (show w5.drew.cell? _ = _ from c70), (show w5.drew.cell? _ = _ from c71)⟩ (fun hHeld => ?_)
  replace e0 : w5.drew.cell? ⟨gc, i * 2, none⟩ = some (.int .i64 c.f0) := e0
  replace e1 : w5.drew.cell? ⟨gc, i * 2 + 1, none⟩ = some (.slice A1 c.f1.length c1) := e1
  replace z0 : w5.drew.frozen? ⟨gc, i * 2, none⟩ = false := z0
  replace z1 : w5.drew.frozen? ⟨gc, i * 2 + 1, none⟩ = false := z1
  have HP := Aside0.mk HP5.out.drew
  have HB := Aside0.mk (below_drew HB5.out)
  have HK := Aside0.mk (Kept.drew HK5.out)
  have HFK := Aside0.mk (Kd.FK_below HFK5.out (below_drew (Below.refl _ _)))
  clear c4 c70 c71
  generalize w5.drew = w6 at HP HB HK HFK e0 e1 z0 z1 hHeld ⊢
  refine pure_ (i := 0) (N := some 24) (v := ?_) (a' := ?_) #[true,false,false,false,false,false,false,false] rfl rfl (by kernel_rfl) (fun _ _ _ h => h) (Or.inl ⟨by rfl, ?_⟩) ?_ ?_
  rotate_left
  ·intro w'; go_simp; with_reducible rfl
  rotate_left
  ·simp only [Act.put, setIfInBounds_toArray, set_cons_zero, set_cons_succ, i64_w, i32_w]; rfl
  refine pure_ (i := 1) (N := some 25) (v := ?_) (a' := ?_) #[true,true,false,false,false,false,false,false] rfl rfl (by kernel_rfl) (fun _ _ _ h => h) (Or.inl ⟨by rfl, ?_⟩) ?_ ?_
  rotate_left
  ·intro w'; go_simp; with_reducible rfl
  rotate_left
  ·simp only [Act.put, setIfInBounds_toArray, set_cons_zero, set_cons_succ, i64_w, i32_w]; rfl
  refine pure_ (i := 2) (N := some 26) (v := ?_) (a' := ?_) #[true,true,true,false,false,false,false,false] rfl rfl (by kernel_rfl) (fun _ _ _ h => h) (Or.inl ⟨by rfl, ?_⟩) ?_ ?_
  rotate_left
  ·intro w'; go_simp; with_reducible rfl
  rotate_left
  ·simp only [Act.put, setIfInBounds_toArray, set_cons_zero, set_cons_succ, i64_w, i32_w]; rfl
  refine pure_ (i := 4) (N := some 28) (v := ?_) (a' := ?_) #[true,true,true,false,true,false,false,false] rfl rfl (by kernel_rfl) (fun _ _ _ h => h) (Or.inl ⟨by rfl, ?_⟩) ?_ ?_
  rotate_left
  ·intro w'; go_simp; with_reducible rfl
  rotate_left
  ·simp only [Act.put, setIfInBounds_toArray, set_cons_zero, set_cons_succ, i64_w, i32_w]; rfl
  refine take_ (i := 3) (N := some 27) (v := ?_) (a' := ?_) #[true,true,true,true,true,false,false,false] rfl rfl (by kernel_rfl) (fun _ _ _ h => h) (Or.inl ⟨by rfl, ?_⟩) hHeld ?_ ?_
  rotate_left
  ·rintro w' ⟨s0, s1, s2⟩; go_simp; with_reducible rfl
  rotate_left
  ·simp only [Act.put, setIfInBounds_toArray, set_cons_zero, set_cons_succ, i64_w, i32_w]; rfl
  refine take_ (i := 5) (N := some 29) (v := ?_) (a' := ?_) #[true,true,true,true,true,true,false,false] rfl rfl (by kernel_rfl) (fun _ _ _ h => h) (Or.inl ⟨by rfl, ?_⟩) hHeld ?_ ?_
  rotate_left
  ·rintro w' ⟨s0, s1, s2⟩; go_simp; with_reducible rfl
  rotate_left
  ·simp only [Act.put, setIfInBounds_toArray, set_cons_zero, set_cons_succ, i64_w, i32_w]; rfl
  refine pure_ (i := 6) (N := some 30) (v := ?_) (a' := ?_) #[true,true,true,true,true,true,true,false] rfl rfl (by kernel_rfl) (fun _ _ _ h => h) (Or.inl ⟨by rfl, ?_⟩) ?_ ?_
  rotate_left
  ·intro w'; go_simp; with_reducible rfl
  rotate_left
  ·simp only [Act.put, setIfInBounds_toArray, set_cons_zero, set_cons_succ, i64_w, i32_w]; rfl
  refine last_ (i := 7) (N := none) #[true,true,true,true,true,true,true,true] rfl rfl (by kernel_rfl) (by decide) (fun K hK => ?_)
  refine skip_ (w1 := ?_) (by rfl) rfl ?_ ?_
  rotate_left
  ·go_simp
   rfl
  refine hK.out _ _ ?_
  clear hK K
  refine done_ (by kernel_rfl) ?_
  have hq := HP.out.setc i hi ⟨r1, r2⟩ (v := .slice Ao r2.length co) HFK.out (fun k hk => HMU.out k (HOK.out k hk.symm))
  have HQ := Aside0.mk hq
  have hb2 := Aside0.mk (below_set (v := .slice Ao r2.length co) (j := i * 2 + 1) (g := gc) (below_set (v := .int .i64 r1) (j := i * 2) (g := gc) HB.out HP.out.bc) HP.out.bc)
  have hk2 := Aside0.mk ((HK.out.setCell (p := ⟨gc, i * 2, none⟩) (.inl rfl) (.int .i64 r1)).setCell (p := ⟨gc, i * 2 + 1, none⟩) (.inl rfl) (.slice Ao r2.length co))
  clear hq
  go_wp2
  go_ret
  exact ⟨rfl, hb2.out, hk2.out, by first | exact fun _ => HQ.out | exact HQ.out⟩
 ·have d0 : (r3 == 0) = false := beq_eq_false_iff_ne.mpr cr
  have d1 : (r3 != 0) = true := bne_iff_ne.mpr cr
  go_enter Try.func44, Try.ntmps44
  go_wp2_with (first | (go_at_call 22; (with_reducible refine (chest_Fill.calls K c.f0 A1 c1 c.f1 A cM m r1 r2 _ _ HC1.out hc1 HM.out hcM HF.out).mono ?_); rintro e w3 ⟨v1, rfl, hoR, hb⟩; obtain ⟨Ao, co, eo⟩ := Kd.R_slice hoR; subst eo; have n0_ := Aside0.mk (HP.out.below hb); have n1_ := Aside0.mk (below_step HB.out hb); have n2_ := Aside0.mk (Kept.below HK.out hb); have n3_ := Aside0.mk hoR; clear HP HB HK hoR hb c4 e0 e1; have HP := n0_; have HB := n1_; have HK := n2_; have HO := n3_; clear n0_ n1_ n2_ n3_) | ((with_reducible refine gate_dst (N := 7) rfl ?_); refine box_event ?hg (N := 7) ?hd (cs := #[.int .i64 0, .slice none 0 0]) (t := 56) ?hr ?_; (case hd => rfl); (case hg => rfl); (case hr => first | (go_simp; done) | (go_simp; rfl)); intro g7 hg w4 hbox hb; have n1_ := Aside0.mk (below_step HB.out hb); have n2_ := Aside0.mk (Kept.of_below hb (fun _ => False)); have n4_ := Aside0.mk hbox; have n5_ := Aside0.mk (show w3.heap.size ≤ g7 by rw [hg]; exact Nat.le_refl _); have n6_ := Aside0.mk (below_size HB.out); clear HB hbox hg hb; have HB := n1_; have HK34 := n2_; have K7 := n4_; have G7 := n5_; have HBS := n6_; clear n1_ n2_ n4_ n5_ n6_; have c70 : w4.cell? ⟨g7, 0, none⟩ = some (.int .i64 0) := (blk_cell K7.out 0).trans rfl; have c71 : w4.cell? ⟨g7, 1, none⟩ = some (.slice none 0 0) := (blk_cell K7.out 1).trans rfl; have f70 := blk_frozen K7.out 0; have f71 := blk_frozen K7.out 1))
  go_ret
  exact ⟨rfl, below_set (below_set HB.out (Nat.le_trans HBS.out G7.out)) (Nat.le_trans HBS.out G7.out), HK.out.then_ ((HK34.out.setCell (p := ⟨g7, 0, none⟩) (.inr G7.out) _).setCell (p := ⟨g7, 1, none⟩) (.inr G7.out) _) (fun _ hk => hk.elim), fun h => absurd h cr⟩
end Go.Proofs.Ytgbjlcaanagfnaa.P

namespace Go.Proofs.Ytgbjlcaanagfnaa.P
open Go.RowKit Go.Proofs.YtgbjlcaanagfnaaW.PrintWords Go.Proofs.YtgbjlcaanagfnaaW.PrintLast Go.Proofs.YtgbjlcaanagfnaaW.PrintMore
set_option linter.unusedVariables false
set_option linter.unusedSimpArgs false

set_option maxHeartbeats 1000000 in
set_option maxRecDepth 100000 in
theorem ppush_calls (K : Nat) (ex : Nat → Prop) (g : PX) (s : Pl) (w0 w : World) (hP : PAt w w0.heap.size ex g s) (hB : Below w0.heap.size w0 w) (dst : Int) (A : Option Addr) (cM : Nat) (m : List Int) (hM : Kd.C (Kd.int .i64) w A m.length m) (hcM : m.length ≤ cM) (n : Nat) (hok : okPush K s.hold s.plugs m n) (md : List Int) (hA : ∀ outs left, pushA s.hold n s.plugs m = some (outs, left) → prep_add.f K s.made left = some md ∧ md.length = s.made.length) :
  Calls Try.prog 45 #[.pointer (some ⟨g.gx, 0, none⟩), .int .i64 dst, .slice A m.length cM] w fun e w' => Below w0.heap.size w0 w' ∧ Kept w w' g.mu ∧
   match pushA s.hold n s.plugs m with
   | none => e = .returned (.int .i64 8)
   | some (outs, _) => e = .returned (.int .i64 0) ∧ ∃ QA qc, PAt w' w0.heap.size ex { g with QA := QA, qc := qc } { s with plugs := outs, made := md } := by
 have hcall := push_calls K s.hold g.QA g.qc s.plugs A cM m n w (Kd.F_now hP.hq) hP.qc hM hcM hok
 obtain ⟨gx, gc, cc, gf, cf, gm, cm, CA, cn, ck, PA, pc, QA, qc⟩ := g
 have HP := Aside0.mk hP
 have HB := Aside0.mk hB
 have HK := Aside0.mk (Kept.refl w (PX.mu ⟨gx, gc, cc, gf, cf, gm, cm, CA, cn, ck, PA, pc, QA, qc⟩))
 have HMU := Aside0.mk (show ∀ k, w.heap.size ≤ k → ¬ PX.mu ⟨gx, gc, cc, gf, cf, gm, cm, CA, cn, ck, PA, pc, QA, qc⟩ k ∧ ¬ ex k from fun k hk => ⟨fun hm => by have := hP.lt_mu k hm; omega, fun hx => by have := hP.exb k hx; omega⟩)
 have c5 : w.cell? ⟨gx, 5, none⟩ = some (.int .i64 s.hold) := (blk_cell hP.kx 5).trans rfl
 have c6 : w.cell? ⟨gx, 6, none⟩ = some (.slice QA s.plugs.length qc) := (blk_cell hP.kx 6).trans rfl
 clear hP hB hM hok
 simp only [] at hcall
 cases hp : pushA s.hold n s.plugs m with
 | none =>
  rw [hp] at hcall
  simp only [] at hcall
  have HCALL := Aside0.mk hcall
  clear hcall hA hp
  go_enter Try.func45, Try.ntmps45
  go_wp2_with (first | (go_at_call 57; (with_reducible refine HCALL.out.mono ?_); rintro e w3 ⟨hb, rfl⟩; have n1_ := Aside0.mk (below_step HB.out hb); have n2_ := Aside0.mk (Kept.below HK.out hb); clear HB HK hb c5 c6; have HB := n1_; have HK := n2_; clear n1_ n2_) | ((with_reducible refine gate_dst (N := 7) rfl ?_); refine box_event ?hg (N := 7) ?hd (cs := #[.int .i64 0, .slice none 0 0]) (t := 51) ?hr ?_; (case hd => rfl); (case hg => rfl); (case hr => first | (go_simp; done) | (go_simp; rfl)); intro g7 hg w4 hbox hb; have n1_ := Aside0.mk (below_step HB.out hb); have n2_ := Aside0.mk (Kept.of_below hb (fun _ => False)); have n4_ := Aside0.mk hbox; have n5_ := Aside0.mk (show w3.heap.size ≤ g7 by rw [hg]; exact Nat.le_refl _); have n6_ := Aside0.mk (below_size HB.out); clear HB hbox hg hb; have HB := n1_; have HK34 := n2_; have K7 := n4_; have G7 := n5_; have HBS := n6_; clear n1_ n2_ n4_ n5_ n6_; have c70 : w4.cell? ⟨g7, 0, none⟩ = some (.int .i64 0) := (blk_cell K7.out 0).trans rfl; have c71 : w4.cell? ⟨g7, 1, none⟩ = some (.slice none 0 0) := (blk_cell K7.out 1).trans rfl; have f70 := blk_frozen K7.out 0; have f71 := blk_frozen K7.out 1))
  go_ret
  exact ⟨below_set (below_set HB.out (Nat.le_trans HBS.out G7.out)) (Nat.le_trans HBS.out G7.out), HK.out.then_ ((HK34.out.setCell (p := ⟨g7, 0, none⟩) (.inr G7.out) _).setCell (p := ⟨g7, 1, none⟩) (.inr G7.out) _) (fun _ hk => hk.elim), rfl⟩
 | some r =>
  obtain ⟨outs, left⟩ := r
  rw [hp] at hcall
  simp only [] at hcall
  have HCALL := Aside0.mk hcall
  have HADD := Aside0.mk (hA outs left hp)
  clear hcall hA hp
  go_enter Try.func45, Try.ntmps45
  go_upto_region 5 with (first | (go_at_call 57; (with_reducible refine HCALL.out.mono ?_); rintro e w3 ⟨hb, vo, vl, rfl, hN, hR⟩; obtain ⟨Ao, co, eo⟩ := Kd.N_slice hN; subst eo; obtain ⟨Al, cl, el⟩ := Kd.R_slice hR; subst el; have n0_ := Aside0.mk (HP.out.below hb); have n1_ := Aside0.mk (below_step HB.out hb); have n2_ := Aside0.mk (Kept.below HK.out hb); have n3_ := Aside0.mk hN; have n4_ := Aside0.mk hR; clear HP HB HK hb hN hR c5 c6; have HP := n0_; have HB := n1_; have HK := n2_; have HN := n3_; have HR := n4_; clear n0_ n1_ n2_ n3_ n4_) | ((with_reducible refine gate_dst (N := 7) rfl ?_); refine box_event ?hg (N := 7) ?hd (cs := #[.int .i64 0, .slice none 0 0]) (t := 51) ?hr ?_; (case hd => rfl); (case hg => rfl); (case hr => first | (go_simp; done) | (go_simp; rfl)); intro g7 hg w4 hbox hb; have n1_ := Aside0.mk (below_step HB.out hb); have n2_ := Aside0.mk (Kept.of_below hb (fun _ => False)); have n4_ := Aside0.mk hbox; have c5 : w4.cell? ⟨gx, 5, none⟩ = some (.int .i64 s.hold) := (blk_cell (HP.out.below hb).kx 5).trans rfl; have c6 : w4.cell? ⟨gx, 6, none⟩ = some (.slice QA s.plugs.length qc) := (blk_cell (HP.out.below hb).kx 6).trans rfl; have f5 := blk_frozen (HP.out.below hb).kx 5; have f6 := blk_frozen (HP.out.below hb).kx 6; have n5_ := Aside0.mk (show w3.heap.size ≤ g7 by rw [hg]; exact Nat.le_refl _); have n6_ := Aside0.mk (below_size HB.out); clear HB hbox hg hb; have HB := n1_; have HK34 := n2_; have K7 := n4_; have G7 := n5_; have HBS := n6_; clear n1_ n2_ n4_ n5_ n6_; have c70 : w4.cell? ⟨g7, 0, none⟩ = some (.int .i64 0) := (blk_cell K7.out 0).trans rfl; have c71 : w4.cell? ⟨g7, 1, none⟩ = some (.slice none 0 0) := (blk_cell K7.out 1).trans rfl; have f70 := blk_frozen K7.out 0; have f71 := blk_frozen K7.out 1))
  generalize hW : World.setCell (World.setCell w4 _ _) _ _ = w5
  have HK35 := Aside0.mk (show Kept w3 w5 (fun _ => False) from by rw [← hW]; exact (HK34.out.setCell (p := ⟨g7, 0, none⟩) (.inr G7.out) _).setCell (p := ⟨g7, 1, none⟩) (.inr G7.out) _)
  have HB5 := Aside0.mk (show Below w0.heap.size w0 w5 from by rw [← hW]; exact below_set (below_set HB.out (Nat.le_trans HBS.out G7.out)) (Nat.le_trans HBS.out G7.out))
  have HP5 := Aside0.mk (HP.out.kept HK35.out (fun _ hk => hk.elim))
  have HK5 := Aside0.mk (HK.out.then_ HK35.out (fun _ hk => hk.elim))
  have HF5 := Aside0.mk (Kd.F_mono (Kd.F_kept (Kd.N_F HN.out) HK35.out (fun _ _ hk => hk)) HMU.out)
  have HR5 := Aside0.mk (Kd.R_kept HR.out HK35.out (fun _ _ hk => hk))
  have HCO := Aside0.mk (Kd.N_reads' HN.out).2.1
  clear hW HP HB HK HN HR HK34 HK35 K7 f70 f71 c70 c71 c5 c6 f5 f6
  have hq := HP5.out.pipe HF5.out HCO.out
  have HQ6 := Aside0.mk hq
  have HB6 := Aside0.mk (below_set (j := 6) (v := .slice Ao outs.length co) (below_set (j := 5) (v := .int .i64 s.hold) HB5.out HP5.out.bx) HP5.out.bx)
  have HK6 := Aside0.mk ((HK5.out.setCell (p := ⟨gx, 5, none⟩) (.inl (.inl rfl)) (.int .i64 s.hold)).setCell (p := ⟨gx, 6, none⟩) (.inl (.inl rfl)) (.slice Ao outs.length co))
  have HR6 := Aside0.mk (Kd.R_far (p := ⟨gx, 6, none⟩) (Kd.R_far (p := ⟨gx, 5, none⟩) (Kd.R_mono (ok' := fun k => some k = (Value.slice Al left.length cl).ownBlock ∧ w.heap.size ≤ k) (Kd.R_tight rfl HR5.out) (fun k hk => ⟨hk, Kd.R_base HR5.out k hk.symm⟩)) (fun k hk e => (HMU.out k hk.2).1 (.inl e)) (.int .i64 s.hold)) (fun k hk e => (HMU.out k hk.2).1 (.inl e)) (.slice Ao outs.length co))
  clear hq HP5 HB5 HK5 HF5 HR5
  simp only [] at HQ6
  generalize World.setCell (World.setCell w5 _ _) _ _ = w6 at *
  have c8 : w6.cell? ⟨gx, 8, none⟩ = some (.slice (some ⟨gm, 0, none⟩) s.made.length cm) := (blk_cell HQ6.out.kx 8).trans rfl
  go_wp2_with (first | (go_at_call 18; (with_reducible refine (prep_add.calls K (fun k => k = gm) (.slice (some ⟨gm, 0, none⟩) s.made.length cm) s.made Al cl left md w0 _ HB6.out HQ6.out.hm ?hr1 ?hc1 HADD.out.1).mono ?_); (case hr1 => exact Kd.C_kept_own HR6.out (fun k hk e => (HMU.out k hk.2).1 (.inr (.inr (.inr e))))); (case hc1 => exact (Kd.R_reads' HR6.out).2.1); rintro e w7 ⟨rfl, hR7, hB7, hK7⟩; have n0_ := Aside0.mk (HQ6.out.make HADD.out.2 hK7 (Kd.R_mono (Kd.R_tight rfl hR7) (fun k hk => by simp [Value.ownBlock] at hk; exact hk))); have n1_ := Aside0.mk hB7; have n2_ := Aside0.mk (HK6.out.then_ hK7 (fun k hk => .inl (.inr (.inr (.inr hk))))); clear HQ6 HB6 HK6 HR6 hR7 hB7 hK7; have HQ6 := n0_; have HB6 := n1_; have HK6 := n2_; clear n0_ n1_ n2_))
  go_ret
  exact ⟨HB6.out, HK6.out, rfl, _, _, HQ6.out⟩
end Go.Proofs.Ytgbjlcaanagfnaa.P

namespace Go.Proofs.Ytgbjlcaanagfnaa.P
open Go.RowKit Go.Proofs.YtgbjlcaanagfnaaW.PrintWords Go.Proofs.YtgbjlcaanagfnaaW.PrintLast Go.Proofs.YtgbjlcaanagfnaaW.PrintMore
open List (setIfInBounds_toArray set_cons_zero set_cons_succ)
set_option linter.unusedVariables false
set_option linter.unusedSimpArgs false

structure PumpPost (w0 w : World) (ex : Nat → Prop) (g : PX) (s : Pl) (fr : Nat) (dst r1 : Int) (r2 r3 : List Int) (r4 : Int) (n : Nat) (md : List Int) (ti : Nat) (q1 : Int) (q2 : List Int) (q3 : Int) (e : Ending) (w' : World) : Prop where
 below : Below w0.heap.size w0 w'
 kept : Kept w w' g.mu
 err : r4 ≠ 0 → e = .returned (.int .i64 r4)
 none : r4 = 0 → dst = -1 → pushA s.hold n s.plugs r3 = none → e = .returned (.int .i64 8)
 push : r4 = 0 → dst = -1 → ∀ outs left, pushA s.hold n s.plugs r3 = some (outs, left) → e = .returned (.int .i64 0) ∧ ∃ QA qc, PAt w' w0.heap.size ex { g with QA := QA, qc := qc } { s with chests := s.chests.set fr ⟨r1, r2⟩, plugs := outs, made := md }
 store : r4 = 0 → dst ≠ -1 → e = .returned (.int .i64 q3)
 stored : r4 = 0 → dst ≠ -1 → q3 = 0 → PAt w' w0.heap.size ex g { s with chests := (s.chests.set fr ⟨r1, r2⟩).set ti ⟨q1, q2⟩ }
set_option maxHeartbeats 1000000 in
set_option maxRecDepth 100000 in
theorem pump_walk (Kf : Nat) (ex : Nat → Prop) (g : PX) (s : Pl) (w0 w : World) (hP : PAt w w0.heap.size ex g s) (hB : Below w0.heap.size w0 w) (fr : Nat) (hfr : fr < s.chests.length) (c : S56) (hci : s.chests.getD fr ⟨0, []⟩ = c) (dst mass : Int) (r1 : Int) (r2 r3 : List Int) (r4 : Int) (hF : chest_Draw.f Kf c.f0 c.f1 mass = some (r1, r2, r3, r4)) (n : Nat) (md : List Int)
  (hpush : r4 = 0 → dst = -1 → okPush Kf s.hold s.plugs r3 n ∧ ∀ outs left, pushA s.hold n s.plugs r3 = some (outs, left) → prep_add.f Kf s.made left = some md ∧ md.length = s.made.length)
  (ti : Nat) (t : S56) (q1 : Int) (q2 : List Int) (q3 : Int) (hstore : r4 = 0 → dst ≠ -1 → dst = ti ∧ ti < s.chests.length ∧ (s.chests.set fr ⟨r1, r2⟩).getD ti ⟨0, []⟩ = t ∧ chest_Fill.f Kf t.f0 t.f1 r3 = some (q1, q2, q3)) :
  Calls Try.prog 24 #[.pointer (some ⟨g.gx, 0, none⟩), .agg #[.int .i64 fr, .int .i64 dst, .int .i64 mass]] w fun e w' => PumpPost w0 w ex g s fr dst r1 r2 r3 r4 n md ti q1 q2 q3 e w' := by
 have HPU := Aside0.mk hpush
 have HST := Aside0.mk hstore
 clear hpush hstore
 obtain ⟨gx, gc, cc, gf, cf, gm, cm, CA, cn, ck, PA, pc, QA, qc⟩ := g
 have HP := Aside0.mk hP
 have HB := Aside0.mk hB
 have HF := Aside0.mk hF
 have HMU := Aside0.mk (show ∀ k, w.heap.size ≤ k → ¬ PX.mu ⟨gx, gc, cc, gf, cf, gm, cm, CA, cn, ck, PA, pc, QA, qc⟩ k ∧ ¬ ex k from fun k hk => ⟨fun hm => by have := hP.lt_mu k hm; omega, fun hx => by have := hP.exb k hx; omega⟩)
 obtain ⟨cl, hcl, hfk, hcc, hfr2⟩ := Kd.N_elem hP.hc ⟨0, []⟩ (fr : Int) (by omega) (by omega)
 rw [Int.toNat_natCast, hci] at hfk
 rw [Int.toNat_natCast] at hcc hfr2
 obtain ⟨A1, c1, rfl, hc1, hF1⟩ := k56_openF hfk
 have e0 : w.cell? ⟨gc, fr * 2, none⟩ = some (.int .i64 c.f0) := hcc 0 _ rfl
 have e1 : w.cell? ⟨gc, fr * 2 + 1, none⟩ = some (.slice A1 c.f1.length c1) := hcc 1 _ rfl
 have c4 : w.cell? ⟨gx, 4, none⟩ = some (.slice (some ⟨gc, 0, none⟩) s.chests.length cc) := (blk_cell hP.kx 4).trans rfl
 have HC1 := Aside0.mk (Kd.F_now hF1)
 have HCI := Aside0.mk hci
 clear hP hB hF hcl hfk hcc hfr2 hF1 hci
 have p1 : (0 ≤ (fr : Int)) = True := eq_true (by omega)
 have q1_ : ((fr : Int) < (s.chests.length : Int)) = True := eq_true (by omega)
 go_enter Try.func24, Try.ntmps24
 go_wp2_with (first | ((with_reducible refine gate_dst (N := 3) rfl ?_); refine box_event ?hg (N := 3) ?hd (cs := #[.int .i64 fr, .int .i64 dst, .int .i64 mass]) (t := 35) ?hr ?_; (case hd => rfl); (case hg => rfl); (case hr => first | (go_simp; done) | (go_simp; rfl)); intro g3 hg w2 hbox hb; have HBw2 := Aside0.mk hb; have K3 := Aside0.mk hbox; have G3 := Aside0.mk (show w.heap.size ≤ g3 by rw [hg]; exact Nat.le_refl _); have HPn := Aside0.mk (HP.out.below hb); replace c4 := (hb.cell (World.block_lt_of_cell? _ _ c4)).trans c4; replace e0 := (hb.cell (World.block_lt_of_cell? _ _ e0)).trans e0; replace e1 := (hb.cell (World.block_lt_of_cell? _ _ e1)).trans e1; clear hb hbox hg; have c30 : w2.cell? ⟨g3, 0, none⟩ = some (.int .i64 fr) := (blk_cell K3.out 0).trans rfl; have c31 : w2.cell? ⟨g3, 1, none⟩ = some (.int .i64 dst) := (blk_cell K3.out 1).trans rfl; have c32 : w2.cell? ⟨g3, 2, none⟩ = some (.int .i64 mass) := (blk_cell K3.out 2).trans rfl))
 refine start_ (n := 19) (S := fun w' => w'.cell? ⟨gx, 4, none⟩ = some (.slice (some ⟨gc, 0, none⟩) s.chests.length cc) ∧ w'.cell? ⟨g3, 0, none⟩ = some (.int .i64 fr) ∧ w'.cell? ⟨g3, 2, none⟩ = some (.int .i64 mass) ∧ w'.cell? ⟨gc, fr * 2, none⟩ = some (.int .i64 c.f0) ∧ w'.cell? ⟨gc, fr * 2 + 1, none⟩ = some (.slice A1 c.f1.length c1)) (ds := [16]) #[false,false,false,false,false,false,false,false,false,false,false,false,false,false,false,false,false,false,false] (by kernel_rfl) rfl rfl ⟨(show w2.drew.cell? _ = _ from c4), (show w2.drew.cell? _ = _ from c30), (show w2.drew.cell? _ = _ from c32), (show w2.drew.cell? _ = _ from e0), (show w2.drew.cell? _ = _ from e1)⟩ (fun hHeld => ?_)
 have HBw := Aside0.mk (below_drew HBw2.out)
 replace K3 := Aside0.mk (blk_drew K3.out)
 clear c4 c30 c31 c32 e0 e1 HPn HBw2
 generalize w2.drew = w20 at HBw hHeld K3 ⊢
 refine pure_ (i := 0) (N := some 10) (v := ?_) (a' := ?_) #[true,false,false,false,false,false,false,false,false,false,false,false,false,false,false,false,false,false,false] rfl rfl (by kernel_rfl) (fun _ _ _ h => h) (Or.inl ⟨by rfl, ?_⟩) ?_ ?_
 rotate_left
 ·intro w'; go_simp; with_reducible rfl
 rotate_left
 ·simp only [Act.put, setIfInBounds_toArray, set_cons_zero, set_cons_succ, i64_w, i32_w]; rfl
 refine pure_ (i := 1) (N := some 11) (v := ?_) (a' := ?_) #[true,true,false,false,false,false,false,false,false,false,false,false,false,false,false,false,false,false,false] rfl rfl (by kernel_rfl) (fun _ _ _ h => h) (Or.inl ⟨by rfl, ?_⟩) ?_ ?_
 rotate_left
 ·intro w'; go_simp; with_reducible rfl
 rotate_left
 ·simp only [Act.put, setIfInBounds_toArray, set_cons_zero, set_cons_succ, i64_w, i32_w]; rfl
 refine pure_ (i := 2) (N := some 12) (v := ?_) (a' := ?_) #[true,true,true,false,false,false,false,false,false,false,false,false,false,false,false,false,false,false,false] rfl rfl (by kernel_rfl) (fun _ _ _ h => h) (Or.inl ⟨by rfl, ?_⟩) ?_ ?_
 rotate_left
 ·intro w'; go_simp; with_reducible rfl
 rotate_left
 ·simp only [Act.put, setIfInBounds_toArray, set_cons_zero, set_cons_succ, i64_w, i32_w]; rfl
 refine pure_ (i := 4) (N := some 14) (v := ?_) (a' := ?_) #[true,true,true,false,true,false,false,false,false,false,false,false,false,false,false,false,false,false,false] rfl rfl (by kernel_rfl) (fun _ _ _ h => h) (Or.inl ⟨by rfl, ?_⟩) ?_ ?_
 rotate_left
 ·intro w'; go_simp; with_reducible rfl
 rotate_left
 ·simp only [Act.put, setIfInBounds_toArray, set_cons_zero, set_cons_succ, i64_w, i32_w]; rfl
 refine pure_ (i := 8) (N := some 18) (v := ?_) (a' := ?_) #[true,true,true,false,true,false,false,false,true,false,false,false,false,false,false,false,false,false,false] rfl rfl (by kernel_rfl) (fun _ _ _ h => h) (Or.inl ⟨by rfl, ?_⟩) ?_ ?_
 rotate_left
 ·intro w'; go_simp; with_reducible rfl
 rotate_left
 ·simp only [Act.put, setIfInBounds_toArray, set_cons_zero, set_cons_succ, i64_w, i32_w]; rfl
 refine take_ (i := 3) (N := some 13) (v := ?_) (a' := ?_) #[true,true,true,true,true,false,false,false,true,false,false,false,false,false,false,false,false,false,false] rfl rfl (by kernel_rfl) (fun _ _ _ h => h) (Or.inl ⟨by rfl, ?_⟩) hHeld ?_ ?_
 rotate_left
 ·rintro w' ⟨s0, s1, s2, s3, s4⟩; go_simp; with_reducible rfl
 rotate_left
 ·simp only [Act.put, setIfInBounds_toArray, set_cons_zero, set_cons_succ, i64_w, i32_w]; rfl
 refine take_ (i := 5) (N := some 15) (v := ?_) (a' := ?_) #[true,true,true,true,true,true,false,false,true,false,false,false,false,false,false,false,false,false,false] rfl rfl (by kernel_rfl) (fun _ _ _ h => h) (Or.inl ⟨by rfl, ?_⟩) hHeld ?_ ?_
 rotate_left
 ·rintro w' ⟨s0, s1, s2, s3, s4⟩; go_simp; with_reducible rfl
 rotate_left
 ·simp only [Act.put, setIfInBounds_toArray, set_cons_zero, set_cons_succ, i64_w, i32_w]; rfl
 refine pure_ (i := 6) (N := some 16) (v := ?_) (a' := ?_) #[true,true,true,true,true,true,true,false,true,false,false,false,false,false,false,false,false,false,false] rfl rfl (by kernel_rfl) (fun _ _ _ h => h) (Or.inl ⟨by rfl, ?_⟩) ?_ ?_
 rotate_left
 ·intro w'; go_simp; with_reducible rfl
 rotate_left
 ·simp only [Act.put, setIfInBounds_toArray, set_cons_zero, set_cons_succ, i64_w, i32_w]; rfl
 refine take_ (i := 7) (N := some 17) (v := ?_) (a' := ?_) #[true,true,true,true,true,true,true,true,true,false,false,false,false,false,false,false,false,false,false] rfl rfl (by kernel_rfl) (fun _ _ _ h => h) (Or.inl ⟨by rfl, ?_⟩) hHeld ?_ ?_
 rotate_left
 ·rintro w' ⟨s0, s1, s2, s3, s4⟩; go_simp; with_reducible rfl
 rotate_left
 ·simp only [Act.put, setIfInBounds_toArray, set_cons_zero, set_cons_succ, i64_w, i32_w]; rfl
 refine take_ (i := 9) (N := some 19) (v := ?_) (a' := ?_) #[true,true,true,true,true,true,true,true,true,true,false,false,false,false,false,false,false,false,false] rfl rfl (by kernel_rfl) (fun _ _ _ h => h) (Or.inl ⟨by rfl, ?_⟩) hHeld ?_ ?_
 rotate_left
 ·rintro w' ⟨s0, s1, s2, s3, s4⟩; go_simp; with_reducible rfl
 rotate_left
 ·simp only [Act.put, setIfInBounds_toArray, set_cons_zero, set_cons_succ, i64_w, i32_w]; rfl
 refine join_ (σ := Option Addr × Nat × Option Addr × Nat × Nat) 3 #[true,true,true,true,true,true,true,true,true,true,true,true,true,true,true,true,false,false,false] (fun s_ => [(20, .tuple #[.agg #[.int .i64 r1, .slice s_.1 r2.length s_.2.1], .slice s_.2.2.1 r3.length s_.2.2.2.1, .int .i64 r4]), (9, .tuple #[.agg #[.int .i64 r1, .slice s_.1 r2.length s_.2.1], .slice s_.2.2.1 r3.length s_.2.2.2.1, .int .i64 r4]), (21, .agg #[.int .i64 r1, .slice s_.1 r2.length s_.2.1]), (22, .slice s_.2.2.1 r3.length s_.2.2.2.1), (23, .int .i64 r4), (5, .pointer (some ⟨s_.2.2.2.2, 0, none⟩))]) (fun s_ w' => Below w.heap.size w w' ∧ Kd.R (Kd.int .i64) 3 w' w.heap.size (fun _ => True) (.slice s_.1 r2.length s_.2.1) r2 ∧ Kd.R (Kd.int .i64) 3 w' w.heap.size (fun _ => True) (.slice s_.2.2.1 r3.length s_.2.2.2.1) r3 ∧ w'.heap[s_.2.2.2.2]? = some (.cells #[.int .i64 0, .slice none 0 0] 56 (0, 0)) ∧ w.heap.size ≤ s_.2.2.2.2 ∧ w'.heap[g3]? = some (.cells #[.int .i64 fr, .int .i64 dst, .int .i64 mass] 35 (0, 0))) ?_ ?_
 rotate_left
 ·intro hCont
  refine two_ (i := 10) (j := 15) (Ni := some 20) (Nj := some 5) #[true,true,true,true,true,true,true,true,true,true,true,false,false,false,false,false,false,false,false] #[true,true,true,true,true,true,true,true,true,true,false,false,false,false,false,true,false,false,false] rfl rfl rfl rfl (by kernel_rfl) (by decide) (by decide) (fun K hK => ?_) (fun K hK => ?_)
  ·skip
   refine goes_ Try.func43 (by kernel_rfl) rfl #[.agg #[.int .i64 c.f0, .slice A1 c.f1.length c1], .int .i64 mass] (by rfl) rfl rfl (by simp only [List.map_toArray, List.map_cons, List.map_nil]; rfl) ?_
   with_reducible refine (chest_Draw.calls Kf c.f0 A1 c1 c.f1 mass r1 r2 r3 r4 _ (Kd.C_below HC1.out HBw.out) hc1 HF.out).mono ?_
   rintro e w3 ⟨v1, v2, rfl, hR1, hR2, hb⟩
   obtain ⟨Ao, co, eo⟩ := Kd.R_slice hR1
   subst eo
   obtain ⟨Al, cl, el⟩ := Kd.R_slice hR2
   subst el
   refine ⟨_, rfl, ?_⟩
   have HS0_ := (hb.cell (World.block_lt_of_cell? _ _ hHeld.1)).trans hHeld.1
   have HS1_ := (hb.cell (World.block_lt_of_cell? _ _ hHeld.2.1)).trans hHeld.2.1
   have HS2_ := (hb.cell (World.block_lt_of_cell? _ _ hHeld.2.2.1)).trans hHeld.2.2.1
   have HS3_ := (hb.cell (World.block_lt_of_cell? _ _ hHeld.2.2.2.1)).trans hHeld.2.2.2.1
   have HS4_ := (hb.cell (World.block_lt_of_cell? _ _ hHeld.2.2.2.2)).trans hHeld.2.2.2.2
   have n0_ := Aside0.mk (below_step HBw.out hb)
   have HR1 := Aside0.mk (Kd.R_mono (ok' := fun _ => True) (Kd.R_lower hR1 (below_size HBw.out)) (fun _ _ => trivial))
   have HR2 := Aside0.mk (Kd.R_mono (ok' := fun _ => True) (Kd.R_lower hR2 (below_size HBw.out)) (fun _ _ => trivial))
   have m3_ := Aside0.mk (blk_below K3.out hb)
   clear HBw hHeld hR1 hR2 hb K3
   have HBw := n0_
   have K3 := m3_
   clear n0_ m3_
   refine hK.out _ _ ⟨HS0_, HS1_, HS2_, HS3_, HS4_⟩ (fun hHeld => ?_)
   clear hK K
   refine norm_ (a' := ?_) ?_ ?_
   rotate_left
   ·show Act.put _ (some 20) _ = _
    simp only [Act.put, setIfInBounds_toArray, set_cons_zero, set_cons_succ, i64_w, i32_w]
    rfl
   refine pure_ (i := 11) (N := some 9) (v := ?_) (a' := ?_) #[true,true,true,true,true,true,true,true,true,true,true,true,false,false,false,false,false,false,false] rfl rfl (by kernel_rfl) (fun _ _ _ h => h) (Or.inl ⟨by rfl, ?_⟩) ?_ ?_
   rotate_left
   ·intro w'; go_simp; with_reducible rfl
   rotate_left
   ·simp only [Act.put, setIfInBounds_toArray, set_cons_zero, set_cons_succ, i64_w, i32_w]; rfl
   refine pure_ (i := 12) (N := some 21) (v := ?_) (a' := ?_) #[true,true,true,true,true,true,true,true,true,true,true,true,true,false,false,false,false,false,false] rfl rfl (by kernel_rfl) (fun _ _ _ h => h) (Or.inl ⟨by rfl, ?_⟩) ?_ ?_
   rotate_left
   ·intro w'; go_simp; with_reducible rfl
   rotate_left
   ·simp only [Act.put, setIfInBounds_toArray, set_cons_zero, set_cons_succ, i64_w, i32_w]; rfl
   refine pure_ (i := 13) (N := some 22) (v := ?_) (a' := ?_) #[true,true,true,true,true,true,true,true,true,true,true,true,true,true,false,false,false,false,false] rfl rfl (by kernel_rfl) (fun _ _ _ h => h) (Or.inl ⟨by rfl, ?_⟩) ?_ ?_
   rotate_left
   ·intro w'; go_simp; with_reducible rfl
   rotate_left
   ·simp only [Act.put, setIfInBounds_toArray, set_cons_zero, set_cons_succ, i64_w, i32_w]; rfl
   refine pure_ (i := 14) (N := some 23) (v := ?_) (a' := ?_) #[true,true,true,true,true,true,true,true,true,true,true,true,true,true,true,false,false,false,false] rfl rfl (by kernel_rfl) (fun _ _ _ h => h) (Or.inl ⟨by rfl, ?_⟩) ?_ ?_
   rotate_left
   ·intro w'; go_simp; with_reducible rfl
   rotate_left
   ·simp only [Act.put, setIfInBounds_toArray, set_cons_zero, set_cons_succ, i64_w, i32_w]; rfl
   refine one_ (i := 15) (N := some 5) #[true,true,true,true,true,true,true,true,true,true,true,true,true,true,true,true,false,false,false] rfl rfl (by kernel_rfl) (by decide) (fun K hK => ?_)
   refine box_step ?hw (N := 5) ?hd (cs := #[.int .i64 0, .slice none 0 0]) (t := 56) ?hr ?_
   (case hw => rfl)
   (case hd => rfl)
   (case hr => first | (go_simp; done) | (go_simp; rfl))
   intro g5 hg w4 hbox hb
   have HS0_ := (hb.cell (World.block_lt_of_cell? _ _ hHeld.1)).trans hHeld.1
   have HS1_ := (hb.cell (World.block_lt_of_cell? _ _ hHeld.2.1)).trans hHeld.2.1
   have HS2_ := (hb.cell (World.block_lt_of_cell? _ _ hHeld.2.2.1)).trans hHeld.2.2.1
   have HS3_ := (hb.cell (World.block_lt_of_cell? _ _ hHeld.2.2.2.1)).trans hHeld.2.2.2.1
   have HS4_ := (hb.cell (World.block_lt_of_cell? _ _ hHeld.2.2.2.2)).trans hHeld.2.2.2.2
   have K5 := Aside0.mk hbox
   have G5 := Aside0.mk (show w.heap.size ≤ g5 by rw [hg]; exact below_size HBw.out)
   have n0_ := Aside0.mk (below_step HBw.out hb)
   have m1_ := Aside0.mk (Kd.R_below HR1.out hb)
   have m2_ := Aside0.mk (Kd.R_below HR2.out hb)
   clear HR1 HR2
   have HR1 := m1_
   have HR2 := m2_
   clear m1_ m2_
   have m3_ := Aside0.mk (blk_below K3.out hb)
   clear HBw hHeld hbox hg hb K3
   have HBw := n0_
   have K3 := m3_
   clear n0_ m3_
   refine hK.out _ _ ⟨HS0_, HS1_, HS2_, HS3_, HS4_⟩ (fun hHeld => ?_)
   clear hK K
   refine norm_ (a' := ?_) ?_ ?_
   rotate_left
   ·show Act.put _ (some 5) _ = _
    simp only [Act.put, setIfInBounds_toArray, set_cons_zero, set_cons_succ, i64_w, i32_w]
    rfl
   exact norm_ (by simp only [putAll, Act.put, setIfInBounds_toArray, set_cons_zero, set_cons_succ]) (hCont ⟨Ao, co, Al, cl, g5⟩ _ ⟨HBw.out, HR1.out, HR2.out, K5.out, G5.out, K3.out⟩)
  ·skip
   refine box_step ?hw (N := 5) ?hd (cs := #[.int .i64 0, .slice none 0 0]) (t := 56) ?hr ?_
   (case hw => rfl)
   (case hd => rfl)
   (case hr => first | (go_simp; done) | (go_simp; rfl))
   intro g5 hg w4 hbox hb
   have HS0_ := (hb.cell (World.block_lt_of_cell? _ _ hHeld.1)).trans hHeld.1
   have HS1_ := (hb.cell (World.block_lt_of_cell? _ _ hHeld.2.1)).trans hHeld.2.1
   have HS2_ := (hb.cell (World.block_lt_of_cell? _ _ hHeld.2.2.1)).trans hHeld.2.2.1
   have HS3_ := (hb.cell (World.block_lt_of_cell? _ _ hHeld.2.2.2.1)).trans hHeld.2.2.2.1
   have HS4_ := (hb.cell (World.block_lt_of_cell? _ _ hHeld.2.2.2.2)).trans hHeld.2.2.2.2
   have K5 := Aside0.mk hbox
   have G5 := Aside0.mk (show w.heap.size ≤ g5 by rw [hg]; exact below_size HBw.out)
   have n0_ := Aside0.mk (below_step HBw.out hb)
   have m3_ := Aside0.mk (blk_below K3.out hb)
   clear HBw hHeld hbox hg hb K3
   have HBw := n0_
   have K3 := m3_
   clear n0_ m3_
   refine hK.out _ _ ⟨HS0_, HS1_, HS2_, HS3_, HS4_⟩ (fun hHeld => ?_)
   clear hK K
   refine norm_ (a' := ?_) ?_ ?_
   rotate_left
   ·show Act.put _ (some 5) _ = _
    simp only [Act.put, setIfInBounds_toArray, set_cons_zero, set_cons_succ, i64_w, i32_w]
    rfl
   refine one_ (i := 10) (N := some 20) #[true,true,true,true,true,true,true,true,true,true,true,false,false,false,false,true,false,false,false] rfl rfl (by kernel_rfl) (by decide) (fun K hK => ?_)
   refine goes_ Try.func43 (by kernel_rfl) rfl #[.agg #[.int .i64 c.f0, .slice A1 c.f1.length c1], .int .i64 mass] (by rfl) rfl rfl (by simp only [List.map_toArray, List.map_cons, List.map_nil]; rfl) ?_
   with_reducible refine (chest_Draw.calls Kf c.f0 A1 c1 c.f1 mass r1 r2 r3 r4 _ (Kd.C_below HC1.out HBw.out) hc1 HF.out).mono ?_
   rintro e w3 ⟨v1, v2, rfl, hR1, hR2, hb⟩
   obtain ⟨Ao, co, eo⟩ := Kd.R_slice hR1
   subst eo
   obtain ⟨Al, cl, el⟩ := Kd.R_slice hR2
   subst el
   refine ⟨_, rfl, ?_⟩
   have HS0_ := (hb.cell (World.block_lt_of_cell? _ _ hHeld.1)).trans hHeld.1
   have HS1_ := (hb.cell (World.block_lt_of_cell? _ _ hHeld.2.1)).trans hHeld.2.1
   have HS2_ := (hb.cell (World.block_lt_of_cell? _ _ hHeld.2.2.1)).trans hHeld.2.2.1
   have HS3_ := (hb.cell (World.block_lt_of_cell? _ _ hHeld.2.2.2.1)).trans hHeld.2.2.2.1
   have HS4_ := (hb.cell (World.block_lt_of_cell? _ _ hHeld.2.2.2.2)).trans hHeld.2.2.2.2
   have n0_ := Aside0.mk (below_step HBw.out hb)
   have HR1 := Aside0.mk (Kd.R_mono (ok' := fun _ => True) (Kd.R_lower hR1 (below_size HBw.out)) (fun _ _ => trivial))
   have HR2 := Aside0.mk (Kd.R_mono (ok' := fun _ => True) (Kd.R_lower hR2 (below_size HBw.out)) (fun _ _ => trivial))
   have m0_ := Aside0.mk (blk_below K5.out hb)
   clear K5
   have K5 := m0_
   clear m0_
   have m3_ := Aside0.mk (blk_below K3.out hb)
   clear HBw hHeld hR1 hR2 hb K3
   have HBw := n0_
   have K3 := m3_
   clear n0_ m3_
   refine hK.out _ _ ⟨HS0_, HS1_, HS2_, HS3_, HS4_⟩ (fun hHeld => ?_)
   clear hK K
   refine norm_ (a' := ?_) ?_ ?_
   rotate_left
   ·show Act.put _ (some 20) _ = _
    simp only [Act.put, setIfInBounds_toArray, set_cons_zero, set_cons_succ, i64_w, i32_w]
    rfl
   refine pure_ (i := 11) (N := some 9) (v := ?_) (a' := ?_) #[true,true,true,true,true,true,true,true,true,true,true,true,false,false,false,true,false,false,false] rfl rfl (by kernel_rfl) (fun _ _ _ h => h) (Or.inl ⟨by rfl, ?_⟩) ?_ ?_
   rotate_left
   ·intro w'; go_simp; with_reducible rfl
   rotate_left
   ·simp only [Act.put, setIfInBounds_toArray, set_cons_zero, set_cons_succ, i64_w, i32_w]; rfl
   refine pure_ (i := 12) (N := some 21) (v := ?_) (a' := ?_) #[true,true,true,true,true,true,true,true,true,true,true,true,true,false,false,true,false,false,false] rfl rfl (by kernel_rfl) (fun _ _ _ h => h) (Or.inl ⟨by rfl, ?_⟩) ?_ ?_
   rotate_left
   ·intro w'; go_simp; with_reducible rfl
   rotate_left
   ·simp only [Act.put, setIfInBounds_toArray, set_cons_zero, set_cons_succ, i64_w, i32_w]; rfl
   refine pure_ (i := 13) (N := some 22) (v := ?_) (a' := ?_) #[true,true,true,true,true,true,true,true,true,true,true,true,true,true,false,true,false,false,false] rfl rfl (by kernel_rfl) (fun _ _ _ h => h) (Or.inl ⟨by rfl, ?_⟩) ?_ ?_
   rotate_left
   ·intro w'; go_simp; with_reducible rfl
   rotate_left
   ·simp only [Act.put, setIfInBounds_toArray, set_cons_zero, set_cons_succ, i64_w, i32_w]; rfl
   refine pure_ (i := 14) (N := some 23) (v := ?_) (a' := ?_) #[true,true,true,true,true,true,true,true,true,true,true,true,true,true,true,true,false,false,false] rfl rfl (by kernel_rfl) (fun _ _ _ h => h) (Or.inl ⟨by rfl, ?_⟩) ?_ ?_
   rotate_left
   ·intro w'; go_simp; with_reducible rfl
   rotate_left
   ·simp only [Act.put, setIfInBounds_toArray, set_cons_zero, set_cons_succ, i64_w, i32_w]; rfl
   exact norm_ (by simp only [putAll, Act.put, setIfInBounds_toArray, set_cons_zero, set_cons_succ]) (hCont ⟨Ao, co, Al, cl, g5⟩ _ ⟨HBw.out, HR1.out, HR2.out, K5.out, G5.out, K3.out⟩)
 rintro ⟨Ao, co, Al, cl, g5⟩ w5 ⟨hBw5, hR15, hR25, hK5, hG5, hK3⟩
 have HBw5 := Aside0.mk hBw5
 have HR1 := Aside0.mk hR15
 have HR2 := Aside0.mk hR25
 have K5 := Aside0.mk hK5
 have G5 := Aside0.mk hG5
 have K3 := Aside0.mk hK3
 clear hBw5 hR15 hR25 hK5 hG5 hK3
 have c50 : w5.cell? ⟨g5, 0, none⟩ = some (.int .i64 0) := (blk_cell K5.out 0).trans rfl
 have c51 : w5.cell? ⟨g5, 1, none⟩ = some (.slice none 0 0) := (blk_cell K5.out 1).trans rfl
 have f50 := blk_frozen K5.out 0
 have f51 := blk_frozen K5.out 1
 refine norm_ (a' := ?_) ?_ ?_
 rotate_left
 ·simp only [putAll, Act.put, setIfInBounds_toArray, set_cons_zero, set_cons_succ]
  rfl
 refine last_ (i := 16) (N := none) #[true,true,true,true,true,true,true,true,true,true,true,true,true,true,true,true,true,false,false] rfl rfl (by kernel_rfl) (by decide) (fun K hK => ?_)
 refine skip_ (w1 := ?_) (by rfl) rfl ?_ ?_
 rotate_left
 ·go_simp
  rfl
 refine hK.out _ _ ?_
 clear hK K
 refine pure_ (i := 17) (N := some 6) (v := ?_) (a' := ?_) #[true,true,true,true,true,true,true,true,true,true,true,true,true,true,true,true,true,true,false] rfl rfl (by kernel_rfl) (fun _ _ _ h => h) (Or.inl ⟨by rfl, ?_⟩) ?_ ?_
 rotate_left
 ·intro w'; go_simp; with_reducible rfl
 rotate_left
 ·simp only [Act.put, setIfInBounds_toArray, set_cons_zero, set_cons_succ, i64_w, i32_w]; rfl
 refine pure_ (i := 18) (N := some 7) (v := ?_) (a' := ?_) #[true,true,true,true,true,true,true,true,true,true,true,true,true,true,true,true,true,true,true] rfl rfl (by kernel_rfl) (fun _ _ _ h => h) (Or.inl ⟨by rfl, ?_⟩) ?_ ?_
 rotate_left
 ·intro w'; go_simp; with_reducible rfl
 rotate_left
 ·simp only [Act.put, setIfInBounds_toArray, set_cons_zero, set_cons_succ, i64_w, i32_w]; rfl
 refine done_ (by kernel_rfl) ?_
 have NR1 := Kd.R_types HR1.out K5.out (by intro q hq; rw [show (Kd.int .i64).E = [] from rfl, List.mem_singleton] at hq; subst hq; decide)
 have NR2 := Kd.R_types HR2.out K5.out (by intro q hq; rw [show (Kd.int .i64).E = [] from rfl, List.mem_singleton] at hq; subst hq; decide)
 have HR16 := Aside0.mk (Kd.R_far (p := ⟨g5, 1, none⟩) (Kd.R_far (p := ⟨g5, 0, none⟩) NR1 (fun k hk => hk.2) (.int .i64 r1)) (fun k hk => hk.2) (.slice Ao r2.length co))
 have HR26 := Aside0.mk (Kd.R_far (p := ⟨g5, 1, none⟩) (Kd.R_far (p := ⟨g5, 0, none⟩) NR2 (fun k hk => hk.2) (.int .i64 r1)) (fun k hk => hk.2) (.slice Ao r2.length co))
 have HBw6 := Aside0.mk (below_set (j := 1) (v := .slice Ao r2.length co) (below_set (j := 0) (v := .int .i64 r1) HBw5.out G5.out) G5.out)
 have K56 := Aside0.mk (blk_put (blk_put K5.out 0 (.int .i64 r1) rfl) 1 (.slice Ao r2.length co) rfl)
 have n35 := blk_ne K3.out K5.out (by decide)
 have K36 := Aside0.mk (blk_far (p := ⟨g5, 1, none⟩) (blk_far (p := ⟨g5, 0, none⟩) K3.out n35 (.int .i64 r1)) n35 (.slice Ao r2.length co))
 clear NR1 NR2 n35 HR1 HR2 HBw5 K5 K3 c50 c51 f50 f51
 generalize World.setCell (World.setCell w5 _ _) _ _ = w6 at *
 by_cases cr : r4 = 0
 ·subst cr
  have HP6 := Aside0.mk (HP.out.below HBw6.out)
  obtain ⟨cl2, hcl, hfk, hcc, hfr2⟩ := Kd.N_elem HP6.out.hc ⟨0, []⟩ (fr : Int) (by omega) (by show (fr : Int) < (s.chests.length : Int); omega)
  rw [Int.toNat_natCast, HCI.out] at hfk
  rw [Int.toNat_natCast] at hcc hfr2
  obtain ⟨A1, c1, rfl, hc1', hF1⟩ := k56_openF hfk
  have e0 : w6.cell? ⟨gc, fr * 2, none⟩ = some (.int .i64 c.f0) := hcc 0 _ rfl
  have e1 : w6.cell? ⟨gc, fr * 2 + 1, none⟩ = some (.slice A1 c.f1.length c1) := hcc 1 _ rfl
  have z0 : w6.frozen? ⟨gc, fr * 2, none⟩ = false := hfr2 0
  have z1 : w6.frozen? ⟨gc, fr * 2 + 1, none⟩ = false := hfr2 1
  have c4 : w6.cell? ⟨gx, 4, none⟩ = some (.slice (some ⟨gc, 0, none⟩) s.chests.length cc) := (blk_cell HP6.out.kx 4).trans rfl
  have c30 : w6.cell? ⟨g3, 0, none⟩ = some (.int .i64 fr) := (blk_cell K36.out 0).trans rfl
  have c50 : w6.cell? ⟨g5, 0, none⟩ = some (.int .i64 r1) := (blk_cell K56.out 0).trans rfl
  have c51 : w6.cell? ⟨g5, 1, none⟩ = some (.slice Ao r2.length co) := (blk_cell K56.out 1).trans rfl
  clear hcl hfk hcc hfr2 hF1 hc1'
  go_wp2
  refine start_ (n := 9) (S := fun w' => w'.cell? ⟨gx, 4, none⟩ = some (.slice (some ⟨gc, 0, none⟩) s.chests.length cc) ∧ w'.cell? ⟨g3, 0, none⟩ = some (.int .i64 fr) ∧ w'.cell? ⟨g5, 0, none⟩ = some (.int .i64 r1) ∧ w'.cell? ⟨g5, 1, none⟩ = some (.slice Ao r2.length co)) (ds := [8]) #[false,false,false,false,false,false,false,false,false] (by kernel_rfl) rfl rfl ⟨(show w6.drew.cell? _ = _ from c4), (show w6.drew.cell? _ = _ from c30), (show w6.drew.cell? _ = _ from c50), (show w6.drew.cell? _ = _ from c51)⟩ (fun hHeld => ?_)
  replace e0 : w6.drew.cell? ⟨gc, fr * 2, none⟩ = some (.int .i64 c.f0) := e0
  replace e1 : w6.drew.cell? ⟨gc, fr * 2 + 1, none⟩ = some (.slice A1 c.f1.length c1) := e1
  replace z0 : w6.drew.frozen? ⟨gc, fr * 2, none⟩ = false := z0
  replace z1 : w6.drew.frozen? ⟨gc, fr * 2 + 1, none⟩ = false := z1
  have HP7 := Aside0.mk HP6.out.drew
  have HBw7 := Aside0.mk (below_drew HBw6.out)
  have HR17 := Aside0.mk (Kd.R_drew HR16.out)
  have HR27 := Aside0.mk (Kd.R_drew HR26.out)
  have K37 := Aside0.mk (blk_drew K36.out)
  clear c4 c30 c50 c51 HP6 HBw6 HR16 HR26 K36 K56
  generalize w6.drew = w7 at HP7 HBw7 HR17 HR27 K37 e0 e1 z0 z1 hHeld ⊢
  refine pure_ (i := 0) (N := some 27) (v := ?_) (a' := ?_) #[true,false,false,false,false,false,false,false,false] rfl rfl (by kernel_rfl) (fun _ _ _ h => h) (Or.inl ⟨by rfl, ?_⟩) ?_ ?_
  rotate_left
  ·intro w'; go_simp; with_reducible rfl
  rotate_left
  ·simp only [Act.put, setIfInBounds_toArray, set_cons_zero, set_cons_succ, i64_w, i32_w]; rfl
  refine pure_ (i := 1) (N := some 28) (v := ?_) (a' := ?_) #[true,true,false,false,false,false,false,false,false] rfl rfl (by kernel_rfl) (fun _ _ _ h => h) (Or.inl ⟨by rfl, ?_⟩) ?_ ?_
  rotate_left
  ·intro w'; go_simp; with_reducible rfl
  rotate_left
  ·simp only [Act.put, setIfInBounds_toArray, set_cons_zero, set_cons_succ, i64_w, i32_w]; rfl
  refine pure_ (i := 2) (N := some 29) (v := ?_) (a' := ?_) #[true,true,true,false,false,false,false,false,false] rfl rfl (by kernel_rfl) (fun _ _ _ h => h) (Or.inl ⟨by rfl, ?_⟩) ?_ ?_
  rotate_left
  ·intro w'; go_simp; with_reducible rfl
  rotate_left
  ·simp only [Act.put, setIfInBounds_toArray, set_cons_zero, set_cons_succ, i64_w, i32_w]; rfl
  refine pure_ (i := 4) (N := some 31) (v := ?_) (a' := ?_) #[true,true,true,false,true,false,false,false,false] rfl rfl (by kernel_rfl) (fun _ _ _ h => h) (Or.inl ⟨by rfl, ?_⟩) ?_ ?_
  rotate_left
  ·intro w'; go_simp; with_reducible rfl
  rotate_left
  ·simp only [Act.put, setIfInBounds_toArray, set_cons_zero, set_cons_succ, i64_w, i32_w]; rfl
  refine take_ (i := 3) (N := some 30) (v := ?_) (a' := ?_) #[true,true,true,true,true,false,false,false,false] rfl rfl (by kernel_rfl) (fun _ _ _ h => h) (Or.inl ⟨by rfl, ?_⟩) hHeld ?_ ?_
  rotate_left
  ·rintro w' ⟨s0, s1, s2, s3⟩; go_simp; with_reducible rfl
  rotate_left
  ·simp only [Act.put, setIfInBounds_toArray, set_cons_zero, set_cons_succ, i64_w, i32_w]; rfl
  refine take_ (i := 5) (N := some 32) (v := ?_) (a' := ?_) #[true,true,true,true,true,true,false,false,false] rfl rfl (by kernel_rfl) (fun _ _ _ h => h) (Or.inl ⟨by rfl, ?_⟩) hHeld ?_ ?_
  rotate_left
  ·rintro w' ⟨s0, s1, s2, s3⟩; go_simp; with_reducible rfl
  rotate_left
  ·simp only [Act.put, setIfInBounds_toArray, set_cons_zero, set_cons_succ, i64_w, i32_w]; rfl
  refine take_ (i := 6) (N := some 33) (v := ?_) (a' := ?_) #[true,true,true,true,true,true,true,false,false] rfl rfl (by kernel_rfl) (fun _ _ _ h => h) (Or.inl ⟨by rfl, ?_⟩) hHeld ?_ ?_
  rotate_left
  ·rintro w' ⟨s0, s1, s2, s3⟩; go_simp; with_reducible rfl
  rotate_left
  ·simp only [Act.put, setIfInBounds_toArray, set_cons_zero, set_cons_succ, i64_w, i32_w]; rfl
  refine pure_ (i := 7) (N := some 34) (v := ?_) (a' := ?_) #[true,true,true,true,true,true,true,true,false] rfl rfl (by kernel_rfl) (fun _ _ _ h => h) (Or.inl ⟨by rfl, ?_⟩) ?_ ?_
  rotate_left
  ·intro w'; go_simp; with_reducible rfl
  rotate_left
  ·simp only [Act.put, setIfInBounds_toArray, set_cons_zero, set_cons_succ, i64_w, i32_w]; rfl
  refine last_ (i := 8) (N := none) #[true,true,true,true,true,true,true,true,true] rfl rfl (by kernel_rfl) (by decide) (fun K hK => ?_)
  refine skip_ (w1 := ?_) (by rfl) rfl ?_ ?_
  rotate_left
  ·go_simp
   rfl
  refine hK.out _ _ ?_
  clear hK K
  refine done_ (by kernel_rfl) ?_
  have HFK7 := Aside0.mk (Kd.FK_of_M (k56_mkM w7 w.heap.size (fun k => some k = (Value.slice Ao r2.length co).ownBlock) ⟨r1, r2⟩ (Kd.R_tight rfl HR17.out)))
  have hQ := HP7.out.setc fr hfr ⟨r1, r2⟩ (v := .slice Ao r2.length co) HFK7.out (fun k hk => HMU.out k (Kd.R_base HR17.out k hk.symm))
  have HQ8 := Aside0.mk hQ
  have HB8 := Aside0.mk (below_set (j := fr * 2 + 1) (v := .slice Ao r2.length co) (below_set (j := fr * 2) (v := .int .i64 r1) (below_step HB.out HBw7.out) HP.out.bc) HP.out.bc)
  have HK8 := Aside0.mk (((Kept.of_below HBw7.out (PX.mu ⟨gx, gc, cc, gf, cf, gm, cm, CA, cn, ck, PA, pc, QA, qc⟩)).setCell (p := ⟨gc, fr * 2, none⟩) (.inl (.inr (.inl rfl))) (.int .i64 r1)).setCell (p := ⟨gc, fr * 2 + 1, none⟩) (.inl (.inr (.inl rfl))) (.slice Ao r2.length co))
  have ngc : ∀ k, w.heap.size ≤ k → k ≠ gc := fun k hk e => (HMU.out k hk).1 (.inr (.inl e))
  have HR28 := Aside0.mk (Kd.R_far (p := ⟨gc, fr * 2 + 1, none⟩) (Kd.R_far (p := ⟨gc, fr * 2, none⟩) (Kd.R_mono (ok' := fun k => w.heap.size ≤ k) (Kd.R_tight rfl HR27.out) (fun k hk => Kd.R_base HR27.out k hk.symm)) (fun k hk => ngc k hk) (.int .i64 r1)) (fun k hk => ngc k hk) (.slice Ao r2.length co))
  have n3 := ngc g3 G3.out
  have K38 := Aside0.mk (blk_far (p := ⟨gc, fr * 2 + 1, none⟩) (blk_far (p := ⟨gc, fr * 2, none⟩) K37.out n3 (.int .i64 r1)) n3 (.slice Ao r2.length co))
  clear hQ ngc n3 HP7 HBw7 HR17 HR27 K37 HFK7 e0 e1 z0 z1
  simp only [] at HQ8
  generalize World.setCell (World.setCell w7 _ _) _ _ = w8 at *
  have c31 : w8.cell? ⟨g3, 1, none⟩ = some (.int .i64 dst) := (blk_cell K38.out 1).trans rfl
  have eg44 : ∀ args w, (callFunc 44 args).run Try.prog w = .ok (.enter 44 args) w := Go.Proofs.enters_of Try.func44 (by kernel_rfl) rfl
  have eg45 : ∀ args w, (callFunc 45 args).run Try.prog w = .ok (.enter 45 args) w := Go.Proofs.enters_of Try.func45 (by kernel_rfl) rfl
  by_cases cd : dst = -1
  ·subst cd
   have hp := HPU.out (by first | trivial | rfl) (by first | trivial | rfl)
   have hc := ppush_calls Kf ex _ _ w0 w8 HQ8.out HB8.out (-1) Al cl r3 (Kd.R_reads' HR28.out).2.2 (Kd.R_reads' HR28.out).2.1 n hp.1 md hp.2
   simp only [] at hc
   clear hp
   go_wp2_with fail
   refine hc.mono ?_
   rintro e w9 ⟨hb9, hk9, hm9⟩
   have HB9 := Aside0.mk hb9
   have HK9 := Aside0.mk (HK8.out.then_ hk9 (fun k hk => .inl hk))
   have HM9 := Aside0.mk hm9
   clear hb9 hk9 hm9 hc
   cases hpa : pushA s.hold n s.plugs r3 with
   | none =>
    have hm := HM9.out
    rw [hpa] at hm
    simp only [] at hm
    subst hm
    have HPA := Aside0.mk hpa
    clear hpa HM9
    go_wp2
    go_ret
    exact ⟨HB9.out, HK9.out, fun h => absurd rfl h, fun _ _ _ => rfl, (fun _ _ outs left h => by rw [HPA.out] at h; cases h), fun _ h => absurd rfl h, fun _ h => absurd rfl h⟩
   | some r =>
    obtain ⟨outs, left⟩ := r
    have hm := HM9.out
    rw [hpa] at hm
    simp only [] at hm
    obtain ⟨hm1, QA1, qc1, hm2⟩ := hm
    subst hm1
    have HM2 := Aside0.mk hm2
    have HPA := Aside0.mk hpa
    clear hpa HM9 hm2
    go_wp2
    go_ret
    exact ⟨HB9.out, HK9.out, fun h => absurd rfl h, (fun _ _ h => by rw [HPA.out] at h; cases h), (fun _ _ outs' left' h => by rw [HPA.out] at h; cases h; exact ⟨rfl, QA1, qc1, HM2.out⟩), fun _ h => absurd rfl h, fun _ h => absurd rfl h⟩
  ·have d2 : (dst == -1) = false := beq_eq_false_iff_ne.mpr cd
   have hp := HST.out (by first | trivial | rfl) cd
   obtain ⟨hd, hti, hgt, hff⟩ := hp
   have hc := store_calls Kf ex _ _ w0 w8 HQ8.out HB8.out ti (by simp only [List.length_set]; exact hti) t hgt Al cl r3 (Kd.R_reads' HR28.out).2.2 (Kd.R_reads' HR28.out).2.1 q1 q2 q3 hff
   simp only [] at hc
   rw [← hd] at hc
   clear hd hti hgt hff
   go_wp2_with fail
   refine hc.mono ?_
   rintro e w9 ⟨rfl, hb9, hk9, hm9⟩
   have HB9 := Aside0.mk hb9
   have HK9 := Aside0.mk (HK8.out.then_ hk9 (fun k hk => .inl (.inr (.inl hk))))
   have HM9 := Aside0.mk hm9
   clear hb9 hk9 hm9 hc
   go_wp2
   go_ret
   exact ⟨HB9.out, HK9.out, fun h => absurd rfl h, fun _ h => absurd h cd, fun _ h => absurd h cd, fun _ _ => rfl, fun _ _ h => HM9.out h⟩
 ·have d0 : (r4 == 0) = false := beq_eq_false_iff_ne.mpr cr
  have d1 : (r4 != 0) = true := bne_iff_ne.mpr cr
  go_wp2
  go_ret
  exact ⟨below_step HB.out HBw6.out, Kept.of_below HBw6.out _, fun _ => rfl, fun h => absurd h cr, fun h => absurd h cr, fun h => absurd h cr, fun h => absurd h cr⟩
end Go.Proofs.Ytgbjlcaanagfnaa.P

namespace Go.Proofs.Ytgbjlcaanagfnaa.P
open Go.RowKit Go.Proofs.YtgbjlcaanagfnaaW.PrintWords Go.Proofs.YtgbjlcaanagfnaaW.PrintLast Go.Proofs.YtgbjlcaanagfnaaW.PrintMore
set_option linter.unusedVariables false
set_option linter.unusedSimpArgs false

/-- What a pump does: some none: an error. -/
def pumpF (K n : Nat) (s : Pl) (p : Int × Int × Int) : Option (Option Pl) :=
 match chest_Draw.f K (s.chests.getD p.1.toNat ⟨0, []⟩).f0 (s.chests.getD p.1.toNat ⟨0, []⟩).f1 p.2.2 with
 | none => none
 | some (r1, r2, r3, r4) =>
  if r4 = 0 then
   if p.2.1 = -1 then
    match pushA s.hold n s.plugs r3 with
    | none => some none
    | some (outs, left) => match prep_add.f K s.made left with
     | none => none
     | some md => some (some { s with chests := s.chests.set p.1.toNat ⟨r1, r2⟩, plugs := outs, made := md })
   else
    match chest_Fill.f K ((s.chests.set p.1.toNat ⟨r1, r2⟩).getD p.2.1.toNat ⟨0, []⟩).f0 ((s.chests.set p.1.toNat ⟨r1, r2⟩).getD p.2.1.toNat ⟨0, []⟩).f1 r3 with
    | none => none
    | some (q1, q2, q3) => if q3 = 0 then some (some { s with chests := (s.chests.set p.1.toNat ⟨r1, r2⟩).set p.2.1.toNat ⟨q1, q2⟩ }) else some none
  else some none
structure PumpOk (K n : Nat) (s : Pl) (p : Int × Int × Int) : Prop where
 fr0 : 0 ≤ p.1
 fr1 : p.1.toNat < s.chests.length
 dst : p.2.1 = -1 ∨ (0 ≤ p.2.1 ∧ p.2.1.toNat < s.chests.length)
 push : ∀ r1 r2 r3, chest_Draw.f K (s.chests.getD p.1.toNat ⟨0, []⟩).f0 (s.chests.getD p.1.toNat ⟨0, []⟩).f1 p.2.2 = some (r1, r2, r3, 0) → p.2.1 = -1 → okPush K s.hold s.plugs r3 n
 add : ∀ l md, prep_add.f K s.made l = some md → md.length = s.made.length
theorem pump_calls (K n : Nat) (ex : Nat → Prop) (g : PX) (s : Pl) (w0 w : World) (hP : PAt w w0.heap.size ex g s) (hB : Below w0.heap.size w0 w) (p : Int × Int × Int) (r : Option Pl) (h : pumpF K n s p = some r) (hok : PumpOk K n s p) :
  Calls Try.prog 24 #[.pointer (some ⟨g.gx, 0, none⟩), .agg #[.int .i64 p.1, .int .i64 p.2.1, .int .i64 p.2.2]] w fun e w' => Below w0.heap.size w0 w' ∧ Kept w w' g.mu ∧ (r = none → ∃ q : Int, q ≠ 0 ∧ e = .returned (.int .i64 q)) ∧ ∀ s', r = some s' → e = .returned (.int .i64 0) ∧ ∃ QA qc, PAt w' w0.heap.size ex { g with QA := QA, qc := qc } s' := by
 obtain ⟨fr, dst, mass⟩ := p
 obtain ⟨h0, h1, h2, h3, h4⟩ := hok
 simp only [] at h0 h1 h2 h3
 unfold pumpF at h
 simp only [] at h
 have hfr : ((fr.toNat : Nat) : Int) = fr := Int.toNat_of_nonneg h0
 cases hd : chest_Draw.f K (s.chests.getD fr.toNat ⟨0, []⟩).f0 (s.chests.getD fr.toNat ⟨0, []⟩).f1 mass with
 | none => rw [hd] at h; cases h
 | some q =>
  obtain ⟨r1, r2, r3, r4⟩ := q
  rw [hd] at h
  simp only [] at h
  by_cases c4 : r4 = 0
  ·subst c4
   rw [if_pos rfl] at h
   by_cases cd : dst = -1
   ·rw [if_pos cd] at h
    have hop := h3 r1 r2 r3 hd cd
    cases hpa : pushA s.hold n s.plugs r3 with
    | none =>
     rw [hpa] at h
     cases h
     have hw := pump_walk K ex g s w0 w hP hB fr.toNat h1 _ rfl dst mass r1 r2 r3 0 hd n [] (fun _ _ => ⟨hop, fun o l e => by rw [hpa] at e; cases e⟩) 0 ⟨0, []⟩ 0 [] 0 (fun _ hne => absurd cd hne)
     rw [hfr] at hw
     refine hw.mono fun e w' k => ⟨k.below, k.kept, fun _ => ⟨8, by omega, k.none rfl cd hpa⟩, fun s' e => by cases e⟩
    | some ol =>
     obtain ⟨outs, left⟩ := ol
     rw [hpa] at h
     simp only [] at h
     cases had : prep_add.f K s.made left with
     | none => rw [had] at h; cases h
     | some md =>
      rw [had] at h
      cases h
      have hw := pump_walk K ex g s w0 w hP hB fr.toNat h1 _ rfl dst mass r1 r2 r3 0 hd n md (fun _ _ => ⟨hop, fun o l e => by rw [hpa] at e; cases e; exact ⟨had, h4 _ _ had⟩⟩) 0 ⟨0, []⟩ 0 [] 0 (fun _ hne => absurd cd hne)
      rw [hfr] at hw
      refine hw.mono fun e w' k => ⟨k.below, k.kept, (fun e => by cases e), fun s' e => by cases e; exact k.push rfl cd outs left hpa⟩
   ·rw [if_neg cd] at h
    have hdst := h2.elim (fun e => absurd e cd) id
    cases hf : chest_Fill.f K ((s.chests.set fr.toNat ⟨r1, r2⟩).getD dst.toNat ⟨0, []⟩).f0 ((s.chests.set fr.toNat ⟨r1, r2⟩).getD dst.toNat ⟨0, []⟩).f1 r3 with
    | none => rw [hf] at h; cases h
    | some q =>
     obtain ⟨q1, q2, q3⟩ := q
     rw [hf] at h
     simp only [] at h
     have hw := pump_walk K ex g s w0 w hP hB fr.toNat h1 _ rfl dst mass r1 r2 r3 0 hd n [] (fun _ e => absurd e cd) dst.toNat _ q1 q2 q3 (fun _ _ => ⟨(Int.toNat_of_nonneg hdst.1).symm, hdst.2, rfl, hf⟩)
     rw [hfr] at hw
     by_cases cq : q3 = 0
     ·rw [if_pos cq] at h
      cases h
      refine hw.mono fun e w' k => ⟨k.below, k.kept, (fun e => by cases e), fun s' e => by cases e; exact ⟨by rw [k.store rfl cd, cq], g.QA, g.qc, k.stored rfl cd cq⟩⟩
     ·rw [if_neg cq] at h
      cases h
      refine hw.mono fun e w' k => ⟨k.below, k.kept, fun _ => ⟨q3, cq, k.store rfl cd⟩, fun s' e => by cases e⟩
  ·rw [if_neg c4] at h
   cases h
   have hw := pump_walk K ex g s w0 w hP hB fr.toNat h1 _ rfl dst mass r1 r2 r3 r4 hd n [] (fun e => absurd e c4) 0 ⟨0, []⟩ 0 [] 0 (fun e => absurd e c4)
   rw [hfr] at hw
   refine hw.mono fun e w' k => ⟨k.below, k.kept, fun _ => ⟨r4, c4, k.err c4⟩, fun s' e => by cases e⟩

/-- All pumps, one after the other. -/
def stepF (K n : Nat) : List (Int × Int × Int) → Pl → Option (Option Pl)
 | [], s => some (some s)
 | p :: ps, s => match pumpF K n s p with
  | none => none
  | some none => some none
  | some (some s') => stepF K n ps s'
def StepOk (K n : Nat) : List (Int × Int × Int) → Pl → Prop
 | [], _ => True
 | p :: ps, s => PumpOk K n s p ∧ ∀ s', pumpF K n s p = some (some s') → StepOk K n ps s'
/-- What a pump leaves alone. -/
theorem pump_same {K n : Nat} {s s' : Pl} {p : Int × Int × Int} (h : pumpF K n s p = some (some s')) (hok : PumpOk K n s p) : s'.kinds = s.kinds ∧ s'.hold = s.hold ∧ s'.pumps = s.pumps ∧ s'.chests.length = s.chests.length ∧ s'.fed = s.fed ∧ s'.made.length = s.made.length := by
 unfold pumpF at h
 split at h
 ·cases h
 ·split at h
  ·split at h
   ·split at h
    ·cases h
    ·split at h
     ·cases h
     ·rename_i hadd
      cases h
      exact ⟨rfl, rfl, rfl, by simp, rfl, hok.add _ _ hadd⟩
   ·split at h
    ·cases h
    ·split at h
     ·cases h
      exact ⟨rfl, rfl, rfl, by simp, rfl, rfl⟩
     ·cases h
  ·cases h
end Go.Proofs.Ytgbjlcaanagfnaa.P
