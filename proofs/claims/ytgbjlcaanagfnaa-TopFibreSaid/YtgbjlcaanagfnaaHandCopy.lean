/- (*Plant).Copy: another plant of the same content. (*Plant).Step: all pumps at a copy; then the copy is the plant. (*Plant).Feed: masses are fed to a chest. (*Plant).Pipe: the content of the pipe; (*Plant).Chests: the parts of each chest. -/
import Derived.Test.YtgbjlcaanagfnaaPlantW
import Derived.Deep.QuietTactic
import Derived.BigQuiet
import Derived.RegionTactic
import Derived.WalkKit
import Derived.Test.YtgbjlcaanagfnaaHandStore
import Derived.Deep.LoopGhost
import Derived.Test.YtgbjlcaanagfnaaPx3
import Derived.Test.YtgbjlcaanagfnaaHandChest
namespace Go.Proofs.Ytgbjlcaanagfnaa.P
open Go.RowKit Go.Proofs.YtgbjlcaanagfnaaW.PrintWords Go.Proofs.YtgbjlcaanagfnaaW.PrintLast Go.Proofs.YtgbjlcaanagfnaaW.PrintMore
open List (setIfInBounds_toArray set_cons_zero set_cons_succ)
set_option linter.unusedVariables false
set_option linter.unusedSimpArgs false

set_option maxHeartbeats 1000000 in
set_option maxRecDepth 100000 in
theorem copy_calls (b : Nat) (ex : Nat → Prop) (g : PX) (s : Pl) (w : World) (hP : PAt w b ex g s) (hbw : b ≤ w.heap.size) (hch : 0 < s.chests.length) (hc1000 : s.chests.length ≤ 1000) (hfd : 0 < s.fed.length) (hfd2 : s.fed.length ≤ 1000) (hmd : 0 < s.made.length) (hmd2 : s.made.length ≤ 1000) :
  Calls Try.prog 23 #[.pointer (some ⟨g.gx, 0, none⟩)] w fun e w' => Below w.heap.size w w' ∧ ∃ g' : PX, e = .returned (.pointer (some ⟨g'.gx, 0, none⟩)) ∧ (∀ k, g'.mu k → w.heap.size ≤ k) ∧ PAt w' b (fun k => ex k ∨ k = g.gx) g' s := by
 obtain ⟨gx, gc, cc, gf, cf, gm, cm, CA, cn, ck, PA, pc, QA, qc⟩ := g
 have HQ := Aside0.mk hP
 have HP0 := Aside0.mk hP
 clear hP
 go_enter Try.func23, Try.ntmps23
 go_wp2
 refine start_ (n := 26) (S := fun w' => w'.cell? ⟨gx, 0, none⟩ = some (.int .i64 s.kinds) ∧ w'.cell? ⟨gx, 1, none⟩ = some (.slice CA cn ck) ∧ w'.cell? ⟨gx, 2, none⟩ = some (.slice PA s.pumps.length pc) ∧ w'.cell? ⟨gx, 3, none⟩ = some (.int .i64 s.hold) ∧ w'.cell? ⟨gx, 4, none⟩ = some (.slice (some ⟨gc, 0, none⟩) s.chests.length cc) ∧ w'.cell? ⟨gx, 5, none⟩ = some (.int .i64 s.hold) ∧ w'.cell? ⟨gx, 6, none⟩ = some (.slice QA s.plugs.length qc) ∧ w'.cell? ⟨gx, 7, none⟩ = some (.slice (some ⟨gf, 0, none⟩) s.fed.length cf) ∧ w'.cell? ⟨gx, 8, none⟩ = some (.slice (some ⟨gm, 0, none⟩) s.made.length cm)) (ds := []) #[false,false,false,false,false,false,false,false,false,false,false,false,false,false,false,false,false,false,false,false,false,false,false,false,false,false] (by kernel_rfl) rfl rfl ⟨(show w.drew.cell? _ = _ from (blk_cell HQ.out.kx 0).trans rfl), (show w.drew.cell? _ = _ from (blk_cell HQ.out.kx 1).trans rfl), (show w.drew.cell? _ = _ from (blk_cell HQ.out.kx 2).trans rfl), (show w.drew.cell? _ = _ from (blk_cell HQ.out.kx 3).trans rfl), (show w.drew.cell? _ = _ from (blk_cell HQ.out.kx 4).trans rfl), (show w.drew.cell? _ = _ from (blk_cell HQ.out.kx 5).trans rfl), (show w.drew.cell? _ = _ from (blk_cell HQ.out.kx 6).trans rfl), (show w.drew.cell? _ = _ from (blk_cell HQ.out.kx 7).trans rfl), (show w.drew.cell? _ = _ from (blk_cell HQ.out.kx 8).trans rfl)⟩ (fun hHeld => ?_)
 replace HQ := Aside0.mk HQ.out.drew
 have HBw := Aside0.mk (below_drew (Below.refl w.heap.size w))
 generalize w.drew = w1 at HQ HBw hHeld ⊢
 refine pure_ (i := 0) (N := some 6) (v := ?_) (a' := ?_) #[true,false,false,false,false,false,false,false,false,false,false,false,false,false,false,false,false,false,false,false,false,false,false,false,false,false] rfl rfl (by kernel_rfl) (fun _ _ _ h => h) (Or.inl ⟨by rfl, ?_⟩) ?_ ?_
 rotate_left
 ·intro w'; go_simp; with_reducible rfl
 rotate_left
 ·simp only [Act.put, setIfInBounds_toArray, set_cons_zero, set_cons_succ, i64_w, i32_w]; rfl
 refine pure_ (i := 1) (N := some 7) (v := ?_) (a' := ?_) #[true,true,false,false,false,false,false,false,false,false,false,false,false,false,false,false,false,false,false,false,false,false,false,false,false,false] rfl rfl (by kernel_rfl) (fun _ _ _ h => h) (Or.inl ⟨by rfl, ?_⟩) ?_ ?_
 rotate_left
 ·intro w'; go_simp; with_reducible rfl
 rotate_left
 ·simp only [Act.put, setIfInBounds_toArray, set_cons_zero, set_cons_succ, i64_w, i32_w]; rfl
 refine pure_ (i := 2) (N := some 8) (v := ?_) (a' := ?_) #[true,true,true,false,false,false,false,false,false,false,false,false,false,false,false,false,false,false,false,false,false,false,false,false,false,false] rfl rfl (by kernel_rfl) (fun _ _ _ h => h) (Or.inl ⟨by rfl, ?_⟩) ?_ ?_
 rotate_left
 ·intro w'; go_simp; with_reducible rfl
 rotate_left
 ·simp only [Act.put, setIfInBounds_toArray, set_cons_zero, set_cons_succ, i64_w, i32_w]; rfl
 refine pure_ (i := 4) (N := some 10) (v := ?_) (a' := ?_) #[true,true,true,false,true,false,false,false,false,false,false,false,false,false,false,false,false,false,false,false,false,false,false,false,false,false] rfl rfl (by kernel_rfl) (fun _ _ _ h => h) (Or.inl ⟨by rfl, ?_⟩) ?_ ?_
 rotate_left
 ·intro w'; go_simp; with_reducible rfl
 rotate_left
 ·simp only [Act.put, setIfInBounds_toArray, set_cons_zero, set_cons_succ, i64_w, i32_w]; rfl
 refine pure_ (i := 5) (N := some 11) (v := ?_) (a' := ?_) #[true,true,true,false,true,true,false,false,false,false,false,false,false,false,false,false,false,false,false,false,false,false,false,false,false,false] rfl rfl (by kernel_rfl) (fun _ _ _ h => h) (Or.inl ⟨by rfl, ?_⟩) ?_ ?_
 rotate_left
 ·intro w'; go_simp; with_reducible rfl
 rotate_left
 ·simp only [Act.put, setIfInBounds_toArray, set_cons_zero, set_cons_succ, i64_w, i32_w]; rfl
 refine pure_ (i := 6) (N := some 12) (v := ?_) (a' := ?_) #[true,true,true,false,true,true,true,false,false,false,false,false,false,false,false,false,false,false,false,false,false,false,false,false,false,false] rfl rfl (by kernel_rfl) (fun _ _ _ h => h) (Or.inl ⟨by rfl, ?_⟩) ?_ ?_
 rotate_left
 ·intro w'; go_simp; with_reducible rfl
 rotate_left
 ·simp only [Act.put, setIfInBounds_toArray, set_cons_zero, set_cons_succ, i64_w, i32_w]; rfl
 refine pure_ (i := 9) (N := some 15) (v := ?_) (a' := ?_) #[true,true,true,false,true,true,true,false,false,true,false,false,false,false,false,false,false,false,false,false,false,false,false,false,false,false] rfl rfl (by kernel_rfl) (fun _ _ _ h => h) (Or.inl ⟨by rfl, ?_⟩) ?_ ?_
 rotate_left
 ·intro w'; go_simp; with_reducible rfl
 rotate_left
 ·simp only [Act.put, setIfInBounds_toArray, set_cons_zero, set_cons_succ, i64_w, i32_w]; rfl
 refine pure_ (i := 10) (N := some 16) (v := ?_) (a' := ?_) #[true,true,true,false,true,true,true,false,false,true,true,false,false,false,false,false,false,false,false,false,false,false,false,false,false,false] rfl rfl (by kernel_rfl) (fun _ _ _ h => h) (Or.inl ⟨by rfl, ?_⟩) ?_ ?_
 rotate_left
 ·intro w'; go_simp; with_reducible rfl
 rotate_left
 ·simp only [Act.put, setIfInBounds_toArray, set_cons_zero, set_cons_succ, i64_w, i32_w]; rfl
 refine pure_ (i := 11) (N := some 17) (v := ?_) (a' := ?_) #[true,true,true,false,true,true,true,false,false,true,true,true,false,false,false,false,false,false,false,false,false,false,false,false,false,false] rfl rfl (by kernel_rfl) (fun _ _ _ h => h) (Or.inl ⟨by rfl, ?_⟩) ?_ ?_
 rotate_left
 ·intro w'; go_simp; with_reducible rfl
 rotate_left
 ·simp only [Act.put, setIfInBounds_toArray, set_cons_zero, set_cons_succ, i64_w, i32_w]; rfl
 refine pure_ (i := 13) (N := some 19) (v := ?_) (a' := ?_) #[true,true,true,false,true,true,true,false,false,true,true,true,false,true,false,false,false,false,false,false,false,false,false,false,false,false] rfl rfl (by kernel_rfl) (fun _ _ _ h => h) (Or.inl ⟨by rfl, ?_⟩) ?_ ?_
 rotate_left
 ·intro w'; go_simp; with_reducible rfl
 rotate_left
 ·simp only [Act.put, setIfInBounds_toArray, set_cons_zero, set_cons_succ, i64_w, i32_w]; rfl
 refine pure_ (i := 14) (N := some 20) (v := ?_) (a' := ?_) #[true,true,true,false,true,true,true,false,false,true,true,true,false,true,true,false,false,false,false,false,false,false,false,false,false,false] rfl rfl (by kernel_rfl) (fun _ _ _ h => h) (Or.inl ⟨by rfl, ?_⟩) ?_ ?_
 rotate_left
 ·intro w'; go_simp; with_reducible rfl
 rotate_left
 ·simp only [Act.put, setIfInBounds_toArray, set_cons_zero, set_cons_succ, i64_w, i32_w]; rfl
 refine pure_ (i := 15) (N := some 21) (v := ?_) (a' := ?_) #[true,true,true,false,true,true,true,false,false,true,true,true,false,true,true,true,false,false,false,false,false,false,false,false,false,false] rfl rfl (by kernel_rfl) (fun _ _ _ h => h) (Or.inl ⟨by rfl, ?_⟩) ?_ ?_
 rotate_left
 ·intro w'; go_simp; with_reducible rfl
 rotate_left
 ·simp only [Act.put, setIfInBounds_toArray, set_cons_zero, set_cons_succ, i64_w, i32_w]; rfl
 refine pure_ (i := 18) (N := some 24) (v := ?_) (a' := ?_) #[true,true,true,false,true,true,true,false,false,true,true,true,false,true,true,true,false,false,true,false,false,false,false,false,false,false] rfl rfl (by kernel_rfl) (fun _ _ _ h => h) (Or.inl ⟨by rfl, ?_⟩) ?_ ?_
 rotate_left
 ·intro w'; go_simp; with_reducible rfl
 rotate_left
 ·simp only [Act.put, setIfInBounds_toArray, set_cons_zero, set_cons_succ, i64_w, i32_w]; rfl
 refine pure_ (i := 19) (N := some 25) (v := ?_) (a' := ?_) #[true,true,true,false,true,true,true,false,false,true,true,true,false,true,true,true,false,false,true,true,false,false,false,false,false,false] rfl rfl (by kernel_rfl) (fun _ _ _ h => h) (Or.inl ⟨by rfl, ?_⟩) ?_ ?_
 rotate_left
 ·intro w'; go_simp; with_reducible rfl
 rotate_left
 ·simp only [Act.put, setIfInBounds_toArray, set_cons_zero, set_cons_succ, i64_w, i32_w]; rfl
 refine pure_ (i := 20) (N := some 26) (v := ?_) (a' := ?_) #[true,true,true,false,true,true,true,false,false,true,true,true,false,true,true,true,false,false,true,true,true,false,false,false,false,false] rfl rfl (by kernel_rfl) (fun _ _ _ h => h) (Or.inl ⟨by rfl, ?_⟩) ?_ ?_
 rotate_left
 ·intro w'; go_simp; with_reducible rfl
 rotate_left
 ·simp only [Act.put, setIfInBounds_toArray, set_cons_zero, set_cons_succ, i64_w, i32_w]; rfl
 refine take_ (i := 3) (N := some 9) (v := ?_) (a' := ?_) #[true,true,true,true,true,true,true,false,false,true,true,true,false,true,true,true,false,false,true,true,true,false,false,false,false,false] rfl rfl (by kernel_rfl) (fun _ _ _ h => h) (Or.inl ⟨by rfl, ?_⟩) hHeld ?_ ?_
 rotate_left
 ·rintro w' ⟨s0, s1, s2, s3, s4, s5, s6, s7, s8⟩; go_simp; with_reducible rfl
 rotate_left
 ·simp only [Act.put, setIfInBounds_toArray, set_cons_zero, set_cons_succ, i64_w, i32_w]; rfl
 refine take_ (i := 7) (N := some 13) (v := ?_) (a' := ?_) #[true,true,true,true,true,true,true,true,false,true,true,true,false,true,true,true,false,false,true,true,true,false,false,false,false,false] rfl rfl (by kernel_rfl) (fun _ _ _ h => h) (Or.inl ⟨by rfl, ?_⟩) hHeld ?_ ?_
 rotate_left
 ·rintro w' ⟨s0, s1, s2, s3, s4, s5, s6, s7, s8⟩; go_simp; with_reducible rfl
 rotate_left
 ·simp only [Act.put, setIfInBounds_toArray, set_cons_zero, set_cons_succ, i64_w, i32_w]; rfl
 refine take_ (i := 12) (N := some 18) (v := ?_) (a' := ?_) #[true,true,true,true,true,true,true,true,false,true,true,true,true,true,true,true,false,false,true,true,true,false,false,false,false,false] rfl rfl (by kernel_rfl) (fun _ _ _ h => h) (Or.inl ⟨by rfl, ?_⟩) hHeld ?_ ?_
 rotate_left
 ·rintro w' ⟨s0, s1, s2, s3, s4, s5, s6, s7, s8⟩; go_simp; with_reducible rfl
 rotate_left
 ·simp only [Act.put, setIfInBounds_toArray, set_cons_zero, set_cons_succ, i64_w, i32_w]; rfl
 refine take_ (i := 16) (N := some 22) (v := ?_) (a' := ?_) #[true,true,true,true,true,true,true,true,false,true,true,true,true,true,true,true,true,false,true,true,true,false,false,false,false,false] rfl rfl (by kernel_rfl) (fun _ _ _ h => h) (Or.inl ⟨by rfl, ?_⟩) hHeld ?_ ?_
 rotate_left
 ·rintro w' ⟨s0, s1, s2, s3, s4, s5, s6, s7, s8⟩; go_simp; with_reducible rfl
 rotate_left
 ·simp only [Act.put, setIfInBounds_toArray, set_cons_zero, set_cons_succ, i64_w, i32_w]; rfl
 refine take_ (i := 21) (N := some 27) (v := ?_) (a' := ?_) #[true,true,true,true,true,true,true,true,false,true,true,true,true,true,true,true,true,false,true,true,true,true,false,false,false,false] rfl rfl (by kernel_rfl) (fun _ _ _ h => h) (Or.inl ⟨by rfl, ?_⟩) hHeld ?_ ?_
 rotate_left
 ·rintro w' ⟨s0, s1, s2, s3, s4, s5, s6, s7, s8⟩; go_simp; with_reducible rfl
 rotate_left
 ·simp only [Act.put, setIfInBounds_toArray, set_cons_zero, set_cons_succ, i64_w, i32_w]; rfl
 refine one_ (i := 8) (N := some 14) #[true,true,true,true,true,true,true,true,true,true,true,true,true,true,true,true,true,false,true,true,true,true,false,false,false,false] rfl rfl (by kernel_rfl) (by decide) (fun K hK => ?_)
 refine goes_ Try.func42 (by kernel_rfl) rfl #[.slice (some ⟨gc, 0, none⟩) s.chests.length cc] (by rfl) rfl rfl (by simp only [List.map_toArray, List.map_cons, List.map_nil]; rfl) ?_
 with_reducible refine (clone_chests ⟨gc, 0, none⟩ cc s.chests _ _ (Kd.N_F HQ.out.hc) (Kd.N_reads' HQ.out.hc).2.1 hc1000).mono ?_
 rintro e w3 ⟨v1, rfl, hN, hb⟩
 obtain ⟨gc2, cc2, ec, gb_, gl_, gk_⟩ := Kd.N_form hN hch
 subst ec
 refine ⟨_, rfl, ?_⟩
 have n0_ := Aside0.mk (HQ.out.below hb)
 have n1_ := Aside0.mk (below_step HBw.out hb)
 obtain ⟨N3, hN3⟩ : ∃ N3, N3 = w3.heap.size := ⟨_, rfl⟩
 have HNC := Aside0.mk (Kd.N_mono (ok' := fun k => ((((k ≠ gx ∧ k ≠ gf ∧ k ≠ gm) ∧ ¬ ex k) ∨ w.heap.size ≤ k) ∧ k < N3)) (Kd.N_bound (Kd.N_lower hN (below_size HBw.out))) (fun k hk => ⟨hk.1.elim (fun h => .inl h) (fun h => .inr (Nat.le_trans (below_size HBw.out) h)), by rw [hN3]; exact hk.2⟩))
 have HLB := Aside0.mk (Nat.le_of_eq hN3)
 clear hN3
 have GC2 := Aside0.mk (Nat.le_trans (below_size HBw.out) gb_)
 clear HQ HBw hN hb gb_ gl_ gk_ hHeld
 have HQ := n0_
 have HBw := n1_
 clear n0_ n1_
 refine hK.out _ _ ⟨((blk_cell HQ.out.kx 0).trans rfl), ((blk_cell HQ.out.kx 1).trans rfl), ((blk_cell HQ.out.kx 2).trans rfl), ((blk_cell HQ.out.kx 3).trans rfl), ((blk_cell HQ.out.kx 4).trans rfl), ((blk_cell HQ.out.kx 5).trans rfl), ((blk_cell HQ.out.kx 6).trans rfl), ((blk_cell HQ.out.kx 7).trans rfl), ((blk_cell HQ.out.kx 8).trans rfl)⟩ (fun hHeld => ?_)
 clear hK K
 refine norm_ (a' := ?_) ?_ ?_
 rotate_left
 ·show Act.put _ (some 14) _ = _
  simp only [Act.put, setIfInBounds_toArray, set_cons_zero, set_cons_succ, i64_w, i32_w]
  rfl
 refine one_ (i := 17) (N := some 23) #[true,true,true,true,true,true,true,true,true,true,true,true,true,true,true,true,true,true,true,true,true,true,false,false,false,false] rfl rfl (by kernel_rfl) (by decide) (fun K hK => ?_)
 refine goes_ Try.func14 (by kernel_rfl) rfl #[.slice (some ⟨gf, 0, none⟩) s.fed.length cf] (by rfl) rfl rfl (by simp only [List.map_toArray, List.map_cons, List.map_nil]; rfl) ?_
 with_reducible refine (slices_Clone.calls _ _ s.fed s.fed _ (Kd.R_reads' HQ.out.hf).2.2 (Kd.R_reads' HQ.out.hf).2.1 (show slices_Clone.f s.fed = some s.fed from by unfold slices_Clone.f; rw [if_pos (by omega)])).mono ?_
 rintro e w3 ⟨v1, rfl, hR, hb⟩
 obtain ⟨gf2, cf2, ec, gb_, gl_, gk_, gq_⟩ := Kd.R_form hR (by omega)
 subst ec
 refine ⟨_, rfl, ?_⟩
 have n0_ := Aside0.mk (HQ.out.below hb)
 have n1_ := Aside0.mk (below_step HBw.out hb)
 have m0_ := Aside0.mk (Kd.N_below HNC.out hb)
 clear HNC
 have HNC := m0_
 clear m0_
 have HRF := Aside0.mk (Kd.R_mono (ok' := fun k => k = gf2) (Kd.R_tight rfl (Kd.R_lower hR (below_size HBw.out))) (fun k hk => by simp [Value.ownBlock] at hk; exact hk))
 have GF2 := Aside0.mk (Nat.le_trans (below_size HBw.out) gb_)
 have GF3 := Aside0.mk (Nat.le_trans HLB.out gb_)
 replace HLB := Aside0.mk (Nat.le_trans HLB.out hb.size)
 clear HQ HBw hR hb gb_ gl_ gk_ gq_ hHeld
 have HQ := n0_
 have HBw := n1_
 clear n0_ n1_
 refine hK.out _ _ ⟨((blk_cell HQ.out.kx 0).trans rfl), ((blk_cell HQ.out.kx 1).trans rfl), ((blk_cell HQ.out.kx 2).trans rfl), ((blk_cell HQ.out.kx 3).trans rfl), ((blk_cell HQ.out.kx 4).trans rfl), ((blk_cell HQ.out.kx 5).trans rfl), ((blk_cell HQ.out.kx 6).trans rfl), ((blk_cell HQ.out.kx 7).trans rfl), ((blk_cell HQ.out.kx 8).trans rfl)⟩ (fun hHeld => ?_)
 clear hK K
 refine norm_ (a' := ?_) ?_ ?_
 rotate_left
 ·show Act.put _ (some 23) _ = _
  simp only [Act.put, setIfInBounds_toArray, set_cons_zero, set_cons_succ, i64_w, i32_w]
  rfl
 refine one_ (i := 22) (N := some 28) #[true,true,true,true,true,true,true,true,true,true,true,true,true,true,true,true,true,true,true,true,true,true,true,false,false,false] rfl rfl (by kernel_rfl) (by decide) (fun K hK => ?_)
 refine goes_ Try.func14 (by kernel_rfl) rfl #[.slice (some ⟨gm, 0, none⟩) s.made.length cm] (by rfl) rfl rfl (by simp only [List.map_toArray, List.map_cons, List.map_nil]; rfl) ?_
 with_reducible refine (slices_Clone.calls _ _ s.made s.made _ (Kd.R_reads' HQ.out.hm).2.2 (Kd.R_reads' HQ.out.hm).2.1 (show slices_Clone.f s.made = some s.made from by unfold slices_Clone.f; rw [if_pos (by omega)])).mono ?_
 rintro e w3 ⟨v1, rfl, hR, hb⟩
 obtain ⟨gm2, cm2, ec, gb_, gl_, gk_, gq_⟩ := Kd.R_form hR (by omega)
 subst ec
 refine ⟨_, rfl, ?_⟩
 have n0_ := Aside0.mk (HQ.out.below hb)
 have n1_ := Aside0.mk (below_step HBw.out hb)
 have m0_ := Aside0.mk (Kd.N_below HNC.out hb)
 have m1_ := Aside0.mk (Kd.R_below HRF.out hb)
 have NFM := Aside0.mk (show gf2 ≠ gm2 from fun e => by have h := Kd.R_lt HRF.out gf2 rfl; rw [e] at h; omega)
 clear HNC HRF
 have HNC := m0_
 have HRF := m1_
 clear m0_ m1_
 have HRM := Aside0.mk (Kd.R_mono (ok' := fun k => k = gm2) (Kd.R_tight rfl (Kd.R_lower hR (below_size HBw.out))) (fun k hk => by simp [Value.ownBlock] at hk; exact hk))
 have GM2 := Aside0.mk (Nat.le_trans (below_size HBw.out) gb_)
 have GM3 := Aside0.mk (Nat.le_trans HLB.out gb_)
 replace HLB := Aside0.mk (Nat.le_trans HLB.out hb.size)
 clear HQ HBw hR hb gb_ gl_ gk_ gq_ hHeld
 have HQ := n0_
 have HBw := n1_
 clear n0_ n1_
 refine hK.out _ _ ⟨((blk_cell HQ.out.kx 0).trans rfl), ((blk_cell HQ.out.kx 1).trans rfl), ((blk_cell HQ.out.kx 2).trans rfl), ((blk_cell HQ.out.kx 3).trans rfl), ((blk_cell HQ.out.kx 4).trans rfl), ((blk_cell HQ.out.kx 5).trans rfl), ((blk_cell HQ.out.kx 6).trans rfl), ((blk_cell HQ.out.kx 7).trans rfl), ((blk_cell HQ.out.kx 8).trans rfl)⟩ (fun hHeld => ?_)
 clear hK K
 refine norm_ (a' := ?_) ?_ ?_
 rotate_left
 ·show Act.put _ (some 28) _ = _
  simp only [Act.put, setIfInBounds_toArray, set_cons_zero, set_cons_succ, i64_w, i32_w]
  rfl
 refine pure_ (i := 23) (N := some 29) (v := ?_) (a' := ?_) #[true,true,true,true,true,true,true,true,true,true,true,true,true,true,true,true,true,true,true,true,true,true,true,true,false,false] rfl rfl (by kernel_rfl) (fun _ _ _ h => h) (Or.inl ⟨by rfl, ?_⟩) ?_ ?_
 rotate_left
 ·intro w'; go_simp; with_reducible rfl
 rotate_left
 ·simp only [Act.put, setIfInBounds_toArray, set_cons_zero, set_cons_succ, i64_w, i32_w]; rfl
 refine one_ (i := 24) (N := some 30) #[true,true,true,true,true,true,true,true,true,true,true,true,true,true,true,true,true,true,true,true,true,true,true,true,true,false] rfl rfl (by kernel_rfl) (by decide) (fun K hK => ?_)
 refine box_step ?hw (N := 30) ?hd (cs := #[.int .i64 s.kinds, .slice CA cn ck, .slice PA s.pumps.length pc, .int .i64 s.hold, .slice (some ⟨gc2, 0, none⟩) s.chests.length cc2, .int .i64 s.hold, .slice QA s.plugs.length qc, .slice (some ⟨gf2, 0, none⟩) s.fed.length cf2, .slice (some ⟨gm2, 0, none⟩) s.made.length cm2]) (t := 53) ?hr ?_
 (case hw => rfl)
 (case hd => rfl)
 (case hr => first | (go_simp; done) | (go_simp; rfl))
 intro gx2 hg w4 hbox hb
 have n0_ := Aside0.mk (HQ.out.below hb)
 have n1_ := Aside0.mk (below_step HBw.out hb)
 have m0_ := Aside0.mk (Kd.N_below HNC.out hb)
 have m1_ := Aside0.mk (Kd.R_below HRF.out hb)
 have m2_ := Aside0.mk (Kd.R_below HRM.out hb)
 have KX := Aside0.mk hbox
 have GX2 := Aside0.mk (show w.heap.size ≤ gx2 by rw [hg]; exact below_size HBw.out)
 have GX3 := Aside0.mk (show N3 ≤ gx2 by rw [hg]; exact HLB.out)
 clear HQ HBw HNC HRF HRM hbox hg hb hHeld
 have HQ := n0_
 have HBw := n1_
 have HNC := m0_
 have HRF := m1_
 have HRM := m2_
 clear n0_ n1_ m0_ m1_ m2_
 refine hK.out _ _ ⟨((blk_cell HQ.out.kx 0).trans rfl), ((blk_cell HQ.out.kx 1).trans rfl), ((blk_cell HQ.out.kx 2).trans rfl), ((blk_cell HQ.out.kx 3).trans rfl), ((blk_cell HQ.out.kx 4).trans rfl), ((blk_cell HQ.out.kx 5).trans rfl), ((blk_cell HQ.out.kx 6).trans rfl), ((blk_cell HQ.out.kx 7).trans rfl), ((blk_cell HQ.out.kx 8).trans rfl)⟩ (fun hHeld => ?_)
 clear hK K
 refine norm_ (a' := ?_) ?_ ?_
 rotate_left
 ·show Act.put _ (some 30) _ = _
  simp only [Act.put, setIfInBounds_toArray, set_cons_zero, set_cons_succ, i64_w, i32_w]
  rfl
 refine pure_ (i := 25) (N := some 3) (v := ?_) (a' := ?_) #[true,true,true,true,true,true,true,true,true,true,true,true,true,true,true,true,true,true,true,true,true,true,true,true,true,true] rfl rfl (by kernel_rfl) (fun _ _ _ h => h) (Or.inl ⟨by rfl, ?_⟩) ?_ ?_
 rotate_left
 ·intro w'; go_simp; with_reducible rfl
 rotate_left
 ·simp only [Act.put, setIfInBounds_toArray, set_cons_zero, set_cons_succ, i64_w, i32_w]; rfl
 refine done_ (by kernel_rfl) ?_
 go_wp2
 go_ret
 have hlt : ∀ k, w.heap.size ≤ k → ¬ PX.mu ⟨gx, gc, cc, gf, cf, gm, cm, CA, cn, ck, PA, pc, QA, qc⟩ k ∧ ¬ ex k := fun k hk => ⟨fun hm => by have := HP0.out.lt_mu k hm; omega, fun hx => by have := HP0.out.exb k hx; omega⟩
 have hmu2 : ∀ k, PX.mu ⟨gx2, gc2, cc2, gf2, cf2, gm2, cm2, CA, cn, ck, PA, pc, QA, qc⟩ k → w.heap.size ≤ k := fun k hk => by
  rcases hk with e | e | e | e <;> rw [e]
  ·exact GX2.out
  ·exact GC2.out
  ·exact GF2.out
  ·exact GM2.out
 refine ⟨HBw.out, ⟨gx2, gc2, cc2, gf2, cf2, gm2, cm2, CA, cn, ck, PA, pc, QA, qc⟩, rfl, hmu2, ?_⟩
 exact {
  kx := KX.out
  hp := Kd.F_mono (Kd.F_below (Kd.F_bound HP0.out.hp) HBw.out) (fun k hk => ⟨fun hm => by have := hmu2 k hm; have := hk.2; omega, fun hx => hx.elim hk.1.2 (fun e => hk.1.1 (.inl e))⟩)
  pc := HP0.out.pc
  pa := HP0.out.pa
  hc := Kd.N_mono (Kd.N_lower HNC.out hbw) (fun k hk => ⟨⟨fun e => by have e2 : k = gx2 := e; have := hk.2; have := GX3.out; omega, fun e => by have e2 : k = gf2 := e; have := hk.2; have := GF3.out; omega, fun e => by have e2 : k = gm2 := e; have := hk.2; have := GM3.out; omega⟩, fun hx => hk.1.elim (fun h => hx.elim h.2 h.1.1) (fun h => hx.elim (hlt k h).2 (fun e => (hlt k h).1 (.inl e)))⟩)
  hq := Kd.F_mono (Kd.F_below (Kd.F_bound HP0.out.hq) HBw.out) (fun k hk => ⟨fun hm => by have := hmu2 k hm; have := hk.2; omega, fun hx => hx.elim hk.1.2 (fun e => hk.1.1 (.inl e))⟩)
  qc := HP0.out.qc
  hf := Kd.R_lower HRF.out hbw
  hm := Kd.R_lower HRM.out hbw
  bx := Nat.le_trans hbw GX2.out
  nfm := NFM.out
  nex := fun k hx hm => hx.elim (fun h => (hlt k (hmu2 k hm)).2 h) (fun e => (hlt k (hmu2 k hm)).1 (.inl e))
  exb := fun k hx => hx.elim (fun h => Nat.lt_of_lt_of_le (HP0.out.exb k h) HBw.out.size) (fun e => by rw [e]; exact Nat.lt_of_lt_of_le HP0.out.lt_x HBw.out.size) }
end Go.Proofs.Ytgbjlcaanagfnaa.P

namespace Go.Proofs.Ytgbjlcaanagfnaa.P
open Go.RowKit Go.Proofs.YtgbjlcaanagfnaaW.PrintWords Go.Proofs.YtgbjlcaanagfnaaW.PrintLast Go.Proofs.YtgbjlcaanagfnaaW.PrintMore
set_option linter.unusedVariables false
set_option linter.unusedSimpArgs false

/-- a - b, element by element, up to i. -/
def outTo (a b : List Int) : Nat → List Int
 | 0 => a
 | i + 1 => (outTo a b i).set i (wrap64 (rd (outTo a b i) (i : Int) - rd b (i : Int)))
theorem outTo_len (a b : List Int) : ∀ i, (outTo a b i).length = a.length
 | 0 => rfl
 | i + 1 => by simp [outTo, outTo_len a b i]
def PX.mov (g : PX) (gx : Nat) : PX := { g with gx := gx }
theorem kept_nine {w W : World} {gx : Nat} {S : Nat → Prop} (g' : PX) (s' : Pl) (hK : Kept w W S) (hS : S gx ∨ w.heap.size ≤ gx) : Kept w (((((((((W.setCell ⟨gx, 0, none⟩ (.int .i64 s'.kinds)).setCell ⟨gx, 1, none⟩ (.slice g'.CA g'.cn g'.ck)).setCell ⟨gx, 2, none⟩ (.slice g'.PA s'.pumps.length g'.pc)).setCell ⟨gx, 3, none⟩ (.int .i64 s'.hold)).setCell ⟨gx, 4, none⟩ (.slice (some ⟨g'.gc, 0, none⟩) s'.chests.length g'.cc)).setCell ⟨gx, 5, none⟩ (.int .i64 s'.hold)).setCell ⟨gx, 6, none⟩ (.slice g'.QA s'.plugs.length g'.qc)).setCell ⟨gx, 7, none⟩ (.slice (some ⟨g'.gf, 0, none⟩) s'.fed.length g'.cf)).setCell ⟨gx, 8, none⟩ (.slice (some ⟨g'.gm, 0, none⟩) s'.made.length g'.cm)) S := (Kept.setCell (p := ⟨gx, 8, none⟩) (Kept.setCell (p := ⟨gx, 7, none⟩) (Kept.setCell (p := ⟨gx, 6, none⟩) (Kept.setCell (p := ⟨gx, 5, none⟩) (Kept.setCell (p := ⟨gx, 4, none⟩) (Kept.setCell (p := ⟨gx, 3, none⟩) (Kept.setCell (p := ⟨gx, 2, none⟩) (Kept.setCell (p := ⟨gx, 1, none⟩) (Kept.setCell (p := ⟨gx, 0, none⟩) hK hS (.int .i64 s'.kinds)) hS (.slice g'.CA g'.cn g'.ck)) hS (.slice g'.PA s'.pumps.length g'.pc)) hS (.int .i64 s'.hold)) hS (.slice (some ⟨g'.gc, 0, none⟩) s'.chests.length g'.cc)) hS (.int .i64 s'.hold)) hS (.slice g'.QA s'.plugs.length g'.qc)) hS (.slice (some ⟨g'.gf, 0, none⟩) s'.fed.length g'.cf)) hS (.slice (some ⟨g'.gm, 0, none⟩) s'.made.length g'.cm))
theorem below_nine {w W : World} {gx : Nat} (g' : PX) (s' : Pl) (hB : Below w.heap.size w W) (hgx : w.heap.size ≤ gx) : Below w.heap.size w (((((((((W.setCell ⟨gx, 0, none⟩ (.int .i64 s'.kinds)).setCell ⟨gx, 1, none⟩ (.slice g'.CA g'.cn g'.ck)).setCell ⟨gx, 2, none⟩ (.slice g'.PA s'.pumps.length g'.pc)).setCell ⟨gx, 3, none⟩ (.int .i64 s'.hold)).setCell ⟨gx, 4, none⟩ (.slice (some ⟨g'.gc, 0, none⟩) s'.chests.length g'.cc)).setCell ⟨gx, 5, none⟩ (.int .i64 s'.hold)).setCell ⟨gx, 6, none⟩ (.slice g'.QA s'.plugs.length g'.qc)).setCell ⟨gx, 7, none⟩ (.slice (some ⟨g'.gf, 0, none⟩) s'.fed.length g'.cf)).setCell ⟨gx, 8, none⟩ (.slice (some ⟨g'.gm, 0, none⟩) s'.made.length g'.cm)) := (below_set (j := 8) (v := .slice (some ⟨g'.gm, 0, none⟩) s'.made.length g'.cm) (below_set (j := 7) (v := .slice (some ⟨g'.gf, 0, none⟩) s'.fed.length g'.cf) (below_set (j := 6) (v := .slice g'.QA s'.plugs.length g'.qc) (below_set (j := 5) (v := .int .i64 s'.hold) (below_set (j := 4) (v := .slice (some ⟨g'.gc, 0, none⟩) s'.chests.length g'.cc) (below_set (j := 3) (v := .int .i64 s'.hold) (below_set (j := 2) (v := .slice g'.PA s'.pumps.length g'.pc) (below_set (j := 1) (v := .slice g'.CA g'.cn g'.ck) (below_set (j := 0) (v := .int .i64 s'.kinds) hB hgx) hgx) hgx) hgx) hgx) hgx) hgx) hgx) hgx)
theorem put_nine {W : World} {gx : Nat} (g' : PX) (s' : Pl) {old : Array Value} (h0 : W.heap[gx]? = some (.cells old 53 (0, 0))) (ho : old.size = 9) : (((((((((W.setCell ⟨gx, 0, none⟩ (.int .i64 s'.kinds)).setCell ⟨gx, 1, none⟩ (.slice g'.CA g'.cn g'.ck)).setCell ⟨gx, 2, none⟩ (.slice g'.PA s'.pumps.length g'.pc)).setCell ⟨gx, 3, none⟩ (.int .i64 s'.hold)).setCell ⟨gx, 4, none⟩ (.slice (some ⟨g'.gc, 0, none⟩) s'.chests.length g'.cc)).setCell ⟨gx, 5, none⟩ (.int .i64 s'.hold)).setCell ⟨gx, 6, none⟩ (.slice g'.QA s'.plugs.length g'.qc)).setCell ⟨gx, 7, none⟩ (.slice (some ⟨g'.gf, 0, none⟩) s'.fed.length g'.cf)).setCell ⟨gx, 8, none⟩ (.slice (some ⟨g'.gm, 0, none⟩) s'.made.length g'.cm)).heap[gx]? = some (.cells (g'.cells s') 53 (0, 0)) := by
 obtain ⟨a0, a1, a2, a3, a4, a5, a6, a7, a8, rfl⟩ : ∃ a0 a1 a2 a3 a4 a5 a6 a7 a8, old = #[a0, a1, a2, a3, a4, a5, a6, a7, a8] := by
  obtain ⟨l⟩ := old
  match l, ho with
  | [a0, a1, a2, a3, a4, a5, a6, a7, a8], _ => exact ⟨a0, a1, a2, a3, a4, a5, a6, a7, a8, rfl⟩
 have k0 := h0
 have k1 : (W.setCell ⟨gx, 0, none⟩ (.int .i64 s'.kinds)).heap[gx]? = some (.cells #[.int .i64 s'.kinds, a1, a2, a3, a4, a5, a6, a7, a8] 53 (0, 0)) := blk_put k0 0 (.int .i64 s'.kinds) rfl
 have k2 : ((W.setCell ⟨gx, 0, none⟩ (.int .i64 s'.kinds)).setCell ⟨gx, 1, none⟩ (.slice g'.CA g'.cn g'.ck)).heap[gx]? = some (.cells #[.int .i64 s'.kinds, .slice g'.CA g'.cn g'.ck, a2, a3, a4, a5, a6, a7, a8] 53 (0, 0)) := blk_put k1 1 (.slice g'.CA g'.cn g'.ck) rfl
 have k3 : (((W.setCell ⟨gx, 0, none⟩ (.int .i64 s'.kinds)).setCell ⟨gx, 1, none⟩ (.slice g'.CA g'.cn g'.ck)).setCell ⟨gx, 2, none⟩ (.slice g'.PA s'.pumps.length g'.pc)).heap[gx]? = some (.cells #[.int .i64 s'.kinds, .slice g'.CA g'.cn g'.ck, .slice g'.PA s'.pumps.length g'.pc, a3, a4, a5, a6, a7, a8] 53 (0, 0)) := blk_put k2 2 (.slice g'.PA s'.pumps.length g'.pc) rfl
 have k4 : ((((W.setCell ⟨gx, 0, none⟩ (.int .i64 s'.kinds)).setCell ⟨gx, 1, none⟩ (.slice g'.CA g'.cn g'.ck)).setCell ⟨gx, 2, none⟩ (.slice g'.PA s'.pumps.length g'.pc)).setCell ⟨gx, 3, none⟩ (.int .i64 s'.hold)).heap[gx]? = some (.cells #[.int .i64 s'.kinds, .slice g'.CA g'.cn g'.ck, .slice g'.PA s'.pumps.length g'.pc, .int .i64 s'.hold, a4, a5, a6, a7, a8] 53 (0, 0)) := blk_put k3 3 (.int .i64 s'.hold) rfl
 have k5 : (((((W.setCell ⟨gx, 0, none⟩ (.int .i64 s'.kinds)).setCell ⟨gx, 1, none⟩ (.slice g'.CA g'.cn g'.ck)).setCell ⟨gx, 2, none⟩ (.slice g'.PA s'.pumps.length g'.pc)).setCell ⟨gx, 3, none⟩ (.int .i64 s'.hold)).setCell ⟨gx, 4, none⟩ (.slice (some ⟨g'.gc, 0, none⟩) s'.chests.length g'.cc)).heap[gx]? = some (.cells #[.int .i64 s'.kinds, .slice g'.CA g'.cn g'.ck, .slice g'.PA s'.pumps.length g'.pc, .int .i64 s'.hold, .slice (some ⟨g'.gc, 0, none⟩) s'.chests.length g'.cc, a5, a6, a7, a8] 53 (0, 0)) := blk_put k4 4 (.slice (some ⟨g'.gc, 0, none⟩) s'.chests.length g'.cc) rfl
 have k6 : ((((((W.setCell ⟨gx, 0, none⟩ (.int .i64 s'.kinds)).setCell ⟨gx, 1, none⟩ (.slice g'.CA g'.cn g'.ck)).setCell ⟨gx, 2, none⟩ (.slice g'.PA s'.pumps.length g'.pc)).setCell ⟨gx, 3, none⟩ (.int .i64 s'.hold)).setCell ⟨gx, 4, none⟩ (.slice (some ⟨g'.gc, 0, none⟩) s'.chests.length g'.cc)).setCell ⟨gx, 5, none⟩ (.int .i64 s'.hold)).heap[gx]? = some (.cells #[.int .i64 s'.kinds, .slice g'.CA g'.cn g'.ck, .slice g'.PA s'.pumps.length g'.pc, .int .i64 s'.hold, .slice (some ⟨g'.gc, 0, none⟩) s'.chests.length g'.cc, .int .i64 s'.hold, a6, a7, a8] 53 (0, 0)) := blk_put k5 5 (.int .i64 s'.hold) rfl
 have k7 : (((((((W.setCell ⟨gx, 0, none⟩ (.int .i64 s'.kinds)).setCell ⟨gx, 1, none⟩ (.slice g'.CA g'.cn g'.ck)).setCell ⟨gx, 2, none⟩ (.slice g'.PA s'.pumps.length g'.pc)).setCell ⟨gx, 3, none⟩ (.int .i64 s'.hold)).setCell ⟨gx, 4, none⟩ (.slice (some ⟨g'.gc, 0, none⟩) s'.chests.length g'.cc)).setCell ⟨gx, 5, none⟩ (.int .i64 s'.hold)).setCell ⟨gx, 6, none⟩ (.slice g'.QA s'.plugs.length g'.qc)).heap[gx]? = some (.cells #[.int .i64 s'.kinds, .slice g'.CA g'.cn g'.ck, .slice g'.PA s'.pumps.length g'.pc, .int .i64 s'.hold, .slice (some ⟨g'.gc, 0, none⟩) s'.chests.length g'.cc, .int .i64 s'.hold, .slice g'.QA s'.plugs.length g'.qc, a7, a8] 53 (0, 0)) := blk_put k6 6 (.slice g'.QA s'.plugs.length g'.qc) rfl
 have k8 : ((((((((W.setCell ⟨gx, 0, none⟩ (.int .i64 s'.kinds)).setCell ⟨gx, 1, none⟩ (.slice g'.CA g'.cn g'.ck)).setCell ⟨gx, 2, none⟩ (.slice g'.PA s'.pumps.length g'.pc)).setCell ⟨gx, 3, none⟩ (.int .i64 s'.hold)).setCell ⟨gx, 4, none⟩ (.slice (some ⟨g'.gc, 0, none⟩) s'.chests.length g'.cc)).setCell ⟨gx, 5, none⟩ (.int .i64 s'.hold)).setCell ⟨gx, 6, none⟩ (.slice g'.QA s'.plugs.length g'.qc)).setCell ⟨gx, 7, none⟩ (.slice (some ⟨g'.gf, 0, none⟩) s'.fed.length g'.cf)).heap[gx]? = some (.cells #[.int .i64 s'.kinds, .slice g'.CA g'.cn g'.ck, .slice g'.PA s'.pumps.length g'.pc, .int .i64 s'.hold, .slice (some ⟨g'.gc, 0, none⟩) s'.chests.length g'.cc, .int .i64 s'.hold, .slice g'.QA s'.plugs.length g'.qc, .slice (some ⟨g'.gf, 0, none⟩) s'.fed.length g'.cf, a8] 53 (0, 0)) := blk_put k7 7 (.slice (some ⟨g'.gf, 0, none⟩) s'.fed.length g'.cf) rfl
 have k9 : (((((((((W.setCell ⟨gx, 0, none⟩ (.int .i64 s'.kinds)).setCell ⟨gx, 1, none⟩ (.slice g'.CA g'.cn g'.ck)).setCell ⟨gx, 2, none⟩ (.slice g'.PA s'.pumps.length g'.pc)).setCell ⟨gx, 3, none⟩ (.int .i64 s'.hold)).setCell ⟨gx, 4, none⟩ (.slice (some ⟨g'.gc, 0, none⟩) s'.chests.length g'.cc)).setCell ⟨gx, 5, none⟩ (.int .i64 s'.hold)).setCell ⟨gx, 6, none⟩ (.slice g'.QA s'.plugs.length g'.qc)).setCell ⟨gx, 7, none⟩ (.slice (some ⟨g'.gf, 0, none⟩) s'.fed.length g'.cf)).setCell ⟨gx, 8, none⟩ (.slice (some ⟨g'.gm, 0, none⟩) s'.made.length g'.cm)).heap[gx]? = some (.cells #[.int .i64 s'.kinds, .slice g'.CA g'.cn g'.ck, .slice g'.PA s'.pumps.length g'.pc, .int .i64 s'.hold, .slice (some ⟨g'.gc, 0, none⟩) s'.chests.length g'.cc, .int .i64 s'.hold, .slice g'.QA s'.plugs.length g'.qc, .slice (some ⟨g'.gf, 0, none⟩) s'.fed.length g'.cf, .slice (some ⟨g'.gm, 0, none⟩) s'.made.length g'.cm] 53 (0, 0)) := blk_put k8 8 (.slice (some ⟨g'.gm, 0, none⟩) s'.made.length g'.cm) rfl
 exact k9
/-- *x = *next. -/
theorem PAt.assign {W W' : World} {b : Nat} {ex ex1 : Nat → Prop} {g' : PX} {s' : Pl} (h : PAt W b ex1 g' s') {gx : Nat} (hk : Kept W W' (fun k => k = gx)) (h9 : W'.heap[gx]? = some (.cells (g'.cells s') 53 (0, 0))) (hx : ex1 gx) (hex : ∀ k, ex k → ex1 k ∧ k ≠ gx) (hgx : b ≤ gx) :
  PAt W' b ex (g'.mov gx) s' where
 kx := h9
 hp := Kd.F_mono (Kd.F_kept h.hp hk (fun k hk e => hk.2 (by rw [e]; exact hx))) (fun k hk => ⟨fun hm => hm.elim (fun e => hk.2 (by rw [show k = gx from e]; exact hx)) (fun e => hk.1 (.inr e)), fun e => hk.2 (hex k e).1⟩)
 pc := h.pc
 pa := h.pa
 hc := Kd.N_mono (Kd.N_kept h.hc hk (fun k hk e => hk.2 (by rw [e]; exact hx))) (fun k hk => ⟨⟨fun e => hk.2 (by rw [show k = gx from e]; exact hx), hk.1.2⟩, fun e => hk.2 (hex k e).1⟩)
 hq := Kd.F_mono (Kd.F_kept h.hq hk (fun k hk e => hk.2 (by rw [e]; exact hx))) (fun k hk => ⟨fun hm => hm.elim (fun e => hk.2 (by rw [show k = gx from e]; exact hx)) (fun e => hk.1 (.inr e)), fun e => hk.2 (hex k e).1⟩)
 qc := h.qc
 hf := Kd.R_kept h.hf hk (fun k hk e => h.nex gx hx (.inr (.inr (.inl (e.symm.trans hk)))))
 hm := Kd.R_kept h.hm hk (fun k hk e => h.nex gx hx (.inr (.inr (.inr (e.symm.trans hk)))))
 bx := hgx
 nfm := h.nfm
 nex := fun k hk hm => hm.elim (fun e => (hex k hk).2 e) (fun e => h.nex k (hex k hk).1 (.inr e))
 exb := fun k he => Nat.lt_of_lt_of_le (h.exb k (hex k he).1) hk.1
structure StepPost (w0 w : World) (ex : Nat → Prop) (g : PX) (s : Pl) (r : Option Pl) (e : Ending) (w' : World) : Prop where
 below : Below w0.heap.size w0 w'
 err : r = none → ∃ q : Int, q ≠ 0 ∧ e = .returned (.tuple #[.slice none 0 0, .int .i64 q]) ∧ Kept w w' (fun _ => False)
 ok : ∀ s', r = some s' → ∃ (v : Value) (g' : PX), e = .returned (.tuple #[v, .int .i64 0]) ∧ Kept w w' (fun k => k = g.gx) ∧ g'.gx = g.gx ∧ PAt w' w0.heap.size ex g' s' ∧ Kd.R (Kd.int .i64) 3 w' w.heap.size (fun _ => True) v (outTo s'.made s.made s.made.length)
set_option maxHeartbeats 1000000 in
set_option maxRecDepth 100000 in
theorem step_walk (K n : Nat) (ex : Nat → Prop) (g : PX) (s : Pl) (w0 w : World) (hP : PAt w w0.heap.size ex g s) (hB : Below w0.heap.size w0 w) (r : Option Pl) (h : stepF K n s.pumps s = some r) (hok : StepOk K n s.pumps s) (hch : 0 < s.chests.length ∧ s.chests.length ≤ 1000) (hfd : 0 < s.fed.length ∧ s.fed.length ≤ 1000) (hmd : 0 < s.made.length ∧ s.made.length ≤ 1000) (hpl : s.pumps.length ≤ 1000) :
  Calls Try.prog 9 #[.pointer (some ⟨g.gx, 0, none⟩)] w fun e w' => StepPost w0 w ex g s r e w' := by
 obtain ⟨gp, hgp⟩ := hP.pa
 have HGP := Aside0.mk hgp
 clear hgp
 have HP := Aside0.mk hP
 have HB := Aside0.mk hB
 have HB0 := Aside0.mk hB
 have HS := Aside0.mk h
 have HOK := Aside0.mk hok
 clear hP hB h hok
 go_enter Try.func9, Try.ntmps9
 go_wp2_with (first | (go_at_call 23; (with_reducible refine (copy_calls w0.heap.size ex g s _ HP.out (below_size HB.out) hch.1 hch.2 hfd.1 hfd.2 hmd.1 hmd.2).mono ?_); rintro e w1 ⟨hb, g', rfl, hmu, hP'⟩; have HN := Aside0.mk hP'; have HMU := Aside0.mk hmu; have HX := Aside0.mk (HP.out.widen (ex' := fun k => ex k ∨ g'.mu k) hb (fun k hk => hk.elim .inl (fun h => .inr (hmu k h))) (fun k hk => hk.elim (fun h => Nat.lt_of_lt_of_le (HP.out.exb k h) hb.size) (hP'.lt_mu k))); have n0_ := Aside0.mk (below_step HB.out hb); have HK := Aside0.mk (Kept.of_below hb (fun _ => False)); clear HB hb hmu hP'; have HB := n0_; clear n0_; have c2 : w1.cell? ⟨g.gx, 2, none⟩ = some (.slice (some ⟨gp, 0, none⟩) s.pumps.length g.pc) := (blk_cell HX.out.kx 2).trans (by rw [← HGP.out]; rfl)))
 go_loopg [21] s.pumps.length (fun kx s21 wr => ∃ (i : Nat) (QAi : Option Addr) (qci : Nat) (si : Pl), s21 = .int .i64 i ∧ i ≤ s.pumps.length ∧ s.pumps.length - i ≤ kx ∧ Aside0 (PAt wr w0.heap.size (fun k => ex k ∨ k = g.gx) { g' with QA := QAi, qc := qci } si) ∧ Aside0 (PAt wr w0.heap.size (fun k => ex k ∨ g'.mu k) g s) ∧ Aside0 (Below w0.heap.size w0 wr) ∧ Aside0 (Kept w wr (fun _ => False)) ∧ Aside0 (stepF K n (s.pumps.drop i) si = some r) ∧ Aside0 (StepOk K n (s.pumps.drop i) si) ∧ Aside0 (si.made.length = s.made.length))
 case atStart => exact ⟨0, g'.QA, g'.qc, s, rfl, Nat.zero_le _, by omega, HN, HX, HB, HK, HS, HOK, ⟨rfl⟩⟩
 case round =>
  clear HN HX HB HK HS HOK c2
  obtain ⟨i, QAi, qci, si, rfl, hi, hg, HN, HX, HB, HK, HS, HOK, HML⟩ := hrel
  by_cases hlt : i < s.pumps.length
  ·obtain ⟨ad, c, eA, hcl, hfk, hcc, _⟩ := Kd.F_get HX.out.hp (0, 0, 0) (i : Int) (by omega) (by omega)
   have hdr : s.pumps.drop i = s.pumps[i] :: s.pumps.drop (i + 1) := List.drop_eq_getElem_cons hlt
   have hgt : s.pumps.getD (Int.toNat i) (0, 0, 0) = s.pumps[i] := by rw [Int.toNat_natCast, List.getD_eq_getElem?_getD, List.getElem?_eq_getElem hlt]; rfl
   rw [hgt] at hfk
   rw [Int.toNat_natCast] at hcc
   generalize s.pumps[i] = p at *
   obtain ⟨p1, p2, p3⟩ := p
   obtain ⟨a0, a1, rfl, h0, b0, b1, rfl, h1, h2⟩ := Kd.FK_now hfk
   have h0' : a0 = [.int .i64 p1] := h0
   have h1' : b0 = [.int .i64 p2] := h1
   have h2' : b1 = [.int .i64 p3] := h2
   subst h0' h1' h2'
   rw [HGP.out] at eA
   cases eA
   have hx0 : wr.cell? ⟨gp, i * 3, none⟩ = some (.int .i64 p1) := by have h := hcc 0 _ rfl; rwa [add_plain] at h
   have hx1 : wr.cell? ⟨gp, i * 3 + 1, none⟩ = some (.int .i64 p2) := by have h := hcc 1 _ rfl; rwa [add_plain] at h
   have hx2 : wr.cell? ⟨gp, i * 3 + 2, none⟩ = some (.int .i64 p3) := by have h := hcc 2 _ rfl; rwa [add_plain] at h
   have q1 : (0 ≤ (i : Int)) = True := eq_true (by omega)
   have q2 : ((i : Int) < (s.pumps.length : Int)) = True := eq_true (by omega)
   clear hcc hfk hcl h0 h1 h2 hgt
   go_wp2_with (first | ((with_reducible refine gate_dst (N := 6) rfl ?_); refine box_event ?hg (N := 6) ?hd (cs := #[.int .i64 0, .int .i64 0, .int .i64 0]) (t := 35) ?hr ?_; (case hd => rfl); (case hg => rfl); (case hr => first | (go_simp; done) | (go_simp; rfl)); intro g6 hg w2 hbox hb; have K6 := Aside0.mk hbox; have G6 := Aside0.mk (show wr.heap.size ≤ g6 by rw [hg]; exact Nat.le_refl _); have HB2 := Aside0.mk (below_step HB.out hb); have HK2 := Aside0.mk (Kept.of_below hb (fun _ => False)); clear hb hbox hg hx0 hx1 hx2; have c60 : w2.cell? ⟨g6, 0, none⟩ = some (.int .i64 0) := (blk_cell K6.out 0).trans rfl; have c61 : w2.cell? ⟨g6, 1, none⟩ = some (.int .i64 0) := (blk_cell K6.out 1).trans rfl; have c62 : w2.cell? ⟨g6, 2, none⟩ = some (.int .i64 0) := (blk_cell K6.out 2).trans rfl; have f60 := blk_frozen K6.out 0; have f61 := blk_frozen K6.out 1; have f62 := blk_frozen K6.out 2))
   generalize hW : World.setCell (World.setCell (World.setCell w2 _ _) _ _) _ _ = w3
   have HK3 := Aside0.mk (show Kept wr w3 (fun _ => False) from by rw [← hW]; exact ((HK2.out.setCell (p := ⟨g6, 0, none⟩) (.inr G6.out) _).setCell (p := ⟨g6, 1, none⟩) (.inr G6.out) _).setCell (p := ⟨g6, 2, none⟩) (.inr G6.out) _)
   have HB3 := Aside0.mk (show Below w0.heap.size w0 w3 from by rw [← hW]; exact below_set (below_set (below_set HB2.out (Nat.le_trans (below_size HB.out) G6.out)) (Nat.le_trans (below_size HB.out) G6.out)) (Nat.le_trans (below_size HB.out) G6.out))
   have HN3 := Aside0.mk (HN.out.kept HK3.out (fun _ h => h.elim))
   have HX3 := Aside0.mk (HX.out.kept HK3.out (fun _ h => h.elim))
   have HKw := Aside0.mk (HK.out.then_ HK3.out (fun _ h => h.elim))
   clear hW HB2 HK2 HB HN HX HK HK3 K6 f60 f61 f62 c60 c61 c62
   have hS := HS.out
   have hOK := HOK.out
   rw [hdr] at hS hOK
   simp only [stepF] at hS
   obtain ⟨hOK1, hOK2⟩ := hOK
   cases hpf : pumpF K n si (p1, p2, p3) with
   | none => rw [hpf] at hS; cases hS
   | some q =>
    have hcall := pump_calls K n _ _ si w0 w3 HN3.out HB3.out (p1, p2, p3) q hpf hOK1
    rw [hpf] at hS
    cases q with
    | none =>
     simp only [] at hS hcall
     have hr : r = none := (Option.some.inj hS).symm
     subst hr
     clear hS HS HOK hOK2 hpf hOK1 hdr
     refine hcall.mono ?_
     rintro e w4 ⟨hb4, hk4, herr, _⟩
     obtain ⟨q, hq0, rfl⟩ := herr (by first | rfl | trivial)
     have HB4 := Aside0.mk hb4
     have HK4 := Aside0.mk (HKw.out.then_ (S := fun _ => False) hk4 (fun k hk => .inr (HMU.out k hk)))
     have d0 : (q == 0) = false := beq_eq_false_iff_ne.mpr hq0
     have d1 : (q != 0) = true := bne_iff_ne.mpr hq0
     clear hcall hb4 hk4 herr
     go_wp2
     go_ret2
     exact ⟨HB4.out, fun _ => ⟨q, hq0, rfl, HK4.out⟩, fun s' h => by cases h⟩
    | some s' =>
     simp only [] at hS hcall
     have HS4 := Aside0.mk hS
     have HO4 := Aside0.mk (hOK2 s' hpf)
     have HM4 := Aside0.mk ((pump_same hpf hOK1).2.2.2.2.2.trans HML.out)
     clear hS HS HOK hOK2 hpf hOK1 hdr HML
     refine hcall.mono ?_
     rintro e w4 ⟨hb4, hk4, _, hgood⟩
     obtain ⟨rfl, QAj, qcj, hN4⟩ := hgood s' rfl
     have HB4 := Aside0.mk hb4
     have HK4 := Aside0.mk (HKw.out.then_ (S := fun _ => False) hk4 (fun k hk => .inr (HMU.out k hk)))
     have HN4 := Aside0.mk hN4
     have HX4 := Aside0.mk (HX3.out.kept hk4 (fun k hk => .inl (.inr hk)))
     clear hcall hb4 hk4 hgood hN4
     have hw : IntKind.i64.wrap ((i : Int) + 1) = ((i + 1 : Nat) : Int) := by rw [IntKind.wrap_i64]; omega
     go_wp2
     go_roundg (s.pumps.length - (i + 1))
     case measure => omega
     case rel => exact ⟨i + 1, QAj, qcj, s', by first | rfl | (rw [hw]; rfl) | simp, by omega, Nat.le_refl _, HN4, HX4, HB4, HK4, HS4, HO4, HM4⟩
  ·obtain rfl : i = s.pumps.length := by omega
   have hS := HS.out
   rw [List.drop_length] at hS
   simp only [stepF] at hS
   have hr : r = some si := (Option.some.inj hS).symm
   subst hr
   clear hS HS HOK
   have c8 : wr.cell? ⟨g'.gx, 8, none⟩ = some (.slice (some ⟨g'.gm, 0, none⟩) si.made.length g'.cm) := (blk_cell HN.out.kx 8).trans rfl
   have HSM := Aside0.mk (show slices_Clone.f si.made = some si.made from by unfold slices_Clone.f; rw [if_pos (by have := HML.out; omega)])
   go_wp2_with (first | (go_at_call 14; (with_reducible refine (slices_Clone.calls _ _ si.made si.made _ (Kd.R_reads' HN.out.hm).2.2 (Kd.R_reads' HN.out.hm).2.1 HSM.out).mono ?_); rintro e w5 ⟨v1, rfl, hR, hb⟩; obtain ⟨go, co, ec, gb_, gl_, gk_, gq_⟩ := Kd.R_form hR (by have := HML.out; omega); subst ec; have n0_ := Aside0.mk (HN.out.widen (ex' := fun k => (ex k ∨ k = g.gx) ∨ k = go) hb (fun k hk => hk.elim .inl (fun e => .inr (by rw [e]; exact gb_))) (fun k hk => hk.elim (fun h => Nat.lt_of_lt_of_le (HN.out.exb k h) hb.size) (fun e => by rw [e]; exact gl_))); have n1_ := Aside0.mk (HX.out.widen (ex' := fun k => (ex k ∨ g'.mu k) ∨ k = go) hb (fun k hk => hk.elim .inl (fun e => .inr (by rw [e]; exact gb_))) (fun k hk => hk.elim (fun h => Nat.lt_of_lt_of_le (HX.out.exb k h) hb.size) (fun e => by rw [e]; exact gl_))); have n2_ := Aside0.mk (below_step HB.out hb); have n3_ := Aside0.mk (Kept.below HK.out hb); have HO := Aside0.mk (show Kd.R (Kd.int .i64) 3 w5 w.heap.size (fun k => k = go) (.slice (some ⟨go, 0, none⟩) si.made.length co) (outTo si.made s.made 0) from Kd.R_mono (Kd.R_tight rfl (Kd.R_lower hR HK.out.1)) (fun k hk => by simp [Value.ownBlock] at hk; exact hk)); have GO := Aside0.mk (show w.heap.size ≤ go from Nat.le_trans HK.out.1 gb_); clear HN HX HB HK hR hb gb_ gl_ gk_ gq_ c8; have HN := n0_; have HX := n1_; have HB := n2_; have HK := n3_; clear n0_ n1_ n2_ n3_; have c8x : w5.cell? ⟨g.gx, 8, none⟩ = some (.slice (some ⟨g.gm, 0, none⟩) s.made.length g.cm) := (blk_cell HX.out.kx 8).trans rfl))
   have hlen : si.made.length = s.made.length := HML.out
   go_loopg [42] s.made.length (fun kx s42 wr => ∃ (j : Nat), s42 = .int .i64 j ∧ j ≤ s.made.length ∧ s.made.length - j ≤ kx ∧ Aside0 (PAt wr w0.heap.size (fun k => (ex k ∨ k = g.gx) ∨ k = go) { g' with QA := QAi, qc := qci } si) ∧ Aside0 (PAt wr w0.heap.size (fun k => (ex k ∨ g'.mu k) ∨ k = go) g s) ∧ Aside0 (Below w0.heap.size w0 wr) ∧ Aside0 (Kept w wr (fun _ => False)) ∧ Aside0 (Kd.R (Kd.int .i64) 3 wr w.heap.size (fun k => k = go) (.slice (some ⟨go, 0, none⟩) si.made.length co) (outTo si.made s.made j)))
   case atStart => exact ⟨0, rfl, Nat.zero_le _, by omega, HN, HX, HB, HK, HO⟩
   case round =>
    clear HN HX HB HK HO c8x
    obtain ⟨j, rfl, hj, hgj, HN, HX, HB, HK, HO⟩ := hrel
    by_cases hltj : j < s.made.length
    ·have qO : (j : Int) < (si.made.length : Int) := by omega
     have qX : (j : Int) < (s.made.length : Int) := by omega
     obtain ⟨hxO, hfO⟩ := Kd.R_celln 0 HO.out (j : Int) (by omega) qO
     obtain ⟨hxX, _⟩ := Kd.R_celln 0 HX.out.hm (j : Int) (by omega) qX
     rw [Int.toNat_natCast] at hxO hfO hxX
     replace hxO : wr.cell? ⟨go, j, none⟩ = some (.int .i64 (rd (outTo si.made s.made j) (j : Int))) := hxO
     replace hxX : wr.cell? ⟨g.gm, j, none⟩ = some (.int .i64 (rd s.made (j : Int))) := hxX
     have HPL := Aside0.mk (show Kd.R (Kd.int .i64) 3 (wr.setCell ⟨go, j, none⟩ (.int .i64 (wrap64 (rd (outTo si.made s.made j) (j : Int) - rd s.made (j : Int))))) w.heap.size (fun k => k = go) (.slice (some ⟨go, 0, none⟩) si.made.length co) (outTo si.made s.made (j + 1)) from Kd.R_putn HO.out (j : Int) _)
     generalize rd (outTo si.made s.made j) (j : Int) = y at *
     generalize rd s.made (j : Int) = x at *
     have pj : (0 ≤ (j : Int)) = True := eq_true (by omega)
     have qj1 : ((j : Int) < (s.made.length : Int)) = True := eq_true qX
     have qj2 : ((j : Int) < (si.made.length : Int)) = True := eq_true qO
     have hwj : IntKind.i64.wrap ((j : Int) + 1) = ((j + 1 : Nat) : Int) := by rw [IntKind.wrap_i64]; omega
     have HLE := Aside0.mk hlen
     clear hlen qO qX
     go_wp2_with (first | ((with_reducible refine gate_store (t := 3) (p := 53) rfl ?_); refine store_event (t := 3) (p := 53) (v := ?vo_1) (w1 := (wr.setCell ⟨go, j, none⟩ (.int .i64 (wrap64 (y - x))))) ?hg1 ?ho1 ?hn1 ?hr1 ?_; (case ho1 => rfl); (case hg1 => rfl); (case hn1 => rfl); (case hr1 => first | (go_simp; done) | (go_simp; rfl)); intro w6 hw6; have hk6 := (show Kept wr w6 (fun k => k = go) from by rw [hw6]; exact Kept.setCell (S := fun k => k = go) (Kept.refl wr _) (p := ⟨go, j, none⟩) (.inl rfl) _); have n0_ := Aside0.mk (HN.out.kept hk6 (fun k hk => .inl (.inr hk))); have n1_ := Aside0.mk (HX.out.kept hk6 (fun k hk => .inl (.inr hk))); have n2_ := Aside0.mk (show Below w0.heap.size w0 w6 from by rw [hw6]; exact below_set HB.out (Nat.le_trans (below_size HB0.out) GO.out)); have n3_ := Aside0.mk (HK.out.then_ (S := fun _ => False) hk6 (fun k hk => .inr (by rw [hk]; exact GO.out))); have n4_ := Aside0.mk (show Kd.R (Kd.int .i64) 3 w6 w.heap.size (fun k => k = go) (.slice (some ⟨go, 0, none⟩) si.made.length co) (outTo si.made s.made (j + 1)) from by rw [hw6]; exact HPL.out); clear HN HX HB HK HO HPL hk6 hw6 hxO hfO hxX; have HN := n0_; have HX := n1_; have HB := n2_; have HK := n3_; have HO := n4_; clear n0_ n1_ n2_ n3_ n4_))
     go_roundg (s.made.length - (j + 1))
     case measure => omega
     case rel => exact ⟨j + 1, by first | rfl | (rw [hwj]; rfl) | simp, by omega, Nat.le_refl _, HN, HX, HB, HK, HO⟩
    ·obtain rfl : j = s.made.length := by omega
     have dn0 : wr.cell? ⟨g'.gx, 0, none⟩ = some (.int .i64 si.kinds) := (blk_cell HN.out.kx 0).trans rfl
     have dx0 : wr.cell? ⟨g.gx, 0, none⟩ = some (.int .i64 s.kinds) := (blk_cell HX.out.kx 0).trans rfl
     have fx0 := blk_frozen HX.out.kx 0
     have dn1 : wr.cell? ⟨g'.gx, 1, none⟩ = some (.slice g'.CA g'.cn g'.ck) := (blk_cell HN.out.kx 1).trans rfl
     have dx1 : wr.cell? ⟨g.gx, 1, none⟩ = some (.slice g.CA g.cn g.ck) := (blk_cell HX.out.kx 1).trans rfl
     have fx1 := blk_frozen HX.out.kx 1
     have dn2 : wr.cell? ⟨g'.gx, 2, none⟩ = some (.slice g'.PA si.pumps.length g'.pc) := (blk_cell HN.out.kx 2).trans rfl
     have dx2 : wr.cell? ⟨g.gx, 2, none⟩ = some (.slice g.PA s.pumps.length g.pc) := (blk_cell HX.out.kx 2).trans rfl
     have fx2 := blk_frozen HX.out.kx 2
     have dn3 : wr.cell? ⟨g'.gx, 3, none⟩ = some (.int .i64 si.hold) := (blk_cell HN.out.kx 3).trans rfl
     have dx3 : wr.cell? ⟨g.gx, 3, none⟩ = some (.int .i64 s.hold) := (blk_cell HX.out.kx 3).trans rfl
     have fx3 := blk_frozen HX.out.kx 3
     have dn4 : wr.cell? ⟨g'.gx, 4, none⟩ = some (.slice (some ⟨g'.gc, 0, none⟩) si.chests.length g'.cc) := (blk_cell HN.out.kx 4).trans rfl
     have dx4 : wr.cell? ⟨g.gx, 4, none⟩ = some (.slice (some ⟨g.gc, 0, none⟩) s.chests.length g.cc) := (blk_cell HX.out.kx 4).trans rfl
     have fx4 := blk_frozen HX.out.kx 4
     have dn5 : wr.cell? ⟨g'.gx, 5, none⟩ = some (.int .i64 si.hold) := (blk_cell HN.out.kx 5).trans rfl
     have dx5 : wr.cell? ⟨g.gx, 5, none⟩ = some (.int .i64 s.hold) := (blk_cell HX.out.kx 5).trans rfl
     have fx5 := blk_frozen HX.out.kx 5
     have dn6 : wr.cell? ⟨g'.gx, 6, none⟩ = some (.slice QAi si.plugs.length qci) := (blk_cell HN.out.kx 6).trans rfl
     have dx6 : wr.cell? ⟨g.gx, 6, none⟩ = some (.slice g.QA s.plugs.length g.qc) := (blk_cell HX.out.kx 6).trans rfl
     have fx6 := blk_frozen HX.out.kx 6
     have dn7 : wr.cell? ⟨g'.gx, 7, none⟩ = some (.slice (some ⟨g'.gf, 0, none⟩) si.fed.length g'.cf) := (blk_cell HN.out.kx 7).trans rfl
     have dx7 : wr.cell? ⟨g.gx, 7, none⟩ = some (.slice (some ⟨g.gf, 0, none⟩) s.fed.length g.cf) := (blk_cell HX.out.kx 7).trans rfl
     have fx7 := blk_frozen HX.out.kx 7
     have dn8 : wr.cell? ⟨g'.gx, 8, none⟩ = some (.slice (some ⟨g'.gm, 0, none⟩) si.made.length g'.cm) := (blk_cell HN.out.kx 8).trans rfl
     have dx8 : wr.cell? ⟨g.gx, 8, none⟩ = some (.slice (some ⟨g.gm, 0, none⟩) s.made.length g.cm) := (blk_cell HX.out.kx 8).trans rfl
     have fx8 := blk_frozen HX.out.kx 8
     have HLE := Aside0.mk hlen
     clear hlen
     have hk9 := Aside0.mk (kept_nine (S := fun k => k = g.gx) { g' with QA := QAi, qc := qci } si (Kept.refl wr _) (.inl rfl))
     have hp9 := Aside0.mk (put_nine { g' with QA := QAi, qc := qci } si HX.out.kx rfl)
     have hb9 := Aside0.mk (below_nine { g' with QA := QAi, qc := qci } si HB.out HX.out.bx)
     have HA := Aside0.mk (HN.out.assign hk9.out hp9.out (.inl (.inr rfl)) (ex := ex) (fun k hk => ⟨.inl (.inl hk), fun e => HX.out.nex k (.inl (.inl hk)) (by rw [e]; exact .inl rfl)⟩) HX.out.bx)
     have HR9 := Aside0.mk (Kd.R_kept HO.out hk9.out (fun k hk e => by have h1 := HX.out.nex go (.inr rfl); exact h1 (by rw [← hk, e]; exact .inl rfl)))
     have HK9 := Aside0.mk (Kept.then_ (S := fun k => k = g.gx) (HK.out.mono (fun _ h => h.elim)) hk9.out (fun k hk => .inl hk))
     go_wp2
     go_ret2
     refine ⟨hb9.out, fun h => (by cases h), fun s' h => ?_⟩
     cases h
     exact ⟨_, PX.mov { g' with QA := QAi, qc := qci } g.gx, rfl, HK9.out, rfl, HA.out, Kd.R_mono HR9.out (fun _ _ => trivial)⟩
end Go.Proofs.Ytgbjlcaanagfnaa.P

namespace Go.Proofs.Ytgbjlcaanagfnaa.P
open Go.RowKit Go.Proofs.YtgbjlcaanagfnaaW.PrintWords Go.Proofs.YtgbjlcaanagfnaaW.PrintLast Go.Proofs.YtgbjlcaanagfnaaW.PrintMore
open List (setIfInBounds_toArray set_cons_zero set_cons_succ)
set_option linter.unusedVariables false
set_option linter.unusedSimpArgs false

structure FeedPost (w0 w : World) (ex : Nat → Prop) (g : PX) (s : Pl) (i : Nat) (r1 : Int) (r2 : List Int) (r3 : Int) (fd : List Int) (e : Ending) (w' : World) : Prop where
 ans : e = .returned (.int .i64 r3)
 below : Below w0.heap.size w0 w'
 err : r3 ≠ 0 → Kept w w' (fun _ => False)
 kept : Kept w w' g.mu
 ok : r3 = 0 → PAt w' w0.heap.size ex g { s with chests := s.chests.set i ⟨r1, r2⟩, fed := fd }
set_option maxHeartbeats 1000000 in
set_option maxRecDepth 100000 in
theorem feed_calls (K : Nat) (ex : Nat → Prop) (g : PX) (s : Pl) (w0 w : World) (hP : PAt w w0.heap.size ex g s) (hB : Below w0.heap.size w0 w) (i : Nat) (hi : i < s.chests.length) (c : S56) (hci : s.chests.getD i ⟨0, []⟩ = c) (A : Option Addr) (cM : Nat) (m : List Int) (okm : Nat → Prop) (hM : Kd.F (Kd.int .i64) w okm A m.length m) (hom : ∀ k, okm k → ¬ g.mu k) (hcM : m.length ≤ cM) (r1 : Int) (r2 : List Int) (r3 : Int) (hF : chest_Fill.f K c.f0 c.f1 m = some (r1, r2, r3)) (fd : List Int) (hA : r3 = 0 → prep_add.f K s.fed m = some fd ∧ fd.length = s.fed.length) :
  Calls Try.prog 8 #[.pointer (some ⟨g.gx, 0, none⟩), .int .i64 i, .slice A m.length cM] w fun e w' => FeedPost w0 w ex g s i r1 r2 r3 fd e w' := by
 obtain ⟨gx, gc, cc, gf, cf, gm, cm, CA, cn, ck, PA, pc, QA, qc⟩ := g
 have HP := Aside0.mk hP
 have HB := Aside0.mk hB
 have HK := Aside0.mk (Kept.refl w (fun _ => False))
 have HOM := Aside0.mk hom
 have HAD := Aside0.mk hA
 clear hom hA
 have HM := Aside0.mk hM
 have HMU := Aside0.mk (show ∀ k, w.heap.size ≤ k → ¬ PX.mu ⟨gx, gc, cc, gf, cf, gm, cm, CA, cn, ck, PA, pc, QA, qc⟩ k ∧ ¬ ex k from fun k hk => ⟨fun hm => by have := hP.lt_mu k hm; omega, fun hx => by have := hP.exb k hx; omega⟩)
 have HF := Aside0.mk hF
 obtain ⟨cl, hcl, hfk, hcc, hfr⟩ := Kd.N_elem hP.hc ⟨0, []⟩ (i : Int) (by omega) (by omega)
 rw [Int.toNat_natCast, hci] at hfk
 rw [Int.toNat_natCast] at hcc hfr
 obtain ⟨A1, c1, rfl, hc1, hF1⟩ := k56_openF hfk
 have e0 : w.cell? ⟨gc, i * 2, none⟩ = some (.int .i64 c.f0) := hcc 0 _ rfl
 have e1 : w.cell? ⟨gc, i * 2 + 1, none⟩ = some (.slice A1 c.f1.length c1) := hcc 1 _ rfl
 have c4 : w.cell? ⟨gx, 4, none⟩ = some (.slice (some ⟨gc, 0, none⟩) s.chests.length cc) := (blk_cell hP.kx 4).trans rfl
 have HC1 := Aside0.mk (Kd.F_now hF1)
 have HCI := Aside0.mk hci
 clear hP hB hM hF hcl hfk hcc hfr hF1 hci
 have p1 : (0 ≤ (i : Int)) = True := eq_true (by omega)
 have p2 : decide ((i : Int) < 0) = false := decide_eq_false (by omega)
 have p3 : decide ((s.chests.length : Int) ≤ (i : Int)) = false := decide_eq_false (by omega)
 have q1 : ((i : Int) < (s.chests.length : Int)) = True := eq_true (by omega)
 by_cases cr : r3 = 0
 ·subst cr
  go_enter Try.func8, Try.ntmps8
  go_wp2_with (first | (go_at_call 22; (with_reducible refine (chest_Fill.calls K c.f0 A1 c1 c.f1 A cM m r1 r2 _ _ HC1.out hc1 (Kd.F_now HM.out) hcM HF.out).mono ?_); rintro e w3 ⟨v1, rfl, hoR, hb⟩; obtain ⟨Ao, co, eo⟩ := Kd.R_slice hoR; subst eo; have n0_ := Aside0.mk (HP.out.below hb); have n1_ := Aside0.mk (below_step HB.out hb); have n2_ := Aside0.mk (Kept.below HK.out hb); have n3_ := Aside0.mk hoR; have m9_ := Aside0.mk (Kd.F_below HM.out hb); clear HP HB HK HM hoR hb c4 e0 e1; have HM := m9_; clear m9_; have HP := n0_; have HB := n1_; have HK := n2_; have HO := n3_; clear n0_ n1_ n2_ n3_) | ((with_reducible refine gate_dst (N := 7) rfl ?_); refine box_event ?hg (N := 7) ?hd (cs := #[.int .i64 0, .slice none 0 0]) (t := 56) ?hr ?_; (case hd => rfl); (case hg => rfl); (case hr => first | (go_simp; done) | (go_simp; rfl)); intro g7 hg w4 hbox hb; have n1_ := Aside0.mk (below_step HB.out hb); have n2_ := Aside0.mk (Kept.of_below hb (fun _ => False)); have n4_ := Aside0.mk hbox; have n5_ := Aside0.mk (show w3.heap.size ≤ g7 by rw [hg]; exact Nat.le_refl _); have n6_ := Aside0.mk (below_size HB.out); clear HB hbox hg hb; have HB := n1_; have HK34 := n2_; have K7 := n4_; have G7 := n5_; have HBS := n6_; clear n1_ n2_ n4_ n5_ n6_; have c70 : w4.cell? ⟨g7, 0, none⟩ = some (.int .i64 0) := (blk_cell K7.out 0).trans rfl; have c71 : w4.cell? ⟨g7, 1, none⟩ = some (.slice none 0 0) := (blk_cell K7.out 1).trans rfl; have f70 := blk_frozen K7.out 0; have f71 := blk_frozen K7.out 1))
  generalize hW : World.setCell (World.setCell w4 _ _) _ _ = w5
  have HK35 := Aside0.mk (show Kept w3 w5 (fun _ => False) from by rw [← hW]; exact (HK34.out.setCell (p := ⟨g7, 0, none⟩) (.inr G7.out) _).setCell (p := ⟨g7, 1, none⟩) (.inr G7.out) _)
  have HB5 := Aside0.mk (show Below w0.heap.size w0 w5 from by rw [← hW]; exact below_set (below_set HB.out (Nat.le_trans HBS.out G7.out)) (Nat.le_trans HBS.out G7.out))
  have K75 := Aside0.mk (show w5.heap[g7]? = some (.cells #[.int .i64 r1, .slice Ao r2.length co] 56 (0, 0)) from by rw [← hW]; exact blk_put (blk_put K7.out 0 _ rfl) 1 _ rfl)
  have HP5 := Aside0.mk (HP.out.kept HK35.out (fun _ hk => hk.elim))
  have HK5 := Aside0.mk (HK.out.then_ HK35.out (fun _ hk => hk.elim))
  have HO5 := Aside0.mk (Kd.R_kept HO.out HK35.out (fun _ _ hk => hk))
  have HM5 := Aside0.mk (Kd.F_kept HM.out HK35.out (fun _ _ hk => hk))
  clear HM hW HP HB HK HO HK34 K7 f70 f71
  have HFK5 := Aside0.mk (Kd.FK_of_M (k56_mkM w5 w.heap.size (fun k => some k = (Value.slice Ao r2.length co).ownBlock) ⟨r1, r2⟩ (Kd.R_tight rfl HO5.out)))
  have hokp := Kd.R_base HO5.out
  obtain ⟨cl, hcl, hfk, hcc, hfr⟩ := Kd.N_elem HP5.out.hc ⟨0, []⟩ (i : Int) (by omega) (by show (i : Int) < (s.chests.length : Int); omega)
  rw [Int.toNat_natCast, HCI.out] at hfk
  rw [Int.toNat_natCast] at hcc hfr
  obtain ⟨A1, c1, rfl, hc1, hF1⟩ := k56_openF hfk
  have e0 : w5.cell? ⟨gc, i * 2, none⟩ = some (.int .i64 c.f0) := hcc 0 _ rfl
  have e1 : w5.cell? ⟨gc, i * 2 + 1, none⟩ = some (.slice A1 c.f1.length c1) := hcc 1 _ rfl
  have z0 : w5.frozen? ⟨gc, i * 2, none⟩ = false := hfr 0
  have z1 : w5.frozen? ⟨gc, i * 2 + 1, none⟩ = false := hfr 1
  have c4 : w5.cell? ⟨gx, 4, none⟩ = some (.slice (some ⟨gc, 0, none⟩) s.chests.length cc) := (blk_cell HP5.out.kx 4).trans rfl
  have c70 : w5.cell? ⟨g7, 0, none⟩ = some (.int .i64 r1) := (blk_cell K75.out 0).trans rfl
  have c71 : w5.cell? ⟨g7, 1, none⟩ = some (.slice Ao r2.length co) := (blk_cell K75.out 1).trans rfl
  have HOK := Aside0.mk hokp
  clear hcl hfk hcc hfr hF1 hokp
  refine start_ (n := 8) (S := fun w' => w'.cell? ⟨gx, 4, none⟩ = some (.slice (some ⟨gc, 0, none⟩) s.chests.length cc) ∧ w'.cell? ⟨g7, 0, none⟩ = some (.int .i64 r1) ∧ w'.cell? ⟨g7, 1, none⟩ = some (.slice Ao r2.length co)) (ds := [7]) #[false,false,false,false,false,false,false,false] (by kernel_rfl) rfl rfl ⟨(show w5.drew.cell? _ = _ from c4), (show w5.drew.cell? _ = _ from c70), (show w5.drew.cell? _ = _ from c71)⟩ (fun hHeld => ?_)
  replace e0 : w5.drew.cell? ⟨gc, i * 2, none⟩ = some (.int .i64 c.f0) := e0
  replace e1 : w5.drew.cell? ⟨gc, i * 2 + 1, none⟩ = some (.slice A1 c.f1.length c1) := e1
  replace z0 : w5.drew.frozen? ⟨gc, i * 2, none⟩ = false := z0
  replace z1 : w5.drew.frozen? ⟨gc, i * 2 + 1, none⟩ = false := z1
  have HP := Aside0.mk HP5.out.drew
  have HB := Aside0.mk (below_drew HB5.out)
  have HK := Aside0.mk (Kept.drew HK5.out)
  have HFK := Aside0.mk (Kd.FK_below HFK5.out (below_drew (Below.refl _ _)))
  have HM := Aside0.mk (Kd.F_drew HM5.out)
  clear c4 c70 c71
  generalize w5.drew = w6 at HP HB HK HFK HM e0 e1 z0 z1 hHeld ⊢
  refine pure_ (i := 0) (N := some 39) (v := ?_) (a' := ?_) #[true,false,false,false,false,false,false,false] rfl rfl (by kernel_rfl) (fun _ _ _ h => h) (Or.inl ⟨by rfl, ?_⟩) ?_ ?_
  rotate_left
  ·intro w'; go_simp; with_reducible rfl
  rotate_left
  ·simp only [Act.put, setIfInBounds_toArray, set_cons_zero, set_cons_succ, i64_w, i32_w]; rfl
  refine pure_ (i := 1) (N := some 40) (v := ?_) (a' := ?_) #[true,true,false,false,false,false,false,false] rfl rfl (by kernel_rfl) (fun _ _ _ h => h) (Or.inl ⟨by rfl, ?_⟩) ?_ ?_
  rotate_left
  ·intro w'; go_simp; with_reducible rfl
  rotate_left
  ·simp only [Act.put, setIfInBounds_toArray, set_cons_zero, set_cons_succ, i64_w, i32_w]; rfl
  refine pure_ (i := 2) (N := some 41) (v := ?_) (a' := ?_) #[true,true,true,false,false,false,false,false] rfl rfl (by kernel_rfl) (fun _ _ _ h => h) (Or.inl ⟨by rfl, ?_⟩) ?_ ?_
  rotate_left
  ·intro w'; go_simp; with_reducible rfl
  rotate_left
  ·simp only [Act.put, setIfInBounds_toArray, set_cons_zero, set_cons_succ, i64_w, i32_w]; rfl
  refine pure_ (i := 4) (N := some 43) (v := ?_) (a' := ?_) #[true,true,true,false,true,false,false,false] rfl rfl (by kernel_rfl) (fun _ _ _ h => h) (Or.inl ⟨by rfl, ?_⟩) ?_ ?_
  rotate_left
  ·intro w'; go_simp; with_reducible rfl
  rotate_left
  ·simp only [Act.put, setIfInBounds_toArray, set_cons_zero, set_cons_succ, i64_w, i32_w]; rfl
  refine take_ (i := 3) (N := some 42) (v := ?_) (a' := ?_) #[true,true,true,true,true,false,false,false] rfl rfl (by kernel_rfl) (fun _ _ _ h => h) (Or.inl ⟨by rfl, ?_⟩) hHeld ?_ ?_
  rotate_left
  ·rintro w' ⟨s0, s1, s2⟩; go_simp; with_reducible rfl
  rotate_left
  ·simp only [Act.put, setIfInBounds_toArray, set_cons_zero, set_cons_succ, i64_w, i32_w]; rfl
  refine take_ (i := 5) (N := some 44) (v := ?_) (a' := ?_) #[true,true,true,true,true,true,false,false] rfl rfl (by kernel_rfl) (fun _ _ _ h => h) (Or.inl ⟨by rfl, ?_⟩) hHeld ?_ ?_
  rotate_left
  ·rintro w' ⟨s0, s1, s2⟩; go_simp; with_reducible rfl
  rotate_left
  ·simp only [Act.put, setIfInBounds_toArray, set_cons_zero, set_cons_succ, i64_w, i32_w]; rfl
  refine pure_ (i := 6) (N := some 45) (v := ?_) (a' := ?_) #[true,true,true,true,true,true,true,false] rfl rfl (by kernel_rfl) (fun _ _ _ h => h) (Or.inl ⟨by rfl, ?_⟩) ?_ ?_
  rotate_left
  ·intro w'; go_simp; with_reducible rfl
  rotate_left
  ·simp only [Act.put, setIfInBounds_toArray, set_cons_zero, set_cons_succ, i64_w, i32_w]; rfl
  refine last_ (i := 7) (N := none) #[true,true,true,true,true,true,true,true] rfl rfl (by kernel_rfl) (by decide) (fun K hK => ?_)
  refine skip_ (w1 := ?_) (by rfl) rfl ?_ ?_
  rotate_left
  ·go_simp
   rfl
  refine hK.out _ _ ?_
  clear hK K
  refine done_ (by kernel_rfl) ?_
  have hq := HP.out.setc i hi ⟨r1, r2⟩ (v := .slice Ao r2.length co) HFK.out (fun k hk => HMU.out k (HOK.out k hk.symm))
  have HQ := Aside0.mk hq
  have hb2 := Aside0.mk (below_set (v := .slice Ao r2.length co) (j := i * 2 + 1) (g := gc) (below_set (v := .int .i64 r1) (j := i * 2) (g := gc) HB.out HP.out.bc) HP.out.bc)
  have hk2 := Aside0.mk (((HK.out.mono (S' := PX.mu ⟨gx, gc, cc, gf, cf, gm, cm, CA, cn, ck, PA, pc, QA, qc⟩) (fun _ h => h.elim)).setCell (p := ⟨gc, i * 2, none⟩) (.inl (.inr (.inl rfl))) (.int .i64 r1)).setCell (p := ⟨gc, i * 2 + 1, none⟩) (.inl (.inr (.inl rfl))) (.slice Ao r2.length co))
  have hm2 := Aside0.mk (Kd.F_far (p := ⟨gc, i * 2 + 1, none⟩) (Kd.F_far (p := ⟨gc, i * 2, none⟩) HM.out (fun k hk e => HOM.out k hk (.inr (.inl e))) (.int .i64 r1)) (fun k hk e => HOM.out k hk (.inr (.inl e))) (.slice Ao r2.length co))
  clear hq HP HB HK HFK e0 e1 z0 z1
  simp only [] at HQ
  generalize World.setCell (World.setCell w6 _ _) _ _ = w8 at *
  have c7 : w8.cell? ⟨gx, 7, none⟩ = some (.slice (some ⟨gf, 0, none⟩) s.fed.length cf) := (blk_cell HQ.out.kx 7).trans rfl
  have had := HAD.out (by first | rfl | trivial)
  have HAD2 := Aside0.mk had
  clear had
  go_wp2_with (first | (go_at_call 18; (with_reducible refine (prep_add.calls K (fun k => k = gf) (.slice (some ⟨gf, 0, none⟩) s.fed.length cf) s.fed A cM m fd w0 _ hb2.out HQ.out.hf ?hr1 hcM HAD2.out.1).mono ?_); (case hr1 => exact fun W_ hk => Kd.F_now (Kd.F_kept hm2.out hk (fun k ho e => HOM.out k ho (.inr (.inr (.inl e)))))); rintro e w9 ⟨rfl, hR9, hB9, hK9⟩; have n0_ := Aside0.mk (HQ.out.feed HAD2.out.2 hK9 (Kd.R_mono (Kd.R_tight rfl hR9) (fun k hk => by simp [Value.ownBlock] at hk; exact hk))); have n1_ := Aside0.mk hB9; have n2_ := Aside0.mk (hk2.out.then_ hK9 (fun k hk => .inl (.inr (.inr (.inl hk))))); clear HQ hb2 hk2 hm2 hR9 hB9 hK9; have HQ := n0_; have hb2 := n1_; have hk2 := n2_; clear n0_ n1_ n2_))
  go_ret
  exact ⟨rfl, hb2.out, fun h => absurd rfl h, hk2.out, fun _ => HQ.out⟩
 ·have d0 : (r3 == 0) = false := beq_eq_false_iff_ne.mpr cr
  have d1 : (r3 != 0) = true := bne_iff_ne.mpr cr
  go_enter Try.func8, Try.ntmps8
  go_wp2_with (first | (go_at_call 22; (with_reducible refine (chest_Fill.calls K c.f0 A1 c1 c.f1 A cM m r1 r2 _ _ HC1.out hc1 (Kd.F_now HM.out) hcM HF.out).mono ?_); rintro e w3 ⟨v1, rfl, hoR, hb⟩; obtain ⟨Ao, co, eo⟩ := Kd.R_slice hoR; subst eo; have n0_ := Aside0.mk (HP.out.below hb); have n1_ := Aside0.mk (below_step HB.out hb); have n2_ := Aside0.mk (Kept.below HK.out hb); have n3_ := Aside0.mk hoR; have m9_ := Aside0.mk (Kd.F_below HM.out hb); clear HP HB HK HM hoR hb c4 e0 e1; have HM := m9_; clear m9_; have HP := n0_; have HB := n1_; have HK := n2_; have HO := n3_; clear n0_ n1_ n2_ n3_) | ((with_reducible refine gate_dst (N := 7) rfl ?_); refine box_event ?hg (N := 7) ?hd (cs := #[.int .i64 0, .slice none 0 0]) (t := 56) ?hr ?_; (case hd => rfl); (case hg => rfl); (case hr => first | (go_simp; done) | (go_simp; rfl)); intro g7 hg w4 hbox hb; have n1_ := Aside0.mk (below_step HB.out hb); have n2_ := Aside0.mk (Kept.of_below hb (fun _ => False)); have n4_ := Aside0.mk hbox; have n5_ := Aside0.mk (show w3.heap.size ≤ g7 by rw [hg]; exact Nat.le_refl _); have n6_ := Aside0.mk (below_size HB.out); clear HB hbox hg hb; have HB := n1_; have HK34 := n2_; have K7 := n4_; have G7 := n5_; have HBS := n6_; clear n1_ n2_ n4_ n5_ n6_; have c70 : w4.cell? ⟨g7, 0, none⟩ = some (.int .i64 0) := (blk_cell K7.out 0).trans rfl; have c71 : w4.cell? ⟨g7, 1, none⟩ = some (.slice none 0 0) := (blk_cell K7.out 1).trans rfl; have f70 := blk_frozen K7.out 0; have f71 := blk_frozen K7.out 1))
  go_ret
  exact ⟨rfl, below_set (below_set HB.out (Nat.le_trans HBS.out G7.out)) (Nat.le_trans HBS.out G7.out), fun _ => HK.out.then_ ((HK34.out.setCell (p := ⟨g7, 0, none⟩) (.inr G7.out) _).setCell (p := ⟨g7, 1, none⟩) (.inr G7.out) _) (fun _ hk => hk.elim), (HK.out.then_ ((HK34.out.setCell (p := ⟨g7, 0, none⟩) (.inr G7.out) _).setCell (p := ⟨g7, 1, none⟩) (.inr G7.out) _) (fun _ hk => hk.elim)).mono (fun _ h => h.elim), fun h => absurd h cr⟩

set_option maxHeartbeats 1000000 in
set_option maxRecDepth 100000 in
theorem feed_none (ex : Nat → Prop) (g : PX) (s : Pl) (b : Nat) (w : World) (hP : PAt w b ex g s) (i : Int) (hi : i < 0 ∨ (s.chests.length : Int) ≤ i) (A : Option Addr) (cM n : Nat) :
  Calls Try.prog 8 #[.pointer (some ⟨g.gx, 0, none⟩), .int .i64 i, .slice A n cM] w fun e w' => e = .returned (.int .i64 7) ∧ Below w.heap.size w w' := by
 have c4 : w.cell? ⟨g.gx, 4, none⟩ = some (.slice (some ⟨g.gc, 0, none⟩) s.chests.length g.cc) := (blk_cell hP.kx 4).trans rfl
 clear hP
 by_cases h0 : i < 0
 ·have p2 : decide (i < 0) = true := decide_eq_true h0
  go_enter Try.func8, Try.ntmps8
  go_wp2
  go_ret
  exact ⟨rfl, by first | exact Below.refl _ _ | exact pw_below_drewN (Below.refl _ _) _⟩
 ·have p2 : decide (i < 0) = false := decide_eq_false h0
  have p3 : decide ((s.chests.length : Int) ≤ i) = true := decide_eq_true (by omega)
  go_enter Try.func8, Try.ntmps8
  go_wp2
  go_ret
  exact ⟨rfl, by first | exact Below.refl _ _ | exact pw_below_drewN (Below.refl _ _) _⟩
end Go.Proofs.Ytgbjlcaanagfnaa.P

namespace Go.Proofs.Ytgbjlcaanagfnaa.P
open Go.RowKit Go.Proofs.YtgbjlcaanagfnaaW.PrintWords Go.Proofs.YtgbjlcaanagfnaaW.PrintLast Go.Proofs.YtgbjlcaanagfnaaW.PrintMore
set_option linter.unusedVariables false
set_option linter.unusedSimpArgs false

set_option maxHeartbeats 1000000 in
set_option maxRecDepth 100000 in
theorem pipe_calls (K : Nat) (ex : Nat → Prop) (g : PX) (s : Pl) (b : Nat) (w : World) (hP : PAt w b ex g s) (r : List Int) (q : Int) (h : pipe_Content.f K s.hold s.plugs = some (r, q)) :
  Calls Try.prog 12 #[.pointer (some ⟨g.gx, 0, none⟩)] w fun e w' => ∃ v : Value, e = .returned v ∧ Kd.R (Kd.int .i64) 3 w' w.heap.size (fun _ => True) v r ∧ Below w.heap.size w w' := by
 have c5 : w.cell? ⟨g.gx, 5, none⟩ = some (.int .i64 s.hold) := (blk_cell hP.kx 5).trans rfl
 have c6 : w.cell? ⟨g.gx, 6, none⟩ = some (.slice g.QA s.plugs.length g.qc) := (blk_cell hP.kx 6).trans rfl
 have HP := Aside0.mk hP
 have H := Aside0.mk h
 clear hP h
 go_enter Try.func12, Try.ntmps12
 go_wp2_with (first | (go_at_call 25; (with_reducible refine (pipe_Content.calls K s.hold g.QA g.qc s.plugs r q _ (Kd.F_now HP.out.hq) HP.out.qc H.out).mono ?_); rintro e w1 ⟨v, rfl, hR, hb⟩; have HR := Aside0.mk hR; have HB := Aside0.mk hb; clear hR hb))
 go_ret
 exact ⟨v, rfl, HR.out, HB.out⟩
set_option maxHeartbeats 1000000 in
set_option maxRecDepth 100000 in
theorem chests_calls (ex : Nat → Prop) (g : PX) (s : Pl) (b : Nat) (w : World) (hP : PAt w b ex g s) (hl : s.chests.length ≤ 1000) (hpos : ∀ c ∈ s.chests, 0 < c.f1.length ∧ c.f1.length ≤ 1000) :
  Calls Try.prog 11 #[.pointer (some ⟨g.gx, 0, none⟩)] w fun e w' => ∃ v : Value, e = .returned v ∧ Kd.N (Kd.slice 3 (Kd.int .i64)) 22 w' w.heap.size (fun k => w.heap.size ≤ k) v (s.chests.map fun c => c.f1) ∧ Below w.heap.size w w' := by
 have c4 : w.cell? ⟨g.gx, 4, none⟩ = some (.slice (some ⟨g.gc, 0, none⟩) s.chests.length g.cc) := (blk_cell hP.kx 4).trans rfl
 have HP := Aside0.mk hP
 have HPO := Aside0.mk hpos
 clear hP hpos
 go_enter Try.func11, Try.ntmps11
 go_wp2
 clear c4
 go_loopg [3, 13] s.chests.length (fun kx s3 s13 wr => ∃ (i : Nat), s13 = .int .i64 i ∧ i ≤ s.chests.length ∧ s.chests.length - i ≤ kx ∧ Aside0 (Kd.N (Kd.slice 3 (Kd.int .i64)) 22 wr w.heap.size (fun k => w.heap.size ≤ k) s3 ((s.chests.take i).map fun c => c.f1)) ∧ Aside0 (Below w.heap.size w wr))
 case atStart => exact ⟨0, rfl, Nat.zero_le _, by omega, ⟨Kd.N_nil _ _ _ _ _⟩, ⟨Below.refl _ _⟩⟩
 case round =>
  obtain ⟨i, rfl, hi, hg, HO, HB⟩ := hrel
  obtain ⟨Ao, co, eo⟩ := Kd.N_slice HO.out
  generalize hmo : (List.map (fun c : S56 => c.f1) (s.chests.take i)).length = mo at eo
  subst eo
  by_cases hlt : i < s.chests.length
  ·have hx : s.chests.getD i ⟨0, []⟩ = s.chests[i] := by rw [List.getD_eq_getElem?_getD, List.getElem?_eq_getElem hlt]; rfl
   have HTK := Aside0.mk (show (s.chests.take (i + 1)).map (fun c => c.f1) = (s.chests.take i).map (fun c => c.f1) ++ [(s.chests[i]).f1] from by rw [List.take_succ_eq_append_getElem hlt, List.map_append]; rfl)
   have hpo := HPO.out _ (List.getElem_mem hlt)
   obtain ⟨cl, hcl, hfk, hcc, _⟩ := Kd.N_elem (HP.out.below HB.out).hc ⟨0, []⟩ (i : Int) (by omega) (by omega)
   rw [Int.toNat_natCast, hx] at hfk
   rw [Int.toNat_natCast] at hcc
   generalize s.chests[i] = x at *
   obtain ⟨A1, c1, rfl, hcx, hF1⟩ := k56_openF hfk
   have e0 : wr.cell? ⟨g.gc, i * 2, none⟩ = some (.int .i64 x.f0) := hcc 0 _ rfl
   have e1 : wr.cell? ⟨g.gc, i * 2 + 1, none⟩ = some (.slice A1 x.f1.length c1) := hcc 1 _ rfl
   have HF := Aside0.mk hF1
   have HLL := Aside0.mk (show ((s.chests.take i).map fun c => c.f1).length ≤ 1000 from by rw [List.length_map, List.length_take]; omega)
   have HSC := Aside0.mk (show slices_Clone.f x.f1 = some x.f1 from by unfold slices_Clone.f; rw [if_pos (by omega)])
   generalize (List.map (fun c : S56 => c.f1) (s.chests.take i)) = L at *
   have p1 : (0 ≤ (i : Int)) = True := eq_true (by omega)
   have q1 : ((i : Int) < (s.chests.length : Int)) = True := eq_true (by omega)
   have hw : IntKind.i64.wrap ((i : Int) + 1) = ((i + 1 : Nat) : Int) := by rw [IntKind.wrap_i64]; omega
   clear hcl hfk hcc hF1 hx
   go_upto_region 7 with (first | ((with_reducible refine gate_dst (N := 5) rfl ?_); refine box_event ?hg (N := 5) ?hd (cs := #[.int .i64 0, .slice none 0 0]) (t := 56) ?hr ?_; (case hd => rfl); (case hg => rfl); (case hr => first | (go_simp; done) | (go_simp; rfl)); intro g5 hg w2 hbox hb; have K5 := Aside0.mk hbox; have G5 := Aside0.mk (show w.heap.size ≤ g5 by rw [hg]; exact below_size HB.out); have G5r := Aside0.mk (show wr.heap.size ≤ g5 by rw [hg]; exact Nat.le_refl _); have HB2 := Aside0.mk (below_step HB.out hb); have HK2 := Aside0.mk (Kept.of_below hb (fun _ => False)); clear hb hbox hg; have c50 : w2.cell? ⟨g5, 0, none⟩ = some (.int .i64 0) := (blk_cell K5.out 0).trans rfl; have c51 : w2.cell? ⟨g5, 1, none⟩ = some (.slice none 0 0) := (blk_cell K5.out 1).trans rfl; have f50 := blk_frozen K5.out 0; have f51 := blk_frozen K5.out 1))
   generalize hW : World.setCell (World.setCell w2 _ _) _ _ = w3
   have HK3 := Aside0.mk (show Kept wr w3 (fun _ => False) from by rw [← hW]; exact (HK2.out.setCell (p := ⟨g5, 0, none⟩) (.inr G5r.out) _).setCell (p := ⟨g5, 1, none⟩) (.inr G5r.out) _)
   have HB3 := Aside0.mk (show Below w.heap.size w w3 from by rw [← hW]; exact below_set (below_set HB2.out G5.out) G5.out)
   have K53 := Aside0.mk (show w3.heap[g5]? = some (.cells #[.int .i64 x.f0, .slice A1 x.f1.length c1] 56 (0, 0)) from by rw [← hW]; exact blk_put (blk_put K5.out 0 _ rfl) 1 _ rfl)
   have HO3 := Aside0.mk (Kd.N_kept HO.out HK3.out (fun _ _ h => h))
   have HF3 := Aside0.mk (Kd.F_kept HF.out HK3.out (fun _ _ h => h))
   clear hW HB2 HK2 HB HO HF K5 c50 c51 f50 f51 e0 e1
   have c51 : w3.cell? ⟨g5, 1, none⟩ = some (.slice A1 x.f1.length c1) := (blk_cell K53.out 1).trans rfl
   go_wp2_with (first | (go_at_call 14; (with_reducible refine (slices_Clone.calls _ _ x.f1 x.f1 _ (Kd.F_now HF3.out) hcx HSC.out).mono ?_); rintro e w4 ⟨v1, rfl, hR, hb⟩; obtain ⟨gr, cr, ec, gb_, gl_, gk_, gq_⟩ := Kd.R_form hR (by omega); subst ec; have n0_ := Aside0.mk (Kd.N_elder' HO3.out (Kd.R_base hR) hb); have n1_ := Aside0.mk (below_step HB3.out hb); have n2_ := Aside0.mk (Kd.R_lower hR (below_size HB3.out)); clear HO3 HB3 hR hb gb_ gl_ gk_ gq_; have HO4 := n0_; have HB4 := n1_; have HR4 := n2_; clear n0_ n1_ n2_) | ((with_reducible refine gate_builtin (b := .append) (xs := #[.tmp 17, .tmp 21]) rfl ?_); at_builtin; refine Kd.N_append (Kd.slice 3 (Kd.int .i64)) (w0 := w) w.heap.size rfl (.tmp 17) (.tmp 21) 26 22 (.slice none 0 0) 24 rfl Try.underlying26 info22 rfl (by decide) (by omega) (.slice Ao mo co) L x.f1 [.slice (some ⟨gr, 0, none⟩) x.f1.length cr] (fun k => w.heap.size ≤ k) (fun k => some k = (Value.slice (some ⟨gr, 0, none⟩) x.f1.length cr).ownBlock) rfl rfl ?fk ?okp ?fr ?HO ?HB ?hb ?hl ?_; (case fk => exact Kd.FK_of_M (show (Kd.slice 3 (Kd.int .i64)).M _ w.heap.size _ x.f1 [.slice (some ⟨gr, 0, none⟩) x.f1.length cr] from ⟨_, rfl, Kd.R_tight rfl HR4.out⟩)); (case okp => exact fun k hk => ⟨Kd.R_base HR4.out k hk.symm, fun e => (HO4.out.1 k e.symm).2 hk⟩); (case fr => exact fun k hk => Nat.le_trans (below_size HB4.out) hk); (case HO => exact Kd.N_mono HO4.out (fun k hk => hk.1)); (case HB => exact HB4.out); (case hb => exact below_size HB4.out); (case hl => have h1_ := HLL.out; omega); intro v1 w5 hN hbN hgN hatN; have n0_ := Aside0.mk hN; have n1_ := Aside0.mk hbN; clear hN hbN hgN hatN HO4 HB4 HR4; have HO5 := n0_; have HB5 := n1_; clear n0_ n1_))
   go_roundg (s.chests.length - (i + 1))
   case measure => omega
   case rel => exact ⟨i + 1, by first | rfl | (rw [hw]; rfl) | simp, by omega, Nat.le_refl _, ⟨by rw [HTK.out]; exact HO5.out⟩, HB5⟩
  ·obtain rfl : i = s.chests.length := by omega
   have hO := HO.out
   rw [List.take_length] at hO
   have HOO := Aside0.mk hO
   clear hO
   go_wp2
   go_ret
   exact ⟨_, rfl, HOO.out, HB.out⟩
end Go.Proofs.Ytgbjlcaanagfnaa.P
