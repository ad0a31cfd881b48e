/- pipe.Push where the pipe and the plug are valid: the walk. pipe.Push where the pipe and the plug are valid. -/
import Derived.Test.YtgbjlcaanagfnaaHandSort
import Derived.Test.YtgbjlcaanagfnaaPlantW
import Derived.Test.YtgbjlcaanagfnaaPx3
import Derived.Test.YtgbjlcaanagfnaaPx1
import Derived.Deep.QuietTactic
import Derived.BigQuiet
import Derived.RegionTactic
import Derived.WalkKit
import Derived.Deep.LoopGhost
namespace Go.Proofs.Ytgbjlcaanagfnaa.P
open Go.RowKit Go.Proofs.YtgbjlcaanagfnaaW.PrintWords Go.Proofs.YtgbjlcaanagfnaaW.PrintLast Go.Proofs.YtgbjlcaanagfnaaW.PrintMore
open List (setIfInBounds_toArray set_cons_zero set_cons_succ)
set_option linter.unusedVariables false
set_option linter.unusedSimpArgs false

structure PS where
 mis : Int
 left : List Int
 outs : List (List Int)
def rsTo (rest part : List Int) : Nat → List Int
 | 0 => rest
 | i + 1 => (rsTo rest part i).set i (wrap64 (rd (rsTo rest part i) (i : Int) - rd part (i : Int)))
theorem rsTo_len (rest part : List Int) : ∀ i, (rsTo rest part i).length = rest.length
 | 0 => rfl
 | i + 1 => by simp [rsTo, rsTo_len rest part i]
def pushOne (s : PS) (plug : List Int) : PS :=
 if plug.sum ≤ s.mis then ⟨lvM s.mis plug plug.length, lvL s.left plug plug.length, s.outs⟩
 else if 0 < s.mis then ⟨lvM s.mis (splitL s.mis plug) plug.length, lvL s.left (splitL s.mis plug) plug.length, s.outs ++ [rsTo plug (splitL s.mis plug) plug.length]⟩
 else ⟨s.mis, s.left, s.outs ++ [plug]⟩

/-- The blocks that the walk writes, and the others. -/
structure PG where
 g2 : Nat
 g4 : Nat
 g10 : Nat
 g11 : Nat
 g12 : Nat
 gl : Nat
def okO (w0 : World) (G : PG) (k : Nat) : Prop := w0.heap.size ≤ k ∧ k ≠ G.g2 ∧ k ≠ G.g4 ∧ k ≠ G.g10 ∧ k ≠ G.g11 ∧ k ≠ G.g12 ∧ k ≠ G.gl
structure PInv (w0 W : World) (hold : Int) (Vp : Value) (n cap : Nat) (G : PG) (vo : Value) (s : PS) (ok : Nat → Prop) : Prop where
 hb : Below w0.heap.size w0 W
 k2 : W.heap[G.g2]? = some (.cells #[.int .i64 hold, Vp] 51 (0, 0))
 k4 : W.heap[G.g4]? = some (.cells #[.int .i64 0, .slice none 0 0] 51 (0, 0))
 k10 : W.heap[G.g10]? = some (.cells #[.int .i64 s.mis] 3 (0, 0))
 k11 : W.heap[G.g11]? = some (.cells #[.int .i64 hold, vo] 51 (0, 0))
 k12 : W.heap[G.g12]? = some (.cells #[.slice (some ⟨G.gl, 0, none⟩) n cap] 22 (0, 0))
 hl : Kd.R (Kd.int .i64) 3 W w0.heap.size (fun k => k = G.gl) (.slice (some ⟨G.gl, 0, none⟩) n cap) s.left
 ho : Kd.N (Kd.slice 3 (Kd.int .i64)) 22 W w0.heap.size ok vo s.outs
structure PNe (w0 : World) (G : PG) : Prop where
 e2 : w0.heap.size ≤ G.g2
 e4 : w0.heap.size ≤ G.g4
 e10 : w0.heap.size ≤ G.g10
 e11 : w0.heap.size ≤ G.g11
 e12 : w0.heap.size ≤ G.g12
 el : w0.heap.size ≤ G.gl
 n42 : G.g4 ≠ G.g2
 n11_2 : G.g11 ≠ G.g2
 n11_4 : G.g11 ≠ G.g4
 nl10 : G.gl ≠ G.g10
section
variable {w0 W W' : World} {hold : Int} {Vp : Value} {n cap : Nat} {G : PG} {vo : Value} {s : PS} {ok : Nat → Prop}
theorem PInv.below (h : PInv w0 W hold Vp n cap G vo s ok) (hb : Below W.heap.size W W') : PInv w0 W' hold Vp n cap G vo s ok :=
 ⟨below_step h.hb hb, blk_below h.k2 hb, blk_below h.k4 hb, blk_below h.k10 hb, blk_below h.k11 hb, blk_below h.k12 hb, Kd.R_below h.hl hb, Kd.N_below h.ho hb⟩
theorem PInv.drew (h : PInv w0 W hold Vp n cap G vo s ok) : PInv w0 W.drew hold Vp n cap G vo s ok := h.below (below_drew (Below.refl _ _))
theorem PInv.drewN (h : PInv w0 W hold Vp n cap G vo s ok) (m : Nat) : PInv w0 (W.drewN m) hold Vp n cap G vo s ok := h.below (pw_below_drewN (Below.refl _ _) m)
theorem PInv.lt_l (h : PInv w0 W hold Vp n cap G vo s ok) : G.gl < W.heap.size := Kd.R_lt h.hl G.gl rfl
theorem PInv.ne_l (h : PInv w0 W hold Vp n cap G vo s ok) {g : Nat} {cs : Array Value} {t : Nat} (hg : W.heap[g]? = some (.cells cs t (0, 0))) (ht : t ≠ 3) : g ≠ G.gl := fun e => by
 obtain ⟨cells, hc⟩ := Kd.R_typed h.hl G.gl rfl
 subst e
 rw [hg] at hc
 injection hc with hc
 injection hc with _ hc
 exact ht hc
/-- What is laid later is none of these. -/
theorem PInv.fresh (h : PInv w0 W hold Vp n cap G vo s ok) (k : Nat) (hk : W.heap.size ≤ k) : okO w0 G k := by
 have l2 := blk_lt h.k2; have l4 := blk_lt h.k4; have l10 := blk_lt h.k10; have l11 := blk_lt h.k11; have l12 := blk_lt h.k12; have ll := h.lt_l
 have := h.hb.size
 exact ⟨by omega, by omega, by omega, by omega, by omega, by omega, by omega⟩
/-- After the closure. -/
theorem PInv.left (h : PInv w0 W hold Vp n cap G vo s ok) (hok : ∀ k, ok k → okO w0 G k) (hb : Below w0.heap.size w0 W') (hk : Kept W W' (lvS G.g10 G.gl)) {m : Int} {l : List Int} (h10 : W'.heap[G.g10]? = some (.cells #[.int .i64 m] 3 (0, 0))) (hl : Kd.R (Kd.int .i64) 3 W' w0.heap.size (fun k => k = G.gl) (.slice (some ⟨G.gl, 0, none⟩) n cap) l) : PInv w0 W' hold Vp n cap G vo ⟨m, l, s.outs⟩ ok :=
 ⟨hb, blk_kept h.k2 hk (fun e => e.elim (blk_ne h.k2 h.k10 (by decide)) (h.ne_l h.k2 (by decide))), blk_kept h.k4 hk (fun e => e.elim (blk_ne h.k4 h.k10 (by decide)) (h.ne_l h.k4 (by decide))), h10, blk_kept h.k11 hk (fun e => e.elim (blk_ne h.k11 h.k10 (by decide)) (h.ne_l h.k11 (by decide))), blk_kept h.k12 hk (fun e => e.elim (blk_ne h.k12 h.k10 (by decide)) (h.ne_l h.k12 (by decide))), hl, Kd.N_kept h.ho hk (fun k ho e => e.elim (hok k ho).2.2.2.1 (hok k ho).2.2.2.2.2.2)⟩
theorem PInv.ok_mono (h : PInv w0 W hold Vp n cap G vo s ok) {ok' : Nat → Prop} (hok : ∀ k, ok k → ok' k) : PInv w0 W hold Vp n cap G vo s ok' := ⟨h.hb, h.k2, h.k4, h.k10, h.k11, h.k12, h.hl, Kd.N_mono h.ho hok⟩
/-- A new row of one's own, told apart from what was there. -/
theorem PInv.apart (h : PInv w0 W hold Vp n cap G vo s ok) {u : Value} (hu : ∀ k, u.ownBlock = some k → W.heap.size ≤ k) (hb : Below W.heap.size W W') : PInv w0 W' hold Vp n cap G vo s (fun k => ok k ∧ some k ≠ u.ownBlock) :=
 ⟨below_step h.hb hb, blk_below h.k2 hb, blk_below h.k4 hb, blk_below h.k10 hb, blk_below h.k11 hb, blk_below h.k12 hb, Kd.R_below h.hl hb, Kd.N_elder' h.ho hu hb⟩
/-- A store into a row that is none of these. -/
theorem PInv.far (h : PInv w0 W hold Vp n cap G vo s ok) {g : Nat} (hg : okO w0 G g) (hok : ∀ k, ok k → k ≠ g) (i : Nat) (v : Value) : PInv w0 (W.setCell ⟨g, i, none⟩ v) hold Vp n cap G vo s ok :=
 ⟨below_set h.hb hg.1, blk_far h.k2 (Ne.symm hg.2.1) _, blk_far h.k4 (Ne.symm hg.2.2.1) _, blk_far h.k10 (Ne.symm hg.2.2.2.1) _, blk_far h.k11 (Ne.symm hg.2.2.2.2.1) _, blk_far h.k12 (Ne.symm hg.2.2.2.2.2.1) _, Kd.R_far (p := ⟨g, i, none⟩) h.hl (fun k hk => by rw [hk]; exact Ne.symm hg.2.2.2.2.2.2) _, Kd.N_far (p := ⟨g, i, none⟩) h.ho hok _⟩
/-- A plug more. -/
theorem PInv.grown (h : PInv w0 W hold Vp n cap G vo s ok) (hok : ∀ k, ok k → okO w0 G k) (hb : Below w0.heap.size w0 W') (hg : W.grownBy W' vo.ownBlock) : W'.heap[G.g11]? = some (.cells #[.int .i64 hold, vo] 51 (0, 0)) :=
 blk_grown h.k11 hg (fun e => (hok _ (h.ho.1 _ e.symm)).2.2.2.2.1 rfl)
theorem PInv.push (h : PInv w0 W hold Vp n cap G vo s ok) (hok : ∀ k, ok k → okO w0 G k) (ne : PNe w0 G) {v1 : Value} {outs' : List (List Int)} (hN : Kd.N (Kd.slice 3 (Kd.int .i64)) 22 W' w0.heap.size (okO w0 G) v1 outs') (hb : Below w0.heap.size w0 W') (hg : W.grownBy W' vo.ownBlock) :
  PInv w0 (W'.setCell ⟨G.g11, 1, none⟩ v1) hold Vp n cap G v1 ⟨s.mis, s.left, outs'⟩ (okO w0 G) := by
 have hv : ∀ k, vo.ownBlock = some k → okO w0 G k := fun k hk => hok k (h.ho.1 k hk)
 have k11' := h.grown hok hb hg
 exact ⟨below_set hb ne.e11, blk_far (blk_grown h.k2 hg (fun e => (hv _ e.symm).2.1 rfl)) ne.n11_2.symm _, blk_far (blk_grown h.k4 hg (fun e => (hv _ e.symm).2.2.1 rfl)) ne.n11_4.symm _, blk_far (blk_grown h.k10 hg (fun e => (hv _ e.symm).2.2.2.1 rfl)) (blk_ne h.k10 h.k11 (by decide)) _, blk_put k11' 1 _ rfl,
  blk_far (blk_grown h.k12 hg (fun e => (hv _ e.symm).2.2.2.2.2.1 rfl)) (blk_ne h.k12 h.k11 (by decide)) _, Kd.R_far (p := ⟨G.g11, 1, none⟩) (Kd.R_grown h.hl hg (fun k hk e => (hv _ e.symm).2.2.2.2.2.2 hk)) (fun k hk => by rw [hk]; exact Ne.symm (h.ne_l h.k11 (by decide))) _, Kd.N_far (p := ⟨G.g11, 1, none⟩) hN (fun k hk => hk.2.2.2.2.1) _⟩
end
def pst (l0 : List (List Int)) (s0 : PS) (i : Nat) : PS := (l0.take i).foldl pushOne s0
theorem pst_step (l0 : List (List Int)) (s0 : PS) (i : Nat) (h : i < l0.length) : pst l0 s0 (i + 1) = pushOne (pst l0 s0 i) l0[i] := by
 unfold pst; rw [List.take_succ_eq_append_getElem h, List.foldl_append]; rfl

def pushS (n : Nat) (l0 : List (List Int)) (l1 : List Int) : PS := pst l0 ⟨l1.sum, List.replicate n 0, []⟩ l0.length
theorem pushOne_left (s : PS) (p : List Int) : (pushOne s p).left.length = s.left.length := by
 unfold pushOne
 split
 ·exact lvL_len _ _ _
 ·split
  ·exact lvL_len _ _ _
  ·rfl
theorem pst_left (l : List (List Int)) : ∀ s0 : PS, (l.foldl pushOne s0).left.length = s0.left.length := by
 induction l with
 | nil => intro s0; rfl
 | cons p l ih => intro s0; rw [List.foldl_cons, ih, pushOne_left]
theorem pushOne_outs (s : PS) (p : List Int) : (pushOne s p).outs.length ≤ s.outs.length + 1 := by
 unfold pushOne
 split
 ·simp
 ·split <;> simp
theorem pst_outs (l : List (List Int)) : ∀ s0 : PS, (l.foldl pushOne s0).outs.length ≤ s0.outs.length + l.length := by
 induction l with
 | nil => intro s0; simp
 | cons p l ih => intro s0; have := ih (pushOne s0 p); have := pushOne_outs s0 p; rw [List.foldl_cons, List.length_cons]; omega

set_option maxHeartbeats 1000000 in
set_option maxRecDepth 100000 in
theorem push_walk (K : Nat) (hold : Int) (A0 : Option Addr) (c0 : Nat) (l0 : List (List Int)) (A1 : Option Addr) (c1 : Nat) (l1 : List Int) (n : Nat) (w : World) (hr0 : Kd.C (Kd.slice 3 (Kd.int .i64)) w A0 l0.length l0) (hc0 : l0.length ≤ c0) (hr1 : Kd.C (Kd.int .i64) w A1 l1.length l1) (hc1 : l1.length ≤ c1)
  (hck : pipe_Check.f K hold l0 = some 0) (hpt : fibre_Parts.f l1 (n : Int) = some 0) (hl0 : 0 < l0.length) (hl256 : l0.length ≤ 256) (hlen : ∀ p ∈ l0, p.length = n) (hn1 : l1.length = n) (hn0 : 0 < n) (hn8 : n ≤ 8) (hsm : ∀ p ∈ l0, pipe_sum.f K p = some p.sum) (hsi : pipe_sum.f K l1 = some l1.sum) (hmh : l1.sum ≤ hold) (hgw : ∀ p ∈ l0, ∀ m : Int, 0 < m → m < p.sum → goodW m p) (hs0 : 0 < l1.sum) :
  Calls Try.prog 57 #[.agg #[.int .i64 hold, .slice A0 l0.length c0], .slice A1 l1.length c1] w fun e w' => Below w.heap.size w w' ∧ (256 < (pushS n l0 l1).outs.length + 1 → e = .returned (.tuple #[.agg #[.int .i64 0, .slice none 0 0], .slice none 0 0, .int .i64 8])) ∧ ((pushS n l0 l1).outs.length + 1 ≤ 256 → ∃ vo vl : Value, e = .returned (.tuple #[.agg #[.int .i64 hold, vo], vl, .int .i64 0]) ∧ Kd.N (Kd.slice 3 (Kd.int .i64)) 22 w' w.heap.size (fun k => w.heap.size ≤ k) vo ((pushS n l0 l1).outs ++ [l1]) ∧ Kd.R (Kd.int .i64) 3 w' w.heap.size (fun _ => True) vl (pushS n l0 l1).left) := by
 have HR0 := Aside0.mk hr0
 have HR1 := Aside0.mk hr1
 have HC0 := Aside0.mk hc0
 have HC1 := Aside0.mk hc1
 have HCK := Aside0.mk hck
 have HPT := Aside0.mk hpt
 have HSI := Aside0.mk hsi
 have HSM := Aside0.mk hsm
 have HLEN := Aside0.mk hlen
 have HGW := Aside0.mk hgw
 clear hgw
 have HB := Aside0.mk (Below.refl w.heap.size w)
 have HN1 := Aside0.mk hn1
 obtain ⟨adp, A2, c2, eA, hxp, hlc2, hrp2⟩ := at_L1 hr0 0 (by omega) (by omega)
 subst eA
 have hp0 : (rd_L1 l0 0).length = n := hlen _ (by unfold rd_L1; rw [List.getD_eq_getElem?_getD]; cases l0 with | nil => simp at hl0 | cons x xs => simp)
 rw [hp0] at hxp
 have HXP := Aside0.mk hxp
 clear hr0 hr1 hc0 hc1 hck hpt hsi hsm hlen hn1 hxp hlc2 hrp2 hp0
 have hd1 : decide (hold < l1.sum) = false := decide_eq_false (by omega)
 go_enter Try.func57, Try.ntmps57
 go_upto_region 4 with (first | ((with_reducible refine gate_dst (N := 2) rfl ?_); refine box_event ?hg (N := 2) ?hd (cs := #[.int .i64 hold, .slice (some adp) l0.length c0]) (t := 51) ?hr ?_; (case hd => rfl); (case hg => rfl); (case hr => first | (go_simp; done) | (go_simp; rfl)); intro g2 hg w1 hbox hb; have n0_ := Aside0.mk (below_step HB.out hb); have n1_ := Aside0.mk hbox; have n2_ := Aside0.mk (show w.heap.size ≤ g2 by rw [hg]; exact Nat.le_refl _); clear HB; have HB := n0_; have K2 := n1_; have GE2 := n2_; clear n0_ n1_ n2_ hb hbox hg) | ((with_reducible refine gate_dst (N := 4) rfl ?_); refine box_event ?hg (N := 4) ?hd (cs := #[.int .i64 0, .slice none 0 0]) (t := 51) ?hr ?_; (case hd => rfl); (case hg => rfl); (case hr => first | (go_simp; done) | (go_simp; rfl)); intro g4 hg w2 hbox hb; have n0_ := Aside0.mk (below_step HB.out hb); have n1_ := Aside0.mk hbox; have n2_ := Aside0.mk (blk_below (g := g2) (o := .cells #[.int .i64 hold, .slice (some adp) l0.length c0] 51 (0, 0)) K2.out hb); have n3_ := Aside0.mk (show w.heap.size ≤ g4 by rw [hg]; exact below_size HB.out); have n4_ := Aside0.mk (show g4 ≠ g2 from fun e => absurd (blk_lt K2.out) (by rw [← e, hg]; exact Nat.lt_irrefl _)); clear HB K2; have HB := n0_; have K4 := n1_; have K2 := n2_; have GE4 := n3_; have N42 := n4_; clear n0_ n1_ n2_ n3_ n4_ hb hbox hg; have c20 : w2.cell? ⟨g2, 0, none⟩ = some (.int .i64 hold) := (blk_cell K2.out 0).trans rfl; have c21 : w2.cell? ⟨g2, 1, none⟩ = some (.slice (some adp) l0.length c0) := (blk_cell K2.out 1).trans rfl) | (go_at_call 46; (with_reducible refine (pipe_Check.calls K hold (some adp) c0 l0 0 _ (Kd.C_below HR0.out HB.out) HC0.out HCK.out).mono ?_); rintro e w3 ⟨rfl, hb⟩; have n0_ := Aside0.mk (below_step HB.out hb); have n1_ := Aside0.mk (blk_below (g := g2) (o := .cells #[.int .i64 hold, .slice (some adp) l0.length c0] 51 (0, 0)) K2.out hb); have n2_ := Aside0.mk (blk_below (g := g4) (o := .cells #[.int .i64 0, .slice none 0 0] 51 (0, 0)) K4.out hb); clear HB K2 K4; have HB := n0_; have K2 := n1_; have K4 := n2_; clear n0_ n1_ n2_ hb))
 have c20 : w3.cell? ⟨g2, 0, none⟩ = some (.int .i64 hold) := (blk_cell K2.out 0).trans rfl
 have c21 : w3.cell? ⟨g2, 1, none⟩ = some (.slice (some adp) l0.length c0) := (blk_cell K2.out 1).trans rfl
 have hxp := (HB.out.cell (World.block_lt_of_cell? w _ HXP.out)).trans HXP.out
 have e0 : adp.add (Int.toNat 0) = adp := by rw [show Int.toNat 0 = 0 from rfl]; cases adp; simp [Addr.add]
 rw [e0] at hxp
 clear e0
 have p00 : ((0 : Int) < (l0.length : Int)) = True := eq_true (by omega)
 go_upto_region 9 with (first | (go_at_call 16; (with_reducible refine (fibre_Parts.calls A1 c1 l1 (n : Int) 0 _ (Kd.C_below HR1.out HB.out) HC1.out HPT.out).mono ?_); rintro e w4 ⟨rfl, hb⟩; have n0_ := Aside0.mk (below_step HB.out hb); have n1_ := Aside0.mk (blk_below (g := g2) (o := .cells #[.int .i64 hold, .slice (some adp) l0.length c0] 51 (0, 0)) K2.out hb); have n2_ := Aside0.mk (blk_below (g := g4) (o := .cells #[.int .i64 0, .slice none 0 0] 51 (0, 0)) K4.out hb); clear HB K2 K4 c20 c21 hxp; have HB := n0_; have K2 := n1_; have K4 := n2_; clear n0_ n1_ n2_ hb) | (go_at_call 32; (with_reducible refine (pipe_sum.calls K A1 c1 l1 l1.sum _ (Kd.C_below HR1.out HB.out) HC1.out HSI.out).mono ?_); rintro e w5 ⟨rfl, hd5⟩; have hb := hd5.below; clear hd5; have n0_ := Aside0.mk (below_step HB.out hb); have n1_ := Aside0.mk (blk_below (g := g2) (o := .cells #[.int .i64 hold, .slice (some adp) l0.length c0] 51 (0, 0)) K2.out hb); have n2_ := Aside0.mk (blk_below (g := g4) (o := .cells #[.int .i64 0, .slice none 0 0] 51 (0, 0)) K4.out hb); clear HB K2 K4; have HB := n0_; have K2 := n1_; have K4 := n2_; clear n0_ n1_ n2_ hb) | ((with_reducible refine gate_dst (N := 10) rfl ?_); refine box_event ?hg (N := 10) ?hd (cs := #[.int .i64 0]) (t := 3) ?hr ?_; (case hd => rfl); (case hg => rfl); (case hr => first | (go_simp; done) | (go_simp; rfl)); intro g10 hg w6 hbox hb; have n0_ := Aside0.mk (below_step HB.out hb); have n1_ := Aside0.mk (blk_below (g := g2) (o := .cells #[.int .i64 hold, .slice (some adp) l0.length c0] 51 (0, 0)) K2.out hb); have n2_ := Aside0.mk (blk_below (g := g4) (o := .cells #[.int .i64 0, .slice none 0 0] 51 (0, 0)) K4.out hb); have n3_ := Aside0.mk hbox; have n4_ := Aside0.mk (show w.heap.size ≤ g10 by rw [hg]; exact below_size HB.out); have n5_ := Aside0.mk (show g10 ≠ g2 ∧ g10 ≠ g4 from ⟨fun e => absurd (blk_lt K2.out) (by rw [← e, hg]; exact Nat.lt_irrefl _), fun e => absurd (blk_lt K4.out) (by rw [← e, hg]; exact Nat.lt_irrefl _)⟩); clear HB K2 K4; have HB := n0_; have K2 := n1_; have K4 := n2_; have K10 := n3_; have GE10 := n4_; have N10 := n5_; clear n0_ n1_ n2_ n3_ n4_ n5_ hb hbox hg; have c10 : w6.cell? ⟨g10, 0, none⟩ = some (.int .i64 0) := (blk_cell K10.out 0).trans rfl; have f10 := blk_frozen K10.out 0) | ((with_reducible refine gate_store (t := 3) (p := 10) rfl ?_); refine store_event (t := 3) (p := 10) (v := ?vo_1) (w1 := (w6.setCell ⟨g10, 0, none⟩ (.int .i64 l1.sum))) ?hg1 ?ho1 ?hn1 ?hr1 ?_; (case ho1 => rfl); (case hg1 => rfl); (case hn1 => rfl); (case hr1 => first | (go_simp; done) | (go_simp; rfl)); intro w7 hw7; have n0_ := Aside0.mk (show Below w.heap.size w w7 from (by rw [hw7]; exact below_set HB.out GE10.out)); have n1_ := Aside0.mk (show w7.heap[g2]? = some (.cells #[.int .i64 hold, .slice (some adp) l0.length c0] 51 (0, 0)) from (by rw [hw7]; exact blk_far K2.out N10.out.1.symm _)); have n2_ := Aside0.mk (show w7.heap[g4]? = some (.cells #[.int .i64 0, .slice none 0 0] 51 (0, 0)) from (by rw [hw7]; exact blk_far K4.out N10.out.2.symm _)); have n3_ := Aside0.mk (show w7.heap[g10]? = some (.cells #[.int .i64 l1.sum] 3 (0, 0)) from (by rw [hw7]; exact blk_put K10.out 0 _ rfl)); clear HB K2 K4 K10 c10 f10 hw7; have HB := n0_; have K2 := n1_; have K4 := n2_; have K10 := n3_; clear n0_ n1_ n2_ n3_))
 have c10 : w7.cell? ⟨g10, 0, none⟩ = some (.int .i64 l1.sum) := (blk_cell K10.out 0).trans rfl
 have c20 : w7.cell? ⟨g2, 0, none⟩ = some (.int .i64 hold) := (blk_cell K2.out 0).trans rfl
 go_upto_region 12 with (first | ((with_reducible refine gate_dst (N := 11) rfl ?_); refine box_event ?hg (N := 11) ?hd (cs := #[.int .i64 0, .slice none 0 0]) (t := 51) ?hr ?_; (case hd => rfl); (case hg => rfl); (case hr => first | (go_simp; done) | (go_simp; rfl)); intro g11 hg w8 hbox hb; have n0_ := Aside0.mk (below_step HB.out hb); have n1_ := Aside0.mk (blk_below (g := g2) (o := .cells #[.int .i64 hold, .slice (some adp) l0.length c0] 51 (0, 0)) K2.out hb); have n2_ := Aside0.mk (blk_below (g := g4) (o := .cells #[.int .i64 0, .slice none 0 0] 51 (0, 0)) K4.out hb); have n3_ := Aside0.mk (blk_below (g := g10) (o := .cells #[.int .i64 l1.sum] 3 (0, 0)) K10.out hb); have n4_ := Aside0.mk hbox; have n5_ := Aside0.mk (show w.heap.size ≤ g11 by rw [hg]; exact below_size HB.out); have n6_ := Aside0.mk (show g11 ≠ g2 ∧ g11 ≠ g4 ∧ g11 ≠ g10 from ⟨fun e => absurd (blk_lt K2.out) (by rw [← e, hg]; exact Nat.lt_irrefl _), fun e => absurd (blk_lt K4.out) (by rw [← e, hg]; exact Nat.lt_irrefl _), fun e => absurd (blk_lt K10.out) (by rw [← e, hg]; exact Nat.lt_irrefl _)⟩); clear HB K2 K4 K10 c10 c20; have HB := n0_; have K2 := n1_; have K4 := n2_; have K10 := n3_; have K11 := n4_; have GE11 := n5_; have N11 := n6_; clear n0_ n1_ n2_ n3_ n4_ n5_ n6_ hb hbox hg; have c110 : w8.cell? ⟨g11, 0, none⟩ = some (.int .i64 0) := (blk_cell K11.out 0).trans rfl; have c111 : w8.cell? ⟨g11, 1, none⟩ = some (.slice none 0 0) := (blk_cell K11.out 1).trans rfl; have f110 := blk_frozen K11.out 0; have f111 := blk_frozen K11.out 1))
 generalize hW : World.setCell (World.setCell w8 _ _) _ _ = w9
 have hb9 := Aside0.mk (show Below w.heap.size w w9 from by rw [← hW]; exact below_set (below_set HB.out GE11.out) GE11.out)
 have k29 := Aside0.mk (show w9.heap[g2]? = some (.cells #[.int .i64 hold, .slice (some adp) l0.length c0] 51 (0, 0)) from by rw [← hW]; exact blk_far (blk_far K2.out N11.out.1.symm _) N11.out.1.symm _)
 have k49 := Aside0.mk (show w9.heap[g4]? = some (.cells #[.int .i64 0, .slice none 0 0] 51 (0, 0)) from by rw [← hW]; exact blk_far (blk_far K4.out N11.out.2.1.symm _) N11.out.2.1.symm _)
 have k109 := Aside0.mk (show w9.heap[g10]? = some (.cells #[.int .i64 l1.sum] 3 (0, 0)) from by rw [← hW]; exact blk_far (blk_far K10.out N11.out.2.2.symm _) N11.out.2.2.symm _)
 have k119 := Aside0.mk (show w9.heap[g11]? = some (.cells #[.int .i64 hold, .slice none 0 0] 51 (0, 0)) from by rw [← hW]; exact blk_put (blk_put K11.out 0 _ rfl) 1 _ rfl)
 clear hW HB K2 K4 K10 K11 c110 c111 f110 f111
 have HB := hb9
 have K2 := k29
 have K4 := k49
 have K10 := k109
 have K11 := k119
 clear hb9 k29 k49 k109 k119
 go_upto_region 14 with (first | ((with_reducible refine gate_dst (N := 50) rfl ?_); refine Kd.R_make (Kd.int .i64) _ 3 rfl (N := 50) rfl 22 _ _ rfl (n : Int) rfl rfl Try.underlying22 (.int .i64 0) 8 info3 rfl (by decide) (by omega) 0 (ok := fun _ => True) (okp := fun _ => True) rfl (fun _ hk => hk) trivial (by omega) (by omega) (Below.refl _ _) (Nat.le_refl _) ?_; intro vl w10 ho hb hg_ hnew_; rw [Int.toNat_natCast] at ho; have n0_ := Aside0.mk (below_step HB.out hb); have n1_ := Aside0.mk (blk_below (g := g2) (o := .cells #[.int .i64 hold, .slice (some adp) l0.length c0] 51 (0, 0)) K2.out hb); have n2_ := Aside0.mk (blk_below (g := g4) (o := .cells #[.int .i64 0, .slice none 0 0] 51 (0, 0)) K4.out hb); have n3_ := Aside0.mk (blk_below (g := g10) (o := .cells #[.int .i64 l1.sum] 3 (0, 0)) K10.out hb); have n4_ := Aside0.mk (blk_below (g := g11) (o := .cells #[.int .i64 hold, .slice none 0 0] 51 (0, 0)) K11.out hb); obtain ⟨gl, cpl, ev, gb, gll, cll, HG⟩ := Kd.R_form ho (by rw [List.length_replicate]; exact hn0); rw [List.length_replicate] at ev; subst ev; have n5_ := Aside0.mk (Kd.R_mono (ok' := fun k => k = gl) (Kd.R_tight rfl (Kd.R_lower ho (below_size HB.out))) (fun k hk => by simp [Value.ownBlock] at hk; exact hk)); have n6_ := Aside0.mk (show w.heap.size ≤ gl from Nat.le_trans (below_size HB.out) gb); have n7_ := Aside0.mk (show gl ≠ g10 from fun e => absurd (blk_lt K10.out) (by rw [← e]; exact Nat.not_lt_of_le gb)); clear HB K2 K4 K10 K11 ho hb hg_ hnew_ gb gll HG; have HB := n0_; have K2 := n1_; have K4 := n2_; have K10 := n3_; have K11 := n4_; have HL := n5_; have GEL := n6_; have NL10 := n7_; clear n0_ n1_ n2_ n3_ n4_ n5_ n6_ n7_) | ((with_reducible refine gate_dst (N := 12) rfl ?_); refine box_event ?hg (N := 12) ?hd (cs := #[.slice none 0 0]) (t := 22) ?hr ?_; (case hd => rfl); (case hg => rfl); (case hr => first | (go_simp; done) | (go_simp; rfl)); intro g12 hg w11 hbox hb; have n0_ := Aside0.mk (below_step HB.out hb); have n1_ := Aside0.mk (blk_below (g := g2) (o := .cells #[.int .i64 hold, .slice (some adp) l0.length c0] 51 (0, 0)) K2.out hb); have n2_ := Aside0.mk (blk_below (g := g4) (o := .cells #[.int .i64 0, .slice none 0 0] 51 (0, 0)) K4.out hb); have n3_ := Aside0.mk (blk_below (g := g10) (o := .cells #[.int .i64 l1.sum] 3 (0, 0)) K10.out hb); have n4_ := Aside0.mk (blk_below (g := g11) (o := .cells #[.int .i64 hold, .slice none 0 0] 51 (0, 0)) K11.out hb); have n5_ := Aside0.mk hbox; have n6_ := Aside0.mk (Kd.R_below HL.out hb); have n7_ := Aside0.mk (show w.heap.size ≤ g12 by rw [hg]; exact below_size HB.out); clear HB K2 K4 K10 K11 HL; have HB := n0_; have K2 := n1_; have K4 := n2_; have K10 := n3_; have K11 := n4_; have K12 := n5_; have HL := n6_; have GE12 := n7_; clear n0_ n1_ n2_ n3_ n4_ n5_ n6_ n7_ hb hbox hg; have c120 : w11.cell? ⟨g12, 0, none⟩ = some (.slice none 0 0) := (blk_cell K12.out 0).trans rfl; have f120 := blk_frozen K12.out 0) | ((with_reducible refine gate_store (t := 22) (p := 12) rfl ?_); refine store_event (t := 22) (p := 12) (v := ?vo_2) (w1 := (w11.setCell ⟨g12, 0, none⟩ (.slice (some ⟨gl, 0, none⟩) n cpl))) ?hg2 ?ho2 ?hn2 ?hr2 ?_; (case ho2 => rfl); (case hg2 => rfl); (case hn2 => rfl); (case hr2 => first | (go_simp; done) | (go_simp; rfl)); intro w12 hw12; have m2 := blk_ne K2.out K12.out (by decide); have m4 := blk_ne K4.out K12.out (by decide); have m10 := blk_ne K10.out K12.out (by decide); have m11 := blk_ne K11.out K12.out (by decide); have n0_ := Aside0.mk (show Below w.heap.size w w12 from (by rw [hw12]; exact below_set HB.out GE12.out)); have n1_ := Aside0.mk (show w12.heap[g2]? = some (.cells #[.int .i64 hold, .slice (some adp) l0.length c0] 51 (0, 0)) from (by rw [hw12]; exact blk_far K2.out m2 _)); have n2_ := Aside0.mk (show w12.heap[g4]? = some (.cells #[.int .i64 0, .slice none 0 0] 51 (0, 0)) from (by rw [hw12]; exact blk_far K4.out m4 _)); have n3_ := Aside0.mk (show w12.heap[g10]? = some (.cells #[.int .i64 l1.sum] 3 (0, 0)) from (by rw [hw12]; exact blk_far K10.out m10 _)); have n4_ := Aside0.mk (show w12.heap[g11]? = some (.cells #[.int .i64 hold, .slice none 0 0] 51 (0, 0)) from (by rw [hw12]; exact blk_far K11.out m11 _)); have n5_ := Aside0.mk (show w12.heap[g12]? = some (.cells #[.slice (some ⟨gl, 0, none⟩) n cpl] 22 (0, 0)) from (by rw [hw12]; exact blk_put K12.out 0 _ rfl)); have n6_ := Aside0.mk (show Kd.R (Kd.int .i64) 3 w12 w.heap.size (fun k => k = gl) (.slice (some ⟨gl, 0, none⟩) n cpl) (List.replicate n 0) from (by rw [hw12]; exact Kd.R_set HL.out K12.out (by intro q hq; rw [show (Kd.int .i64).E = [] from rfl, List.mem_singleton] at hq; subst hq; decide) 0 _)); clear HB K2 K4 K10 K11 K12 HL c120 f120 hw12 m2 m4 m10 m11; have HB := n0_; have K2 := n1_; have K4 := n2_; have K10 := n3_; have K11 := n4_; have K12 := n5_; have HL := n6_; clear n0_ n1_ n2_ n3_ n4_ n5_ n6_))
 have c21 : w12.cell? ⟨g2, 1, none⟩ = some (.slice (some adp) l0.length c0) := (blk_cell K2.out 1).trans rfl
 have G : PNe w ⟨g2, g4, g10, g11, g12, gl⟩ := ⟨GE2.out, GE4.out, GE10.out, GE11.out, GE12.out, GEL.out, N42.out, N11.out.1, N11.out.2.1, NL10.out⟩
 have HP := Aside0.mk (show PInv w w12 hold (.slice (some adp) l0.length c0) n cpl ⟨g2, g4, g10, g11, g12, gl⟩ (.slice none 0 0) (pst l0 ⟨l1.sum, List.replicate n 0, []⟩ 0) (okO w ⟨g2, g4, g10, g11, g12, gl⟩) from ⟨HB.out, K2.out, K4.out, K10.out, K11.out, K12.out, HL.out, Kd.N_nil _ _ _ _ _⟩)
 have HG := Aside0.mk G
 clear G HB K2 K4 K10 K11 K12 HL GE2 GE4 GE10 GE11 GE12 GEL N42 N10 N11 NL10
 go_wp2
 clear c21
 have eg66 : ∀ args w, (callFunc 66 args).run Try.prog w = .ok (.enter 66 args) w := Go.Proofs.enters_of Try.func66 (by kernel_rfl) rfl
 have EG := Aside0.mk eg66
 clear eg66
 go_loopg [55] l0.length (fun kx s55 wr => ∃ (i : Nat) (vo : Value), s55 = .int .i64 i ∧ i ≤ l0.length ∧ l0.length - i ≤ kx ∧ Aside0 (PInv w wr hold (.slice (some adp) l0.length c0) n cpl ⟨g2, g4, g10, g11, g12, gl⟩ vo (pst l0 ⟨l1.sum, List.replicate n 0, []⟩ i) (okO w ⟨g2, g4, g10, g11, g12, gl⟩)))
 case atStart => exact ⟨0, _, rfl, Nat.zero_le _, by omega, HP⟩
 case round =>
  clear HP
  obtain ⟨i, vo, rfl, hi, hgk, HP⟩ := hrel
  by_cases hlt : i < l0.length
  ·obtain ⟨ad3, A3, c3, e3, hx3, hlc3, hr3⟩ := at_L1 HR0.out (i : Int) (by omega) (by omega)
   cases e3
   have ei : rd_L1 l0 (i : Int) = l0[i] := by unfold rd_L1; rw [Int.toNat_natCast, List.getD_eq_getElem?_getD, List.getElem?_eq_getElem hlt]; rfl
   rw [ei] at hx3 hlc3 hr3
   have hmem : l0[i] ∈ l0 := List.getElem_mem hlt
   have hpl := HLEN.out _ hmem
   have hps := HSM.out _ hmem
   have hgp := HGW.out _ hmem
   have hst := pst_step l0 ⟨l1.sum, List.replicate n 0, []⟩ i hlt
   generalize l0[i] = plug at *
   rw [Int.toNat_natCast] at hx3
   replace hx3 := (HP.out.hb.cell (World.block_lt_of_cell? w _ hx3)).trans hx3
   have HPL := Aside0.mk hpl
   have HPS := Aside0.mk hps
   have HGP := Aside0.mk hgp
   clear hgp
   have HC3 := Aside0.mk hlc3
   have HR3 := Aside0.mk hr3
   have HST := Aside0.mk hst
   have p1 : (0 ≤ (i : Int)) = True := eq_true (by omega)
   have q1 : ((i : Int) < (l0.length : Int)) = True := eq_true (by omega)
   have c10 : wr.cell? ⟨g10, 0, none⟩ = some (.int .i64 (pst l0 ⟨l1.sum, List.replicate n 0, []⟩ i).mis) := (blk_cell HP.out.k10 0).trans rfl
   clear hpl hps hlc3 hr3 hst ei hmem
   have hll : (pst l0 ⟨l1.sum, List.replicate n 0, []⟩ i).left.length = n := (pst_left _ _).trans (by simp)
   have hol : (pst l0 ⟨l1.sum, List.replicate n 0, []⟩ i).outs.length ≤ i := Nat.le_trans (pst_outs _ _) (by simp; omega)
   have HLL := Aside0.mk hll
   have HOL := Aside0.mk hol
   clear hll hol
   generalize hS : pst l0 ⟨l1.sum, List.replicate n 0, []⟩ i = S at *
   clear hS
   obtain ⟨mis, left, outs⟩ := S
   simp only at c10
   have hw : IntKind.i64.wrap ((i : Int) + 1) = ((i + 1 : Nat) : Int) := by rw [IntKind.wrap_i64]; omega
   go_wp2
   go_quiet ((go_at_call 32; exact Calls.quiet_of ((pipe_sum.calls K A3 c3 plug plug.sum _ (Kd.C_below HR3.out (by repeat (first | (with_reducible first | exact HP.out.hb | apply below_alloc | apply pw_below_drewN | apply below_drew1) | exact HP.out.hb))) HC3.out HPS.out).mono fun e w' h => ⟨h.1, h.2.out⟩)))
   by_cases cA : plug.sum ≤ mis
   ·have dA : decide (plug.sum ≤ mis) = true := decide_eq_true cA
    have HPq := Aside0.mk (HP.out.drewN nq)
    clear HP c10 hx3
    generalize wr.drewN nq = wq at *
    have hc := leave_calls g10 g12 gl n cpl left mis A3 c3 plug w wq HPq.out.hb HPq.out.k10 HPq.out.k12 HPq.out.hl HLL.out (by have := HPL.out; omega) (by omega) HG.out.e10 HG.out.el HG.out.nl10 (Kd.C_kept_came (Kd.heap_int .i64) HR3.out HPq.out.hb (fun k hk => hk.elim (fun e => by rw [e]; exact HG.out.e10) (fun e => by rw [e]; exact HG.out.el)))
    have eg66 := EG.out
    go_wp2_with fail
    refine hc.mono ?_
    rintro e w13 ⟨rfl, hb, hk, hk10, hl'⟩
    have HN := Aside0.mk (show PInv w w13 hold (.slice (some adp) l0.length c0) n cpl ⟨g2, g4, g10, g11, g12, gl⟩ vo (pst l0 ⟨l1.sum, List.replicate n 0, []⟩ (i + 1)) (okO w ⟨g2, g4, g10, g11, g12, gl⟩) from by
     rw [HST.out]; unfold pushOne; rw [if_pos cA]; exact HPq.out.left (fun _ hk => hk) hb hk hk10 hl')
    clear hc eg66 hb hk hk10 hl' HPq
    go_wp2
    go_roundg (l0.length - (i + 1))
    case measure => omega
    case rel => exact ⟨i + 1, vo, by first | rfl | (rw [hw]; rfl) | simp, by omega, Nat.le_refl _, HN⟩
   ·have dA : decide (plug.sum ≤ mis) = false := decide_eq_false cA
    have HPq := Aside0.mk (HP.out.drewN nq)
    have HCP := Aside0.mk (show pipe_copied.f plug = some plug from by unfold pipe_copied.f; rw [if_pos (by have := HPL.out; omega)])
    clear HP c10 hx3
    generalize wr.drewN nq = wq at *
    by_cases cB : 0 < mis
    ·have dB : decide (0 < mis) = true := decide_eq_true cB
     obtain ⟨part, hPT⟩ : ∃ part, part = splitL mis plug := ⟨_, rfl⟩
     have HPTL := Aside0.mk (show part.length = plug.length from by rw [hPT, split_len])
     have HSPL := Aside0.mk (show share_Split.f mis plug = some (part, 0) from by unfold share_Split.f; rw [if_pos (HGP.out mis cB (by omega)), hPT])
     have HPT2 := Aside0.mk hPT
     clear hPT
     have eg66 := EG.out
     go_wp2_with (first | (go_at_call 33; (with_reducible refine (pipe_copied.calls A3 c3 plug plug _ (Kd.C_below HR3.out HPq.out.hb) HC3.out HCP.out).mono ?_); rintro e w13 ⟨vr, rfl, ho, hb⟩; obtain ⟨gr, cr, ev, gb_, gll_, cll_, HGr_⟩ := Kd.R_form ho (by have := HPL.out; omega); subst ev; have n0_ := Aside0.mk (HPq.out.apart (Kd.R_base ho) hb); have n1_ := Aside0.mk (Kd.R_lower ho (below_size HPq.out.hb)); have n2_ := Aside0.mk (show ∀ k, (Value.slice (some ⟨gr, 0, none⟩) plug.length cr).ownBlock = some k → okO w ⟨g2, g4, g10, g11, g12, gl⟩ k from fun k hk => HPq.out.fresh k (Kd.R_base ho k hk)); clear HPq ho hb gb_ gll_ cll_ HGr_; have HPd := n0_; have HRR := Aside0.mk (Kd.R_mono (ok' := fun k => k = gr) (Kd.R_tight rfl n1_.out) (fun k hk => by simp [Value.ownBlock] at hk; exact hk)); have HPR := n2_; clear n0_ n1_ n2_; have c10 : w13.cell? ⟨g10, 0, none⟩ = some (.int .i64 mis) := (blk_cell HPd.out.k10 0).trans rfl; skip) | (go_at_call 21; (with_reducible refine (share_Split.calls mis A3 c3 plug part 0 _ (Kd.C_below HR3.out HPd.out.hb) HC3.out HSPL.out).mono ?_); rintro e w14 ⟨vp, rfl, hop, hbp⟩; obtain ⟨gp, cp, ev2, gb2_, gll2_, cll2_, HGp_⟩ := Kd.R_form hop (by have := HPTL.out; have := HPL.out; omega); subst ev2; have n0_ := Aside0.mk (HPd.out.below hbp); have n1_ := Aside0.mk (Kd.R_below HRR.out hbp); have n2_ := Aside0.mk (Kd.R_mono (ok' := fun k => k = gp) (Kd.R_tight rfl (Kd.R_lower hop (below_size HPd.out.hb))) (fun k hk => by simp [Value.ownBlock] at hk; exact hk)); have n3_ := Aside0.mk (HPd.out.fresh gp gb2_); have n4_ := Aside0.mk (show gp ≠ gr from fun e => by have h := Kd.R_lt HRR.out gr rfl; rw [e] at gb2_; omega); clear HPd HRR hop hbp gb2_ gll2_ cll2_ HGp_; have HPd := n0_; have HRR := n1_; have HPP := n2_; have HPO := n3_; have NPR := n4_; clear n0_ n1_ n2_ n3_ n4_))
     have hc := leave_calls g10 g12 gl n cpl left mis (some ⟨gp, 0, none⟩) cp part w w14 HPd.out.hb HPd.out.k10 HPd.out.k12 HPd.out.hl HLL.out (by have := HPL.out; have := HPTL.out; omega) (by omega) HG.out.e10 HG.out.el HG.out.nl10 (Kd.C_kept_own HPP.out (fun k hk => by rw [hk]; exact fun e => e.elim HPO.out.2.2.2.1 HPO.out.2.2.2.2.2.2))
     refine hc.mono ?_
     rintro e w17 ⟨rfl, hb, hk, hk10, hl'⟩
     have HPe := Aside0.mk (show PInv w w17 hold (.slice (some adp) l0.length c0) n cpl ⟨g2, g4, g10, g11, g12, gl⟩ vo ⟨lvM mis part part.length, lvL left part part.length, outs⟩ (fun k => okO w ⟨g2, g4, g10, g11, g12, gl⟩ k ∧ some k ≠ (Value.slice (some ⟨gr, 0, none⟩) plug.length cr).ownBlock) from HPd.out.left (fun k hk => hk.1) hb hk hk10 hl')
     have HRe := Aside0.mk (show Kd.R (Kd.int .i64) 3 w17 w.heap.size (fun k => k = gr) (.slice (some ⟨gr, 0, none⟩) plug.length cr) (rsTo plug part 0) from Kd.R_kept HRR.out hk (fun k hk => by rw [hk]; exact fun e => e.elim (HPR.out gr rfl).2.2.2.1 (HPR.out gr rfl).2.2.2.2.2.2))
     have HPp := Aside0.mk (Kd.R_kept HPP.out hk (fun k hk => by rw [hk]; exact fun e => e.elim HPO.out.2.2.2.1 HPO.out.2.2.2.2.2.2))
     clear hc eg66 hb hk hk10 hl' HPd HRR HPP
     go_wp2
     go_loopg [85] part.length (fun kx s85 wr => ∃ (j : Nat), s85 = .int .i64 j ∧ j ≤ part.length ∧ part.length - j ≤ kx ∧ Aside0 (PInv w wr hold (.slice (some adp) l0.length c0) n cpl ⟨g2, g4, g10, g11, g12, gl⟩ vo ⟨lvM mis part part.length, lvL left part part.length, outs⟩ (fun k => okO w ⟨g2, g4, g10, g11, g12, gl⟩ k ∧ some k ≠ (Value.slice (some ⟨gr, 0, none⟩) plug.length cr).ownBlock)) ∧ Aside0 (Kd.R (Kd.int .i64) 3 wr w.heap.size (fun k => k = gr) (.slice (some ⟨gr, 0, none⟩) plug.length cr) (rsTo plug part j)) ∧ Aside0 (Kd.R (Kd.int .i64) 3 wr w.heap.size (fun k => k = gp) (.slice (some ⟨gp, 0, none⟩) part.length cp) part))
     case atStart => exact ⟨0, rfl, Nat.zero_le _, by omega, HPe, HRe, HPp⟩
     case round =>
      clear HPe HRe HPp
      obtain ⟨j, rfl, hj, hgk2, HPe, HRe, HPp⟩ := hrel
      by_cases hltj : j < part.length
      ·have hin : (j : Int) < (plug.length : Int) := by have := HPTL.out; omega
       have q1j : ((j : Int) < (part.length : Int)) := by omega
       obtain ⟨hxL, hfL⟩ := Kd.R_celln 0 HRe.out (j : Int) (by omega) hin
       obtain ⟨hxP, _⟩ := Kd.R_celln 0 HPp.out (j : Int) (by omega) q1j
       rw [Int.toNat_natCast] at hxL hfL hxP
       replace hxL : wr.cell? ⟨gr, j, none⟩ = some (.int .i64 (rd (rsTo plug part j) (j : Int))) := hxL
       replace hxP : wr.cell? ⟨gp, j, none⟩ = some (.int .i64 (rd part (j : Int))) := hxP
       have HPL2 := Aside0.mk (show Kd.R (Kd.int .i64) 3 (wr.setCell ⟨gr, j, none⟩ (.int .i64 (wrap64 (rd (rsTo plug part j) (j : Int) - rd part (j : Int))))) w.heap.size (fun k => k = gr) (.slice (some ⟨gr, 0, none⟩) plug.length cr) (rsTo plug part (j + 1)) from Kd.R_putn HRe.out (j : Int) _)
       generalize rd (rsTo plug part j) (j : Int) = y at *
       generalize rd part (j : Int) = x at *
       have p1j : (0 ≤ (j : Int)) = True := eq_true (by omega)
       have q1j' : ((j : Int) < (part.length : Int)) = True := eq_true q1j
       have q2j : ((j : Int) < (plug.length : Int)) = True := eq_true hin
       have hwj : IntKind.i64.wrap ((j : Int) + 1) = ((j + 1 : Nat) : Int) := by rw [IntKind.wrap_i64]; have := HPL.out; have := HPTL.out; omega
       clear hin q1j
       go_wp2_with (first | ((with_reducible refine gate_store (t := 3) (p := 96) rfl ?_); refine store_event (t := 3) (p := 96) (v := ?vo_4) (w1 := (wr.setCell ⟨gr, j, none⟩ (.int .i64 (wrap64 (y - x))))) ?hg4 ?ho4 ?hn4 ?hr4 ?_; (case ho4 => rfl); (case hg4 => rfl); (case hn4 => rfl); (case hr4 => first | (go_simp; done) | (go_simp; rfl)); intro w18 hw18; have n0_ := Aside0.mk (show Kd.R (Kd.int .i64) 3 w18 w.heap.size (fun k => k = gr) (.slice (some ⟨gr, 0, none⟩) plug.length cr) (rsTo plug part (j + 1)) from (by rw [hw18]; exact HPL2.out)); have n1_ := Aside0.mk (show Kd.R (Kd.int .i64) 3 w18 w.heap.size (fun k => k = gp) (.slice (some ⟨gp, 0, none⟩) part.length cp) part from (by rw [hw18]; exact Kd.R_far (p := ⟨gr, j, none⟩) HPp.out (fun k hk => by rw [hk]; exact NPR.out) _)); have n2_ := Aside0.mk (show PInv w w18 hold (.slice (some adp) l0.length c0) n cpl ⟨g2, g4, g10, g11, g12, gl⟩ vo ⟨lvM mis part part.length, lvL left part part.length, outs⟩ (fun k => okO w ⟨g2, g4, g10, g11, g12, gl⟩ k ∧ some k ≠ (Value.slice (some ⟨gr, 0, none⟩) plug.length cr).ownBlock) from (by rw [hw18]; exact HPe.out.far (HPR.out gr rfl) (fun k hk e => hk.2 (by rw [e]; rfl)) j _)); clear HPL2 HRe HPp HPe hw18 hxL hfL hxP; have HRe := n0_; have HPp := n1_; have HPe := n2_; clear n0_ n1_ n2_))
       go_roundg (part.length - (j + 1))
       case measure => omega
       case rel => exact ⟨j + 1, by first | rfl | (rw [hwj]; rfl) | simp, by omega, Nat.le_refl _, HPe, HRe, HPp⟩
      ·obtain rfl : j = part.length := by omega
       have c111 : wr.cell? ⟨g11, 1, none⟩ = some vo := (blk_cell HPe.out.k11 1).trans rfl
       go_wp2_with (first | ((with_reducible refine gate_builtin (b := .append) (xs := #[.tmp 99, .tmp 101]) rfl ?_); at_builtin; refine Kd.N_append (Kd.slice 3 (Kd.int .i64)) (w0 := w) w.heap.size rfl (.tmp 99) (.tmp 101) 26 22 (.slice none 0 0) 24 rfl Try.underlying26 info22 rfl (by decide) (by omega) vo outs (rsTo plug part part.length) [.slice (some ⟨gr, 0, none⟩) plug.length cr] (okO w ⟨g2, g4, g10, g11, g12, gl⟩) (fun k => some k = (Value.slice (some ⟨gr, 0, none⟩) plug.length cr).ownBlock) rfl rfl ?fk ?okp ?fr ?HO ?HB ?hb ?hl ?_; (case fk => exact Kd.FK_of_M (show (Kd.slice 3 (Kd.int .i64)).M _ w.heap.size _ (rsTo plug part part.length) [.slice (some ⟨gr, 0, none⟩) plug.length cr] from ⟨_, rfl, Kd.R_tight rfl HRe.out⟩)); (case okp => exact fun k hk => ⟨HPR.out k hk.symm, fun e => (HPe.out.ho.1 k e.symm).2 hk⟩); (case fr => exact HPe.out.fresh); (case HO => exact Kd.N_mono HPe.out.ho (fun k hk => hk.1)); (case HB => exact HPe.out.hb); (case hb => exact HPe.out.hb.size); (case hl => have h1_ : outs.length ≤ i := HOL.out; have h2_ := hlt; omega); intro v1 w15 hN hbN hgN hatN; obtain ⟨g1, cap1, ev1, ea_, eb_, ec_⟩ := Kd.N_form hN (by rw [List.length_append, List.length_singleton]; exact Nat.succ_pos _); rw [List.length_append, List.length_singleton] at ev1; subst ev1; clear ea_ eb_ ec_; have n0_ := Aside0.mk (HPe.out.push (fun k hk => hk.1) HG.out hN hbN hgN); have k11_ := HPe.out.grown (fun k hk => hk.1) hbN hgN; clear hN hbN hgN hatN HPe HRe HPR c111; have HFIN := n0_; clear n0_; have c111 : w15.cell? ⟨g11, 1, none⟩ = some vo := (blk_cell k11_ 1).trans rfl; have f111 := blk_frozen k11_ 1; clear k11_) | ((with_reducible refine gate_store (t := 26) (p := 103) rfl ?_); refine store_event (t := 26) (p := 103) (v := ?vo_5) (w1 := (w15.setCell ⟨g11, 1, none⟩ (.slice (some ⟨g1, 0, none⟩) (outs.length + 1) cap1))) ?hg5 ?ho5 ?hn5 ?hr5 ?_; (case ho5 => rfl); (case hg5 => rfl); (case hn5 => rfl); (case hr5 => first | (go_simp; done) | (go_simp; rfl)); intro w16 hw16; have n0_ := Aside0.mk (show PInv w w16 hold (.slice (some adp) l0.length c0) n cpl ⟨g2, g4, g10, g11, g12, gl⟩ (.slice (some ⟨g1, 0, none⟩) (outs.length + 1) cap1) (pst l0 ⟨l1.sum, List.replicate n 0, []⟩ (i + 1)) (okO w ⟨g2, g4, g10, g11, g12, gl⟩) from by rw [hw16, HST.out]; unfold pushOne; rw [if_neg (show ¬ plug.sum ≤ mis from Int.not_le.2 cA), if_pos cB]; simp only []; rw [← HPT2.out, ← HPTL.out]; exact HFIN.out); clear HFIN c111 f111 hw16; have HN := n0_; clear n0_))
       go_roundg (l0.length - (i + 1))
       case measure => omega
       case rel => exact ⟨i + 1, _, by first | rfl | (rw [hw]; rfl) | simp, by omega, Nat.le_refl _, HN⟩
    ·have dB : decide (0 < mis) = false := decide_eq_false cB
     go_wp2_with (first | (go_at_call 33; (with_reducible refine (pipe_copied.calls A3 c3 plug plug _ (Kd.C_below HR3.out HPq.out.hb) HC3.out HCP.out).mono ?_); rintro e w13 ⟨vr, rfl, ho, hb⟩; obtain ⟨gr, cr, ev, gb_, gll_, cll_, HGr_⟩ := Kd.R_form ho (by have := HPL.out; omega); subst ev; have n0_ := Aside0.mk (HPq.out.apart (Kd.R_base ho) hb); have n1_ := Aside0.mk (Kd.R_lower ho (below_size HPq.out.hb)); have n2_ := Aside0.mk (show ∀ k, (Value.slice (some ⟨gr, 0, none⟩) plug.length cr).ownBlock = some k → okO w ⟨g2, g4, g10, g11, g12, gl⟩ k from fun k hk => HPq.out.fresh k (Kd.R_base ho k hk)); clear HPq ho hb gb_ gll_ cll_ HGr_; have HPd := n0_; have HRR := n1_; have HPR := n2_; clear n0_ n1_ n2_; have c10 : w13.cell? ⟨g10, 0, none⟩ = some (.int .i64 mis) := (blk_cell HPd.out.k10 0).trans rfl; have c111 : w13.cell? ⟨g11, 1, none⟩ = some vo := (blk_cell HPd.out.k11 1).trans rfl) | ((with_reducible refine gate_builtin (b := .append) (xs := #[.tmp 99, .tmp 101]) rfl ?_); at_builtin; refine Kd.N_append (Kd.slice 3 (Kd.int .i64)) (w0 := w) w.heap.size rfl (.tmp 99) (.tmp 101) 26 22 (.slice none 0 0) 24 rfl Try.underlying26 info22 rfl (by decide) (by omega) vo outs plug [.slice (some ⟨gr, 0, none⟩) plug.length cr] (okO w ⟨g2, g4, g10, g11, g12, gl⟩) (fun k => some k = (Value.slice (some ⟨gr, 0, none⟩) plug.length cr).ownBlock) rfl rfl ?fk ?okp ?fr ?HO ?HB ?hb ?hl ?_; (case fk => exact Kd.FK_of_M (show (Kd.slice 3 (Kd.int .i64)).M _ w.heap.size _ plug [.slice (some ⟨gr, 0, none⟩) plug.length cr] from ⟨_, rfl, Kd.R_tight rfl HRR.out⟩)); (case okp => exact fun k hk => ⟨HPR.out k hk.symm, fun e => (HPd.out.ho.1 k e.symm).2 hk⟩); (case fr => exact HPd.out.fresh); (case HO => exact Kd.N_mono HPd.out.ho (fun k hk => hk.1)); (case HB => exact HPd.out.hb); (case hb => exact HPd.out.hb.size); (case hl => have h1_ : outs.length ≤ i := HOL.out; have h2_ := hlt; omega); intro v1 w15 hN hbN hgN hatN; obtain ⟨g1, cap1, ev1, ea_, eb_, ec_⟩ := Kd.N_form hN (by rw [List.length_append, List.length_singleton]; exact Nat.succ_pos _); rw [List.length_append, List.length_singleton] at ev1; subst ev1; clear ea_ eb_ ec_; have n0_ := Aside0.mk (HPd.out.push (fun k hk => hk.1) HG.out hN hbN hgN); have k11_ := HPd.out.grown (fun k hk => hk.1) hbN hgN; clear hN hbN hgN hatN HPd HRR HPR c111; have HFIN := n0_; clear n0_; have c111 : w15.cell? ⟨g11, 1, none⟩ = some vo := (blk_cell k11_ 1).trans rfl; have f111 := blk_frozen k11_ 1; clear k11_) | ((with_reducible refine gate_store (t := 26) (p := 103) rfl ?_); refine store_event (t := 26) (p := 103) (v := ?vo_3) (w1 := (w15.setCell ⟨g11, 1, none⟩ (.slice (some ⟨g1, 0, none⟩) (outs.length + 1) cap1))) ?hg3 ?ho3 ?hn3 ?hr3 ?_; (case ho3 => rfl); (case hg3 => rfl); (case hn3 => rfl); (case hr3 => first | (go_simp; done) | (go_simp; rfl)); intro w16 hw16; have n0_ := Aside0.mk (show PInv w w16 hold (.slice (some adp) l0.length c0) n cpl ⟨g2, g4, g10, g11, g12, gl⟩ (.slice (some ⟨g1, 0, none⟩) (outs.length + 1) cap1) (pst l0 ⟨l1.sum, List.replicate n 0, []⟩ (i + 1)) (okO w ⟨g2, g4, g10, g11, g12, gl⟩) from by rw [hw16, HST.out]; unfold pushOne; rw [if_neg (show ¬ plug.sum ≤ mis from Int.not_le.2 cA), if_neg (show ¬ 0 < mis from Int.not_lt.2 cB)]; exact HFIN.out); clear HFIN c111 f111 hw16; have HN := n0_; clear n0_))
     go_roundg (l0.length - (i + 1))
     case measure => omega
     case rel => exact ⟨i + 1, _, by first | rfl | (rw [hw]; rfl) | simp, by omega, Nat.le_refl _, HN⟩
  ·obtain rfl : i = l0.length := by omega
   have HS0 := Aside0.mk (show pushS n l0 l1 = pst l0 ⟨l1.sum, List.replicate n 0, []⟩ l0.length from rfl)
   have hol : (pst l0 ⟨l1.sum, List.replicate n 0, []⟩ l0.length).outs.length ≤ l0.length := Nat.le_trans (pst_outs _ _) (by simp)
   have HOL := Aside0.mk hol
   have HCP := Aside0.mk (show pipe_copied.f l1 = some l1 from by unfold pipe_copied.f; rw [if_pos (by have := HN1.out; omega)])
   clear hol
   generalize hS : pst l0 ⟨l1.sum, List.replicate n 0, []⟩ l0.length = S at *
   clear hS
   obtain ⟨mis, left, outs⟩ := S
   have dS : decide (0 < l1.sum) = true := decide_eq_true hs0
   go_wp2_with (first | (go_at_call 32; (with_reducible refine (pipe_sum.calls K A1 c1 l1 l1.sum _ (Kd.C_below HR1.out HP.out.hb) HC1.out HSI.out).mono ?_); rintro e w20 ⟨rfl, hd5⟩; have n0_ := Aside0.mk (HP.out.below hd5.below); clear HP hd5; have HC := n0_; clear n0_; have c111 : w20.cell? ⟨g11, 1, none⟩ = some vo := (blk_cell HC.out.k11 1).trans rfl))
   refine start_ (n := 8) (S := fun w' => w'.cell? ⟨g11, 1, none⟩ = some vo) (ds := [7]) #[false,false,false,false,false,false,false,false] (by kernel_rfl) rfl rfl ((show w20.drew.cell? _ = _ from c111)) (fun hHeld => ?_)
   have HC := Aside0.mk HC.out.drew
   generalize w20.drew = w21 at HC hHeld ⊢
   clear c111
   refine pure_ (i := 0) (N := some 108) (v := ?_) (a' := ?_) #[true,false,false,false,false,false,false,false] rfl rfl (by kernel_rfl) (fun _ _ _ h => h) (Or.inl ⟨by rfl, ?_⟩) ?_ ?_
   rotate_left
   ·intro w'; go_simp; with_reducible rfl
   rotate_left
   ·simp only [Act.put, setIfInBounds_toArray, set_cons_zero, set_cons_succ, i64_w, i32_w]; rfl
   refine pure_ (i := 2) (N := some 110) (v := ?_) (a' := ?_) #[true,false,true,false,false,false,false,false] rfl rfl (by kernel_rfl) (fun _ _ _ h => h) (Or.inl ⟨by rfl, ?_⟩) ?_ ?_
   rotate_left
   ·intro w'; go_simp; with_reducible rfl
   rotate_left
   ·simp only [Act.put, setIfInBounds_toArray, set_cons_zero, set_cons_succ, i64_w, i32_w]; rfl
   refine take_ (i := 1) (N := some 109) (v := ?_) (a' := ?_) #[true,true,true,false,false,false,false,false] rfl rfl (by kernel_rfl) (fun _ _ _ h => h) (Or.inl ⟨by rfl, ?_⟩) hHeld ?_ ?_
   rotate_left
   ·intro w' s0; go_simp; with_reducible rfl
   rotate_left
   ·simp only [Act.put, setIfInBounds_toArray, set_cons_zero, set_cons_succ, i64_w, i32_w]; rfl
   refine one_ (i := 3) (N := some 111) #[true,true,true,true,false,false,false,false] rfl rfl (by kernel_rfl) (by decide) (fun K hK => ?_)
   refine goes_ Try.func33 (by kernel_rfl) rfl #[.slice A1 l1.length c1] (by rfl) rfl rfl (by simp only [List.map_toArray, List.map_cons, List.map_nil]; rfl) ?_
   with_reducible refine (pipe_copied.calls A1 c1 l1 l1 _ (Kd.C_below HR1.out HC.out.hb) HC1.out HCP.out).mono ?_
   rintro e w13 ⟨vr, rfl, ho, hb⟩
   obtain ⟨gr, cr, ev, gb_, gll_, cll_, HGr_⟩ := Kd.R_form ho (by have := HN1.out; omega)
   subst ev
   refine ⟨_, rfl, ?_⟩
   have n0_ := Aside0.mk (HC.out.apart (Kd.R_base ho) hb)
   have n1_ := Aside0.mk (Kd.R_lower ho (below_size HC.out.hb))
   have n2_ := Aside0.mk (show ∀ k, (Value.slice (some ⟨gr, 0, none⟩) l1.length cr).ownBlock = some k → okO w ⟨g2, g4, g10, g11, g12, gl⟩ k from fun k hk => HC.out.fresh k (Kd.R_base ho k hk))
   clear HC ho hb gb_ gll_ cll_ HGr_ hHeld
   have HPd := n0_
   have HRR := n1_
   have HPR := n2_
   clear n0_ n1_ n2_
   have c111 : w13.cell? ⟨g11, 1, none⟩ = some vo := (blk_cell HPd.out.k11 1).trans rfl
   refine hK.out _ _ (c111) (fun hHeld => ?_)
   clear hK K
   refine norm_ (a' := ?_) ?_ ?_
   rotate_left
   ·show Act.put _ (some 111) _ = _
    simp only [Act.put, setIfInBounds_toArray, set_cons_zero, set_cons_succ, i64_w, i32_w]
    rfl
   refine one_ (i := 4) (N := some 112) #[true,true,true,true,true,false,false,false] rfl rfl (by kernel_rfl) (by decide) (fun K hK => ?_)
   refine value_ (w1 := ?_) (v := ?_) (by rfl) rfl ?_ ?_
   rotate_left 2
   ·go_simp
    constructor
    ·rfl
    ·rfl
   refine hK.out _ _ ((pw_cell_below (below_alloc (Below.refl _ _) _) c111)) (fun hHeld => ?_)
   clear hK K
   refine norm_ (a' := ?_) ?_ ?_
   rotate_left
   ·show Act.put _ (some 112) _ = _
    simp only [Act.put, setIfInBounds_toArray, set_cons_zero, set_cons_succ, i64_w, i32_w]
    rfl
   refine one_ (i := 5) (N := some 113) #[true,true,true,true,true,true,false,false] rfl rfl (by kernel_rfl) (by decide) (fun K hK => ?_)
   refine Kd.N_append_step (Kd.slice 3 (Kd.int .i64)) (w0 := w) w.heap.size (by rfl) (.tmp 109) (.tmp 112) 26 22 (.slice none 0 0) 24 rfl Try.underlying26 info22 rfl (by decide) (by omega) vo outs l1 [.slice (some ⟨gr, 0, none⟩) l1.length cr] (okO w ⟨g2, g4, g10, g11, g12, gl⟩) (fun k => some k = (Value.slice (some ⟨gr, 0, none⟩) l1.length cr).ownBlock) rfl rfl ?fk ?okp ?fr ?HO ?HB ?hb ?hl ?_
   (case fk => exact Kd.FK_of_M (show (Kd.slice 3 (Kd.int .i64)).M _ w.heap.size _ l1 [.slice (some ⟨gr, 0, none⟩) l1.length cr] from ⟨_, rfl, Kd.R_tight rfl HRR.out⟩))
   (case okp => exact fun k hk => ⟨HPR.out k hk.symm, fun e => (HPd.out.ho.1 k e.symm).2 hk⟩)
   (case fr => exact HPd.out.fresh)
   (case HO => exact Kd.N_mono HPd.out.ho (fun k hk => hk.1))
   (case HB => exact HPd.out.hb)
   (case hb => exact HPd.out.hb.size)
   (case hl => have h1_ : outs.length ≤ l0.length := HOL.out; omega)
   intro v1 w15 hN hbN hgN hatN
   obtain ⟨g1, cap1, ev1, ea_, eb_, ec_⟩ := Kd.N_form hN (by rw [List.length_append, List.length_singleton]; exact Nat.succ_pos _)
   rw [List.length_append, List.length_singleton] at ev1
   subst ev1
   clear ea_ eb_ ec_
   have n0_ := Aside0.mk (HPd.out.push (fun k hk => hk.1) HG.out hN hbN hgN)
   have k11_ := HPd.out.grown (fun k hk => hk.1) hbN hgN
   clear hN hbN hgN hatN HPd HRR HPR c111 hHeld
   have HFIN := n0_
   clear n0_
   have c111 : w15.cell? ⟨g11, 1, none⟩ = some vo := (blk_cell k11_ 1).trans rfl
   have f111 := blk_frozen k11_ 1
   clear k11_
   refine hK.out _ _ (c111) (fun hHeld => ?_)
   clear hK K
   refine norm_ (a' := ?_) ?_ ?_
   rotate_left
   ·show Act.put _ (some 113) _ = _
    simp only [Act.put, setIfInBounds_toArray, set_cons_zero, set_cons_succ, i64_w, i32_w]
    rfl
   refine pure_ (i := 6) (N := some 114) (v := ?_) (a' := ?_) #[true,true,true,true,true,true,true,false] rfl rfl (by kernel_rfl) (fun _ _ _ h => h) (Or.inl ⟨by rfl, ?_⟩) ?_ ?_
   rotate_left
   ·intro w'; go_simp; with_reducible rfl
   rotate_left
   ·simp only [Act.put, setIfInBounds_toArray, set_cons_zero, set_cons_succ, i64_w, i32_w]; rfl
   refine last_ (i := 7) (N := none) #[true,true,true,true,true,true,true,true] rfl rfl (by kernel_rfl) (by decide) (fun K hK => ?_)
   refine skip_ (w1 := ?_) (by rfl) rfl ?_ ?_
   rotate_left
   ·go_simp
    rfl
   refine hK.out _ _ ?_
   clear hK K
   refine done_ (by kernel_rfl) ?_
   have HF := Aside0.mk (show PInv w (w15.setCell ⟨g11, 1, none⟩ (.slice (some ⟨g1, 0, none⟩) (outs.length + 1) cap1)) hold (.slice (some adp) l0.length c0) n cpl ⟨g2, g4, g10, g11, g12, gl⟩ (.slice (some ⟨g1, 0, none⟩) (outs.length + 1) cap1) ⟨mis, left, outs ++ [l1]⟩ (okO w ⟨g2, g4, g10, g11, g12, gl⟩) from HFIN.out)
   clear HFIN c111 f111
   generalize w15.setCell ⟨g11, 1, none⟩ (.slice (some ⟨g1, 0, none⟩) (outs.length + 1) cap1) = w16 at HF ⊢
   have c110 : w16.cell? ⟨g11, 0, none⟩ = some (.int .i64 hold) := (blk_cell HF.out.k11 0).trans rfl
   have c111 : w16.cell? ⟨g11, 1, none⟩ = some (.slice (some ⟨g1, 0, none⟩) (outs.length + 1) cap1) := (blk_cell HF.out.k11 1).trans rfl
   have c40 : w16.cell? ⟨g4, 0, none⟩ = some (.int .i64 0) := (blk_cell HF.out.k4 0).trans rfl
   have c41 : w16.cell? ⟨g4, 1, none⟩ = some (.slice none 0 0) := (blk_cell HF.out.k4 1).trans rfl
   have f40 := blk_frozen HF.out.k4 0
   have f41 := blk_frozen HF.out.k4 1
   have c120 : w16.cell? ⟨g12, 0, none⟩ = some (.slice (some ⟨gl, 0, none⟩) n cpl) := (blk_cell HF.out.k12 0).trans rfl
   by_cases hfull : 256 < outs.length + 1
   ·have dF1 : decide ((256 : Int) < ((outs.length + 1 : Nat) : Int)) = true := decide_eq_true (by omega)
    have dF2 : decide ((256 : Int) < (outs.length : Int) + 1) = true := decide_eq_true (by omega)
    go_wp2
    refine bodyPost_ret (results_ctt rfl _ _ g4 51 #[.int .i64 0, .slice none 0 0] (0, 0) _ rfl (by refine blk_put (cs := #[.int .i64 0, .slice none 0 0]) ?_ 1 _ rfl; refine blk_put (cs := #[.int .i64 0, .slice none 0 0]) ?_ 0 _ rfl; exact HF.out.k4) Try.underlying51 rfl (by kernel_rfl)) rfl ?_
    rw [HS0.out]
    refine ⟨below_set (below_set HF.out.hb HG.out.e4) HG.out.e4, fun _ => rfl, fun h => absurd h (by simp only []; omega)⟩
   ·have dF1 : decide ((256 : Int) < ((outs.length + 1 : Nat) : Int)) = false := decide_eq_false (by omega)
    have dF2 : decide ((256 : Int) < (outs.length : Int) + 1) = false := decide_eq_false (by omega)
    go_wp2
    refine start_ (n := 5) (S := fun w' => w'.cell? ⟨g11, 0, none⟩ = some (.int .i64 hold) ∧ w'.cell? ⟨g11, 1, none⟩ = some (.slice (some ⟨g1, 0, none⟩) (outs.length + 1) cap1) ∧ w'.cell? ⟨g12, 0, none⟩ = some (.slice (some ⟨gl, 0, none⟩) n cpl)) (ds := []) #[false,false,false,false,false] (by kernel_rfl) rfl rfl ⟨(show w16.drew.cell? _ = _ from c110), (show w16.drew.cell? _ = _ from c111), (show w16.drew.cell? _ = _ from c120)⟩ (fun hHeld => ?_)
    have HF := Aside0.mk HF.out.drew
    replace c40 : w16.drew.cell? ⟨g4, 0, none⟩ = some (.int .i64 0) := c40
    replace c41 : w16.drew.cell? ⟨g4, 1, none⟩ = some (.slice none 0 0) := c41
    replace f40 : w16.drew.frozen? ⟨g4, 0, none⟩ = false := f40
    replace f41 : w16.drew.frozen? ⟨g4, 1, none⟩ = false := f41
    generalize w16.drew = w17 at HF c40 c41 f40 f41 hHeld ⊢
    clear c110 c111 c120
    refine take_ (i := 0) (N := some 120) (v := ?_) (a' := ?_) #[true,false,false,false,false] rfl rfl (by kernel_rfl) (fun _ _ _ h => h) (Or.inl ⟨by rfl, ?_⟩) hHeld ?_ ?_
    rotate_left
    ·rintro w' ⟨s0, s1, s2⟩; go_simp; with_reducible rfl
    rotate_left
    ·simp only [Act.put, setIfInBounds_toArray, set_cons_zero, set_cons_succ, i64_w, i32_w]; rfl
    refine take_ (i := 1) (N := some 121) (v := ?_) (a' := ?_) #[true,true,false,false,false] rfl rfl (by kernel_rfl) (fun _ _ _ h => h) (Or.inl ⟨by rfl, ?_⟩) hHeld ?_ ?_
    rotate_left
    ·rintro w' ⟨s0, s1, s2⟩; go_simp; with_reducible rfl
    rotate_left
    ·simp only [Act.put, setIfInBounds_toArray, set_cons_zero, set_cons_succ, i64_w, i32_w]; rfl
    refine one_ (i := 2) (N := none) #[true,true,true,false,false] rfl rfl (by kernel_rfl) (by decide) (fun K hK => ?_)
    refine skip_ (w1 := ?_) (by rfl) rfl ?_ ?_
    rotate_left
    ·go_simp
     rfl
    refine hK.out _ _ ⟨((blk_cell (blk_far (blk_far HF.out.k11 HG.out.n11_4 _) HG.out.n11_4 _) 0).trans rfl), ((blk_cell (blk_far (blk_far HF.out.k11 HG.out.n11_4 _) HG.out.n11_4 _) 1).trans rfl), ((blk_cell (blk_far (blk_far HF.out.k12 (blk_ne HF.out.k12 HF.out.k4 (by decide)) _) (blk_ne HF.out.k12 HF.out.k4 (by decide)) _) 0).trans rfl)⟩ (fun hHeld => ?_)
    clear hK K
    refine pure_ (i := 3) (N := some 5) (v := ?_) (a' := ?_) #[true,true,true,true,false] rfl rfl (by kernel_rfl) (fun _ _ _ h => h) (Or.inl ⟨by rfl, ?_⟩) ?_ ?_
    rotate_left
    ·intro w'; go_simp; with_reducible rfl
    rotate_left
    ·simp only [Act.put, setIfInBounds_toArray, set_cons_zero, set_cons_succ, i64_w, i32_w]; rfl
    refine pure_ (i := 4) (N := some 6) (v := ?_) (a' := ?_) #[true,true,true,true,true] rfl rfl (by kernel_rfl) (fun _ _ _ h => h) (Or.inl ⟨by rfl, ?_⟩) ?_ ?_
    rotate_left
    ·intro w'; go_simp; with_reducible rfl
    rotate_left
    ·simp only [Act.put, setIfInBounds_toArray, set_cons_zero, set_cons_succ, i64_w, i32_w]; rfl
    refine done_ (by kernel_rfl) ?_
    go_wp2
    refine bodyPost_ret (results_ctt rfl _ _ g4 51 #[.int .i64 hold, .slice (some ⟨g1, 0, none⟩) (outs.length + 1) cap1] (0, 0) _ rfl (by refine blk_put (cs := #[.int .i64 hold, .slice none 0 0]) ?_ 1 _ rfl; refine blk_put (cs := #[.int .i64 0, .slice none 0 0]) ?_ 0 _ rfl; exact HF.out.k4) Try.underlying51 rfl (by kernel_rfl)) rfl ?_
    rw [HS0.out]
    have nl4 := HF.out.ne_l HF.out.k4 (by decide)
    refine ⟨below_set (below_set HF.out.hb HG.out.e4) HG.out.e4, fun h => absurd h (by simp only []; omega), fun _ => ⟨_, _, rfl, ?_, ?_⟩⟩
    ·exact Kd.N_far (p := ⟨g4, 1, none⟩) (Kd.N_mono (Kd.N_far (p := ⟨g4, 0, none⟩) HF.out.ho (fun k hk => hk.2.2.1) _) (ok' := okO w ⟨g2, g4, g10, g11, g12, gl⟩) (fun k hk => hk)) (fun k hk => hk.2.2.1) _ |> fun h => Kd.N_mono h (fun k hk => hk.1)
    ·exact Kd.R_mono (Kd.R_far (p := ⟨g4, 1, none⟩) (Kd.R_far (p := ⟨g4, 0, none⟩) HF.out.hl (fun k hk => by rw [hk]; exact Ne.symm nl4) _) (fun k hk => by rw [hk]; exact Ne.symm nl4) _) (fun _ _ => trivial)
end Go.Proofs.Ytgbjlcaanagfnaa.P

namespace Go.Proofs.Ytgbjlcaanagfnaa.P
open Go.RowKit Go.Proofs.YtgbjlcaanagfnaaW.PrintWords Go.Proofs.YtgbjlcaanagfnaaW.PrintLast Go.Proofs.YtgbjlcaanagfnaaW.PrintMore
set_option linter.unusedVariables false
set_option linter.unusedSimpArgs false

set_option maxHeartbeats 1000000 in
set_option maxRecDepth 100000 in
theorem push_full (K : Nat) (hold : Int) (A0 : Option Addr) (c0 : Nat) (l0 : List (List Int)) (A1 : Option Addr) (c1 : Nat) (l1 : List Int) (n : Nat) (w : World) (hr0 : Kd.C (Kd.slice 3 (Kd.int .i64)) w A0 l0.length l0) (hc0 : l0.length ≤ c0) (hr1 : Kd.C (Kd.int .i64) w A1 l1.length l1) (hc1 : l1.length ≤ c1)
  (hck : pipe_Check.f K hold l0 = some 0) (hpt : fibre_Parts.f l1 (n : Int) = some 0) (hl0 : 0 < l0.length) (hl256 : l0.length ≤ 256) (hlen : ∀ p ∈ l0, p.length = n) (hn1 : l1.length = n) (hn0 : 0 < n) (hn8 : n ≤ 8) (hsm : ∀ p ∈ l0, pipe_sum.f K p = some p.sum) (hsi : pipe_sum.f K l1 = some l1.sum) (hmh : hold < l1.sum) (hgw : ∀ p ∈ l0, ∀ m : Int, 0 < m → m < p.sum → goodW m p) (hs0 : 0 < l1.sum) :
  Calls Try.prog 57 #[.agg #[.int .i64 hold, .slice A0 l0.length c0], .slice A1 l1.length c1] w fun e w' => Below w.heap.size w w' ∧ e = .returned (.tuple #[.agg #[.int .i64 0, .slice none 0 0], .slice none 0 0, .int .i64 8]) := by
 have HR0 := Aside0.mk hr0
 have HR1 := Aside0.mk hr1
 have HC0 := Aside0.mk hc0
 have HC1 := Aside0.mk hc1
 have HCK := Aside0.mk hck
 have HPT := Aside0.mk hpt
 have HSI := Aside0.mk hsi
 have HSM := Aside0.mk hsm
 have HLEN := Aside0.mk hlen
 have HGW := Aside0.mk hgw
 clear hgw
 have HB := Aside0.mk (Below.refl w.heap.size w)
 have HN1 := Aside0.mk hn1
 obtain ⟨adp, A2, c2, eA, hxp, hlc2, hrp2⟩ := at_L1 hr0 0 (by omega) (by omega)
 subst eA
 have hp0 : (rd_L1 l0 0).length = n := hlen _ (by unfold rd_L1; rw [List.getD_eq_getElem?_getD]; cases l0 with | nil => simp at hl0 | cons x xs => simp)
 rw [hp0] at hxp
 have HXP := Aside0.mk hxp
 clear hr0 hr1 hc0 hc1 hck hpt hsi hsm hlen hn1 hxp hlc2 hrp2 hp0
 have hd1 : decide (hold < l1.sum) = true := decide_eq_true hmh
 go_enter Try.func57, Try.ntmps57
 go_upto_region 4 with (first | ((with_reducible refine gate_dst (N := 2) rfl ?_); refine box_event ?hg (N := 2) ?hd (cs := #[.int .i64 hold, .slice (some adp) l0.length c0]) (t := 51) ?hr ?_; (case hd => rfl); (case hg => rfl); (case hr => first | (go_simp; done) | (go_simp; rfl)); intro g2 hg w1 hbox hb; have n0_ := Aside0.mk (below_step HB.out hb); have n1_ := Aside0.mk hbox; have n2_ := Aside0.mk (show w.heap.size ≤ g2 by rw [hg]; exact Nat.le_refl _); clear HB; have HB := n0_; have K2 := n1_; have GE2 := n2_; clear n0_ n1_ n2_ hb hbox hg) | ((with_reducible refine gate_dst (N := 4) rfl ?_); refine box_event ?hg (N := 4) ?hd (cs := #[.int .i64 0, .slice none 0 0]) (t := 51) ?hr ?_; (case hd => rfl); (case hg => rfl); (case hr => first | (go_simp; done) | (go_simp; rfl)); intro g4 hg w2 hbox hb; have n0_ := Aside0.mk (below_step HB.out hb); have n1_ := Aside0.mk hbox; have n2_ := Aside0.mk (blk_below (g := g2) (o := .cells #[.int .i64 hold, .slice (some adp) l0.length c0] 51 (0, 0)) K2.out hb); have n3_ := Aside0.mk (show w.heap.size ≤ g4 by rw [hg]; exact below_size HB.out); have n4_ := Aside0.mk (show g4 ≠ g2 from fun e => absurd (blk_lt K2.out) (by rw [← e, hg]; exact Nat.lt_irrefl _)); clear HB K2; have HB := n0_; have K4 := n1_; have K2 := n2_; have GE4 := n3_; have N42 := n4_; clear n0_ n1_ n2_ n3_ n4_ hb hbox hg; have c20 : w2.cell? ⟨g2, 0, none⟩ = some (.int .i64 hold) := (blk_cell K2.out 0).trans rfl; have c21 : w2.cell? ⟨g2, 1, none⟩ = some (.slice (some adp) l0.length c0) := (blk_cell K2.out 1).trans rfl) | (go_at_call 46; (with_reducible refine (pipe_Check.calls K hold (some adp) c0 l0 0 _ (Kd.C_below HR0.out HB.out) HC0.out HCK.out).mono ?_); rintro e w3 ⟨rfl, hb⟩; have n0_ := Aside0.mk (below_step HB.out hb); have n1_ := Aside0.mk (blk_below (g := g2) (o := .cells #[.int .i64 hold, .slice (some adp) l0.length c0] 51 (0, 0)) K2.out hb); have n2_ := Aside0.mk (blk_below (g := g4) (o := .cells #[.int .i64 0, .slice none 0 0] 51 (0, 0)) K4.out hb); clear HB K2 K4; have HB := n0_; have K2 := n1_; have K4 := n2_; clear n0_ n1_ n2_ hb))
 have c20 : w3.cell? ⟨g2, 0, none⟩ = some (.int .i64 hold) := (blk_cell K2.out 0).trans rfl
 have c21 : w3.cell? ⟨g2, 1, none⟩ = some (.slice (some adp) l0.length c0) := (blk_cell K2.out 1).trans rfl
 have hxp := (HB.out.cell (World.block_lt_of_cell? w _ HXP.out)).trans HXP.out
 have e0 : adp.add (Int.toNat 0) = adp := by rw [show Int.toNat 0 = 0 from rfl]; cases adp; simp [Addr.add]
 rw [e0] at hxp
 clear e0
 have p00 : ((0 : Int) < (l0.length : Int)) = True := eq_true (by omega)
 go_upto_region 9 with (first | (go_at_call 16; (with_reducible refine (fibre_Parts.calls A1 c1 l1 (n : Int) 0 _ (Kd.C_below HR1.out HB.out) HC1.out HPT.out).mono ?_); rintro e w4 ⟨rfl, hb⟩; have n0_ := Aside0.mk (below_step HB.out hb); have n1_ := Aside0.mk (blk_below (g := g2) (o := .cells #[.int .i64 hold, .slice (some adp) l0.length c0] 51 (0, 0)) K2.out hb); have n2_ := Aside0.mk (blk_below (g := g4) (o := .cells #[.int .i64 0, .slice none 0 0] 51 (0, 0)) K4.out hb); clear HB K2 K4 c20 c21 hxp; have HB := n0_; have K2 := n1_; have K4 := n2_; clear n0_ n1_ n2_ hb) | (go_at_call 32; (with_reducible refine (pipe_sum.calls K A1 c1 l1 l1.sum _ (Kd.C_below HR1.out HB.out) HC1.out HSI.out).mono ?_); rintro e w5 ⟨rfl, hd5⟩; have hb := hd5.below; clear hd5; have n0_ := Aside0.mk (below_step HB.out hb); have n1_ := Aside0.mk (blk_below (g := g2) (o := .cells #[.int .i64 hold, .slice (some adp) l0.length c0] 51 (0, 0)) K2.out hb); have n2_ := Aside0.mk (blk_below (g := g4) (o := .cells #[.int .i64 0, .slice none 0 0] 51 (0, 0)) K4.out hb); clear HB K2 K4; have HB := n0_; have K2 := n1_; have K4 := n2_; clear n0_ n1_ n2_ hb) | ((with_reducible refine gate_dst (N := 10) rfl ?_); refine box_event ?hg (N := 10) ?hd (cs := #[.int .i64 0]) (t := 3) ?hr ?_; (case hd => rfl); (case hg => rfl); (case hr => first | (go_simp; done) | (go_simp; rfl)); intro g10 hg w6 hbox hb; have n0_ := Aside0.mk (below_step HB.out hb); have n1_ := Aside0.mk (blk_below (g := g2) (o := .cells #[.int .i64 hold, .slice (some adp) l0.length c0] 51 (0, 0)) K2.out hb); have n2_ := Aside0.mk (blk_below (g := g4) (o := .cells #[.int .i64 0, .slice none 0 0] 51 (0, 0)) K4.out hb); have n3_ := Aside0.mk hbox; have n4_ := Aside0.mk (show w.heap.size ≤ g10 by rw [hg]; exact below_size HB.out); have n5_ := Aside0.mk (show g10 ≠ g2 ∧ g10 ≠ g4 from ⟨fun e => absurd (blk_lt K2.out) (by rw [← e, hg]; exact Nat.lt_irrefl _), fun e => absurd (blk_lt K4.out) (by rw [← e, hg]; exact Nat.lt_irrefl _)⟩); clear HB K2 K4; have HB := n0_; have K2 := n1_; have K4 := n2_; have K10 := n3_; have GE10 := n4_; have N10 := n5_; clear n0_ n1_ n2_ n3_ n4_ n5_ hb hbox hg; have c10 : w6.cell? ⟨g10, 0, none⟩ = some (.int .i64 0) := (blk_cell K10.out 0).trans rfl; have f10 := blk_frozen K10.out 0) | ((with_reducible refine gate_store (t := 3) (p := 10) rfl ?_); refine store_event (t := 3) (p := 10) (v := ?vo_1) (w1 := (w6.setCell ⟨g10, 0, none⟩ (.int .i64 l1.sum))) ?hg1 ?ho1 ?hn1 ?hr1 ?_; (case ho1 => rfl); (case hg1 => rfl); (case hn1 => rfl); (case hr1 => first | (go_simp; done) | (go_simp; rfl)); intro w7 hw7; have n0_ := Aside0.mk (show Below w.heap.size w w7 from (by rw [hw7]; exact below_set HB.out GE10.out)); have n1_ := Aside0.mk (show w7.heap[g2]? = some (.cells #[.int .i64 hold, .slice (some adp) l0.length c0] 51 (0, 0)) from (by rw [hw7]; exact blk_far K2.out N10.out.1.symm _)); have n2_ := Aside0.mk (show w7.heap[g4]? = some (.cells #[.int .i64 0, .slice none 0 0] 51 (0, 0)) from (by rw [hw7]; exact blk_far K4.out N10.out.2.symm _)); have n3_ := Aside0.mk (show w7.heap[g10]? = some (.cells #[.int .i64 l1.sum] 3 (0, 0)) from (by rw [hw7]; exact blk_put K10.out 0 _ rfl)); clear HB K2 K4 K10 c10 f10 hw7; have HB := n0_; have K2 := n1_; have K4 := n2_; have K10 := n3_; clear n0_ n1_ n2_ n3_))
 have c10 : w7.cell? ⟨g10, 0, none⟩ = some (.int .i64 l1.sum) := (blk_cell K10.out 0).trans rfl
 have c20 : w7.cell? ⟨g2, 0, none⟩ = some (.int .i64 hold) := (blk_cell K2.out 0).trans rfl
 have c40 : w7.cell? ⟨g4, 0, none⟩ = some (.int .i64 0) := (blk_cell K4.out 0).trans rfl
 have c41 : w7.cell? ⟨g4, 1, none⟩ = some (.slice none 0 0) := (blk_cell K4.out 1).trans rfl
 have f40 := blk_frozen K4.out 0
 have f41 := blk_frozen K4.out 1
 go_wp2
 refine bodyPost_ret (results_ctt rfl _ _ g4 51 #[.int .i64 0, .slice none 0 0] (0, 0) _ rfl (by refine blk_put (cs := #[.int .i64 0, .slice none 0 0]) ?_ 1 _ rfl; refine blk_put (cs := #[.int .i64 0, .slice none 0 0]) ?_ 0 _ rfl; exact K4.out) Try.underlying51 rfl (by kernel_rfl)) rfl ?_
 exact ⟨below_set (below_set HB.out GE4.out) GE4.out, rfl⟩

/-- pipe.Push of a valid pipe and a valid plug that is not empty. -/
def okPush (K : Nat) (hold : Int) (l0 : List (List Int)) (l1 : List Int) (n : Nat) : Prop := pipe_Check.f K hold l0 = some 0 ∧ fibre_Parts.f l1 (n : Int) = some 0 ∧ 0 < l0.length ∧ l0.length ≤ 256 ∧ (∀ p ∈ l0, p.length = n) ∧ l1.length = n ∧ 0 < n ∧ n ≤ 8 ∧ (∀ p ∈ l0, pipe_sum.f K p = some p.sum) ∧ pipe_sum.f K l1 = some l1.sum ∧ (∀ p ∈ l0, ∀ m : Int, 0 < m → m < p.sum → goodW m p) ∧ 0 < l1.sum
/-- What it answers: the pipe's plugs, what left; none: the error 8. -/
def pushA (hold : Int) (n : Nat) (l0 : List (List Int)) (l1 : List Int) : Option (List (List Int) × List Int) :=
 if hold < l1.sum then none else if 256 < (pushS n l0 l1).outs.length + 1 then none else some ((pushS n l0 l1).outs ++ [l1], (pushS n l0 l1).left)
theorem push_calls (K : Nat) (hold : Int) (A0 : Option Addr) (c0 : Nat) (l0 : List (List Int)) (A1 : Option Addr) (c1 : Nat) (l1 : List Int) (n : Nat) (w : World) (hr0 : Kd.C (Kd.slice 3 (Kd.int .i64)) w A0 l0.length l0) (hc0 : l0.length ≤ c0) (hr1 : Kd.C (Kd.int .i64) w A1 l1.length l1) (hc1 : l1.length ≤ c1) (h : okPush K hold l0 l1 n) :
  Calls Try.prog 57 #[.agg #[.int .i64 hold, .slice A0 l0.length c0], .slice A1 l1.length c1] w fun e w' => Below w.heap.size w w' ∧
   match pushA hold n l0 l1 with
   | none => e = .returned (.tuple #[.agg #[.int .i64 0, .slice none 0 0], .slice none 0 0, .int .i64 8])
   | some (outs, left) => ∃ vo vl : Value, e = .returned (.tuple #[.agg #[.int .i64 hold, vo], vl, .int .i64 0]) ∧ Kd.N (Kd.slice 3 (Kd.int .i64)) 22 w' w.heap.size (fun k => w.heap.size ≤ k) vo outs ∧ Kd.R (Kd.int .i64) 3 w' w.heap.size (fun _ => True) vl left := by
 obtain ⟨h1, h2, h3, h4, h5, h6, h7, h8, h9, h10, h11, h12⟩ := h
 by_cases c : hold < l1.sum
 ·refine (push_full K hold A0 c0 l0 A1 c1 l1 n w hr0 hc0 hr1 hc1 h1 h2 h3 h4 h5 h6 h7 h8 h9 h10 c h11 h12).mono fun e w' h => ⟨h.1, ?_⟩
  rw [show pushA hold n l0 l1 = none from by unfold pushA; rw [if_pos c]]
  exact h.2
 ·refine (push_walk K hold A0 c0 l0 A1 c1 l1 n w hr0 hc0 hr1 hc1 h1 h2 h3 h4 h5 h6 h7 h8 h9 h10 (by omega) h11 h12).mono fun e w' h => ⟨h.1, ?_⟩
  by_cases d : 256 < (pushS n l0 l1).outs.length + 1
  ·rw [show pushA hold n l0 l1 = none from by unfold pushA; rw [if_neg c, if_pos d]]
   exact h.2.1 d
  ·rw [show pushA hold n l0 l1 = some ((pushS n l0 l1).outs ++ [l1], (pushS n l0 l1).left) from by unfold pushA; rw [if_neg c, if_neg d]]
   exact h.2.2 (by omega)
end Go.Proofs.Ytgbjlcaanagfnaa.P
