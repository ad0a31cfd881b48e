/- The law TopFibre, walked: it answers true. -/
import Derived.Test.YtgbjlcaanagfnaaPlainC
import Derived.Test.YtgbjlcaanagfnaaHandCopy
import Derived.Test.YtgbjlcaanagfnaaPx13
import Derived.Test.YtgbjlcaanagfnaaPx1
import Derived.Test.YtgbjlcaanagfnaaPx3
import Derived.Deep.QuietTactic
import Derived.BigQuiet
import Derived.RegionTactic
import Derived.WalkKit
import Derived.Deep.LoopGhost
namespace Go.Proofs.Ytgbjlcaanagfnaa.P
open Go.RowKit Go.Proofs.YtgbjlcaanagfnaaW.PrintWords Go.Proofs.YtgbjlcaanagfnaaW.PrintLast Go.Proofs.YtgbjlcaanagfnaaW.PrintMore
open List (setIfInBounds_toArray set_cons_zero set_cons_succ)
set_option linter.unusedVariables false
set_option linter.unusedSimpArgs false

abbrev kD : Kd (Int × Int) := Kd.pair (Kd.int .i64) (Kd.int .i64)
/-- The law between two steps: the plant, and the sums in a block of their own. -/
structure LInv (w0 W : World) (gs n : Nat) (g : PX) (s : Pl) (sums : List Int) : Prop where
 hb : Below w0.heap.size w0 W
 hs : Kd.R (Kd.int .i64) 3 W w0.heap.size (fun k => k = gs) (.slice (some ⟨gs, 0, none⟩) n n) sums
 hP : PAt W w0.heap.size (fun k => k = gs) g s
section
variable {w0 W W' : World} {gs n : Nat} {g : PX} {s : Pl} {sums : List Int}
theorem LInv.below (h : LInv w0 W gs n g s sums) (hb : Below W.heap.size W W') : LInv w0 W' gs n g s sums := ⟨below_step h.hb hb, Kd.R_below h.hs hb, h.hP.below hb⟩
theorem LInv.lt (h : LInv w0 W gs n g s sums) : gs < W.heap.size := Kd.R_lt h.hs gs rfl
theorem LInv.le (h : LInv w0 W gs n g s sums) : w0.heap.size ≤ gs := Kd.R_base h.hs gs rfl
/-- The sums are written. -/
theorem LInv.more (h : LInv w0 W gs n g s sums) (hb : Below w0.heap.size w0 W') (hk : Kept W W' (fun k => k = gs)) {sums' : List Int} {ok : Nat → Prop} (hR : Kd.R (Kd.int .i64) 3 W' w0.heap.size ok (.slice (some ⟨gs, 0, none⟩) n n) sums') : LInv w0 W' gs n g s sums' :=
 ⟨hb, Kd.R_mono (Kd.R_tight rfl hR) (fun k hk => by simp [Value.ownBlock] at hk; exact hk), h.hP.kept hk (fun k hk => .inl hk)⟩
/-- The plant is another one. -/
theorem LInv.plant (h : LInv w0 W gs n g s sums) (hb : Below w0.heap.size w0 W') {S : Nat → Prop} (hk : Kept W W' S) (hS : ∀ k, S k → g.mu k) {g' : PX} {s' : Pl} (hP : PAt W' w0.heap.size (fun k => k = gs) g' s') : LInv w0 W' gs n g' s' sums :=
 ⟨hb, Kd.R_kept h.hs hk (fun k e hs => h.hP.nex k e (hS k hs)), hP⟩
theorem LInv.quiet (h : LInv w0 W gs n g s sums) (hb : Below w0.heap.size w0 W') (hk : Kept W W' (fun _ => False)) : LInv w0 W' gs n g s sums :=
 ⟨hb, Kd.R_kept h.hs hk (fun _ _ h => h), h.hP.kept hk (fun _ h => h.elim)⟩
/-- A slice of the call's own, from a world on: it does not lie where the sums are. -/
theorem own_far {W : World} {base : Nat} {ok : Nat → Prop} {A : Option Addr} {n c : Nat} {m : List Int} (h : Kd.R (Kd.int .i64) 3 W base ok (.slice A n c) m) {gs : Nat} (hg : gs < base) : ∀ W', Kept W W' (fun k => k = gs) → Kd.C (Kd.int .i64) W' A n m :=
 Kd.C_kept_own (ok := fun k => some k = (Value.slice A n c).ownBlock) (Kd.R_tight rfl h) (fun k hk e => by have := Kd.R_base h k hk.symm; omega)
end
theorem pushed_step (ps : List (Int × Int × Int)) (i : Nat) (h : i < ps.length) : pushedOf (ps.take (i + 1)) = pushedOf (ps.take i) + if (ps[i]).2.1 = -1 then (ps[i]).2.2 else 0 := by
 unfold pushedOf
 rw [List.take_succ_eq_append_getElem h, List.map_append, List.sum_append]; simp
theorem pushed_bound : ∀ ps : List (Int × Int × Int), (∀ p ∈ ps, 1 ≤ p.2.2 ∧ p.2.2 ≤ 1099511627776) → 0 ≤ pushedOf ps ∧ pushedOf ps ≤ ps.length * 1099511627776
 | [], _ => by simp [pushedOf]
 | p :: ps, h => by
  have h1 := h p (by simp)
  have h2 := pushed_bound ps (fun q hq => h q (by simp [hq]))
  unfold pushedOf at h2 ⊢
  simp only [List.map_cons, List.sum_cons, List.length_cons]
  rw [Int.natCast_add, Int.add_mul]
  split <;> omega
set_option maxHeartbeats 8000000 in
set_option maxRecDepth 100000 in
theorem top_calls (kinds hold : Int) (CA : Option Addr) (ck : Nat) (caps : List Int) (PA : Option Addr) (pc : Nat) (pu : List (Int × Int × Int)) (SA : Option Addr) (sc : Nat) (start : List (List Int)) (RA : Option Addr) (rc : Nat) (rp : List Int) (LA : Option Addr) (lc : Nat) (l : List (Int × Int)) (w : World)
  (hcaps : Kd.C (Kd.int .i64) w CA caps.length caps) (hck : caps.length ≤ ck) (hpu : Kd.C kP w PA pu.length pu) (hpc : pu.length ≤ pc) (hst : Kd.C (Kd.slice 3 (Kd.int .i64)) w SA start.length start) (hsc : start.length ≤ sc) (hrp : Kd.C (Kd.int .i64) w RA rp.length rp) (hrc : rp.length ≤ rc) (hl : Kd.C kD w LA l.length l) :
  Calls Try.prog 3 #[.agg #[.int .i64 kinds, .slice CA caps.length ck, .slice PA pu.length pc, .int .i64 hold], .slice SA start.length sc, .slice RA rp.length rc, .slice LA l.length lc] w fun e w' => e = .returned (.bool true) ∧ Below w.heap.size w w' := by
 obtain ⟨K, hK⟩ : ∃ K, 4000 ≤ K := ⟨4000, Nat.le_refl _⟩
 have HC := Aside0.mk hcaps
 have HPU := Aside0.mk hpu
 have HST := Aside0.mk hst
 have HRP := Aside0.mk hrp
 have HL := Aside0.mk hl
 clear hcaps hpu hst hrp hl
 by_cases hlen : 200 < l.length
 ·have d1 : decide ((200 : Int) < (l.length : Int)) = true := decide_eq_true (by omega)
  go_enter Try.func3, Try.ntmps3
  go_upto_region 2 with (first | ((with_reducible refine gate_dst (N := 4) rfl ?_); refine box_event ?hg (N := 4) ?hd (cs := #[.int .i64 kinds, .slice CA caps.length ck, .slice PA pu.length pc, .int .i64 hold]) (t := 25) ?hr ?_; (case hd => rfl); (case hg => rfl); (case hr => first | (go_simp; done) | (go_simp; rfl)); intro g4 hg w1 hbox hb; have K4 := Aside0.mk hbox; have G4 := Aside0.mk (show w.heap.size ≤ g4 by rw [hg]; exact Nat.le_refl _); have HB1 := Aside0.mk hb; clear hb hbox hg; have c40 : w1.cell? ⟨g4, 0, none⟩ = some (.int .i64 kinds) := (blk_cell K4.out 0).trans rfl; have c41 : w1.cell? ⟨g4, 1, none⟩ = some (.slice CA caps.length ck) := (blk_cell K4.out 1).trans rfl; have c42 : w1.cell? ⟨g4, 2, none⟩ = some (.slice PA pu.length pc) := (blk_cell K4.out 2).trans rfl; have c43 : w1.cell? ⟨g4, 3, none⟩ = some (.int .i64 hold) := (blk_cell K4.out 3).trans rfl))
  go_wp2_with (first | (go_at_call 4; (with_reducible refine (plant_calls _).mono ?_); rintro e wp ⟨rfl, hbp⟩; have HBP := Aside0.mk hbp; clear hbp))
  go_ret
  exact ⟨rfl, below_step HB1.out HBP.out⟩
 have d1 : decide ((200 : Int) < (l.length : Int)) = false := decide_eq_false (by omega)
 by_cases hok : newOk kinds hold caps pu start
 ·obtain ⟨n, hn⟩ := Int.eq_ofNat_of_zero_le (show 0 ≤ kinds from by have := hok.1.1.1; omega)
  subst hn
  have hp0 := plantNew_ok hok
  have hsn := sums_new hok
  have hk18 : 1 ≤ n ∧ n ≤ 8 := hp0.1.pipe.n1
  have HSL := Aside0.mk hok.2.1
  have hcl8 : caps.length ≤ 8 := hok.1.2.1.2
  have hpok := hok.1.2.2.2.1
  have hpu16 : pu.length ≤ 16 := hpok.1
  have hrow : ∀ i, i < start.length → rowOk n hold caps start i := hok.2.2
  have hnew : ∀ W, Below w.heap.size w W → Calls Try.prog 5 #[.agg #[.int .i64 (n : Int), .slice CA caps.length ck, .slice PA pu.length pc, .int .i64 hold], .slice SA start.length sc] W fun e w' => ∃ g : PX, e = .returned (.tuple #[.pointer (some ⟨g.gx, 0, none⟩), .int .i64 0]) ∧ Below W.heap.size W w' ∧ PAt w' W.heap.size (fun _ => False) g (plantNew n hold caps pu start) := fun W hW => (new_calls K (by omega) (n : Int) hold CA ck caps PA pc pu SA sc start W (Kd.C_below HC.out hW) hck (Kd.C_below HPU.out hW) hpc (Kd.C_below HST.out hW) hsc).mono (fun e w' h => by
   obtain ⟨hb, ⟨h1, _⟩ | ⟨_, g, h2, h3⟩⟩ := h
   ·exact absurd hok h1
   ·exact ⟨g, h2, hb, h3⟩)
  have hpumps : (plantNew n hold caps pu start).pumps = pu := rfl
  have hhold : (plantNew n hold caps pu start).hold = hold := rfl
  generalize plantNew n hold caps pu start = s0 at *
  have HNEW := Aside0.mk hnew
  have HROW := Aside0.mk hrow
  have HP0 := Aside0.mk hp0
  have HSN := Aside0.mk hsn
  have HPOK := Aside0.mk hpok
  have HPM := Aside0.mk (show s0.pumps = pu ∧ s0.hold = hold from ⟨hpumps, hhold⟩)
  have d5 : ((start.length : Int) != (caps.length : Int) + 1) = false := by have := HSL.out; rw [bne_eq_false_iff_eq]; omega
  have d5' : ((start.length : Int) == (caps.length : Int) + 1) = true := by have := HSL.out; rw [beq_iff_eq]; omega
  have hst9 : start.length ≤ 9 := by have := HSL.out; omega
  have hw1 : IntKind.i64.wrap ((caps.length : Int) + 1) = (caps.length : Int) + 1 := by rw [IntKind.wrap_i64]; omega
  clear hnew hrow hp0 hsn hpok hok hpumps hhold
  go_enter Try.func3, Try.ntmps3
  go_upto_region 4 with (first | ((with_reducible refine gate_dst (N := 4) rfl ?_); refine box_event ?hg (N := 4) ?hd (cs := #[.int .i64 (n : Int), .slice CA caps.length ck, .slice PA pu.length pc, .int .i64 hold]) (t := 25) ?hr ?_; (case hd => rfl); (case hg => rfl); (case hr => first | (go_simp; done) | (go_simp; rfl)); intro g4 hg w1 hbox hb; have K4 := Aside0.mk hbox; have G4 := Aside0.mk (show w.heap.size ≤ g4 by rw [hg]; exact Nat.le_refl _); have HB1 := Aside0.mk hb; clear hb hbox hg; have c40 : w1.cell? ⟨g4, 0, none⟩ = some (.int .i64 (n : Int)) := (blk_cell K4.out 0).trans rfl; have c41 : w1.cell? ⟨g4, 1, none⟩ = some (.slice CA caps.length ck) := (blk_cell K4.out 1).trans rfl; have c42 : w1.cell? ⟨g4, 2, none⟩ = some (.slice PA pu.length pc) := (blk_cell K4.out 2).trans rfl; have c43 : w1.cell? ⟨g4, 3, none⟩ = some (.int .i64 hold) := (blk_cell K4.out 3).trans rfl) | (go_at_call 5; (with_reducible refine (HNEW.out _ HB1.out).mono ?_); rintro e w6 ⟨g, rfl, hb, hP⟩; have HB6 := Aside0.mk hb; have HP6 := Aside0.mk hP; clear hP c40 c41 c42 c43; have c40 : w6.cell? ⟨g4, 0, none⟩ = some (.int .i64 (n : Int)) := (blk_cell (blk_below K4.out hb) 0).trans rfl; have c41 : w6.cell? ⟨g4, 1, none⟩ = some (.slice CA caps.length ck) := (blk_cell (blk_below K4.out hb) 1).trans rfl; have c42 : w6.cell? ⟨g4, 2, none⟩ = some (.slice PA pu.length pc) := (blk_cell (blk_below K4.out hb) 2).trans rfl; have c43 : w6.cell? ⟨g4, 3, none⟩ = some (.int .i64 hold) := (blk_cell (blk_below K4.out hb) 3).trans rfl))
  replace HC := Aside0.mk (Kd.C_below HC.out HB1.out)
  replace HPU := Aside0.mk (Kd.C_below HPU.out HB1.out)
  replace HST := Aside0.mk (Kd.C_below HST.out HB1.out)
  replace HRP := Aside0.mk (Kd.C_below HRP.out HB1.out)
  replace HL := Aside0.mk (Kd.C_below HL.out HB1.out)
  have hmk : ∀ W : World, (Instr.makeSlice 22 (.int .i64 (n : Int)) (.int .i64 (n : Int))).run Try.prog W = .ok (.slice (some ⟨W.heap.size, 0, none⟩) n n) (W.alloc (.cells (madeCells #[.int .i64 0] n) 3)) := fun W =>
   run_make_row' (P := Try.prog) 22 3 (.int .i64 0) 8 Try.underlying22 info3 rfl .i64 .i64 n (by omega) (by omega) W
  have hms : (madeCells #[Value.int .i64 0] n).toList = List.replicate n (Value.int .i64 0) := toList_madeCells_one _ _
  generalize madeCells #[Value.int .i64 0] n = mk at *
  go_upto_region 9 with (first | fail)
  have hbn : Below w6.heap.size w6 (w6.alloc (.cells mk 3)) := below_alloc (Below.refl _ _) _
  have HI := Aside0.mk (show LInv w1 (w6.alloc (.cells mk 3)) w6.heap.size n g s0 (fedTo n start 0) from ⟨below_step HB6.out hbn, own_zero (blk_new _ _) hms HB6.out.size (by unfold maxLen; omega), HP6.out.widen hbn (fun k hk => .inr (by rw [hk]; exact Nat.le_refl _)) (fun k hk => by rw [hk]; simp)⟩)
  clear hbn HP6 HB6 hmk hms c40 c41 c42 c43
  generalize hW7 : w6.alloc (.cells mk 3) = w7 at *
  clear hW7
  generalize w6.heap.size = gs at *
  go_wp2
  go_loopg [55] start.length (fun kx s55 wr => ∃ (i : Nat), s55 = .int .i64 i ∧ i ≤ start.length ∧ start.length - i ≤ kx ∧ Aside0 (LInv w1 wr gs n g s0 (fedTo n start i)))
  case atStart => exact ⟨0, rfl, Nat.zero_le _, by omega, by first | exact HI | exact ⟨HI.out.below (by first | exact Below.refl _ _ | exact pw_below_drewN (Below.refl _ _) _)⟩⟩
  case round =>
   clear HI
   obtain ⟨i, rfl, hi, hgk, HI⟩ := hrel
   by_cases hlt : i < start.length
   ·obtain ⟨ad3, A3, c3, e3, hx3, hlc3, hr3⟩ := at_L1 HST.out (i : Int) (by omega) (by omega)
    subst e3
    have ei : rd_L1 start (i : Int) = start[i] := by unfold rd_L1; rw [Int.toNat_natCast, List.getD_eq_getElem?_getD, List.getElem?_eq_getElem hlt]; rfl
    have hfs := fedTo_step n start i hlt
    have hpm : partsOk start[i] (n : Int) := by
     have := (HROW.out i hlt).1
     rwa [List.getD_eq_getElem?_getD, List.getElem?_eq_getElem hlt] at this
    have hfd := fedTo_ok n hold caps start (by omega) (by omega) i (by omega) (fun j hj => HROW.out j (by omega))
    rw [ei] at hx3 hlc3 hr3
    generalize start[i] = m at *
    rw [Int.toNat_natCast] at hx3
    replace hx3 := (HI.out.hb.cell (World.block_lt_of_cell? w1 _ hx3)).trans hx3
    have HC3 := Aside0.mk hlc3
    have HR3 := Aside0.mk hr3
    have HMO := Aside0.mk (show papermilltop_more.f K (fedTo n start i) m 1 = some (true, fedTo n start (i + 1)) from by
     rw [hfs]
     have h1 := hfd.1
     have h2 := hpm.2.1
     exact more_add (by omega) (by omega) (by omega) (fits_of hfd.2 (by omega)) (fits_of hpm.2.2 (by omega)))
    clear hlc3 hr3 ei hfs hpm hfd
    have p1 : (0 ≤ (i : Int)) = True := eq_true (by omega)
    have q1 : ((i : Int) < (start.length : Int)) = True := eq_true (by omega)
    have hw : IntKind.i64.wrap ((i : Int) + 1) = ((i + 1 : Nat) : Int) := by rw [IntKind.wrap_i64]; omega
    go_wp2_with (first | (go_at_call 6; (with_reducible refine (papermilltop_more.calls K (fun k => k = gs) (.slice (some ⟨gs, 0, none⟩) n n) (fedTo n start i) A3 c3 m 1 true (fedTo n start (i + 1)) w1 _ HI.out.hb HI.out.hs ?hr1 HC3.out HMO.out).mono ?_); (case hr1 => exact Kd.C_kept_came (Kd.heap_int .i64) HR3.out HI.out.hb (fun k hk => by rw [hk]; exact HI.out.le)); rintro e w8 ⟨rfl, hR, hB, hK⟩; have n0_ := Aside0.mk (HI.out.more hB hK hR); clear HI hR hB hK; have HI := n0_; clear n0_))
    go_roundg (start.length - (i + 1))
    case measure => omega
    case rel => exact ⟨i + 1, by first | rfl | (rw [hw]; rfl) | simp, by omega, Nat.le_refl _, HI⟩
   ·obtain rfl : i = start.length := by omega
    have c42 : wr.cell? ⟨g4, 2, none⟩ = some (.slice PA pu.length pc) := (blk_cell (blk_below K4.out HI.out.hb) 2).trans rfl
    generalize fedTo n start start.length = sums0 at *
    go_wp2
    clear c42
    go_loopg [14, 67] pu.length (fun kx s14 s67 wr => ∃ (i : Nat), s14 = .int .i64 (pushedOf (pu.take i)) ∧ s67 = .int .i64 i ∧ i ≤ pu.length ∧ pu.length - i ≤ kx ∧ Aside0 (LInv w1 wr gs n g s0 sums0))
    case atStart => exact ⟨0, rfl, rfl, Nat.zero_le _, by omega, by first | exact HI | exact ⟨HI.out.below (by first | exact Below.refl _ _ | exact pw_below_drewN (Below.refl _ _) _)⟩⟩
    case round =>
     clear HI
     obtain ⟨i, rfl, rfl, hi, hgk, HI⟩ := hrel
     by_cases hlt : i < pu.length
     ·have hps := pushed_step pu i hlt
      have hpb := pushed_bound (pu.take i) (fun p hp => by have := HPOK.out.2.1 p (List.mem_of_mem_take hp); exact ⟨this.2.2.2.1, this.2.2.2.2⟩)
      have hpx := HPOK.out.2.1 _ (List.getElem_mem hlt)
      rw [List.length_take] at hpb
      have hpb2 : ((min i pu.length : Nat) : Int) ≤ 16 := by omega
      obtain ⟨ad, cl, eA, hcl, hK, hcc⟩ := Kd.C_get (Kd.C_below HPU.out HI.out.hb) (0, 0, 0) (i : Int) (by omega) (by omega)
      subst eA
      rw [Int.toNat_natCast, List.getD_eq_getElem?_getD, List.getElem?_eq_getElem hlt] at hK
      rw [Int.toNat_natCast] at hcc
      simp only [Option.getD_some] at hK
      generalize pu[i] = x at *
      obtain ⟨x1, x2, x3⟩ := x
      obtain ⟨a0, a1, rfl, h0, b0, b1, rfl, h1, h2⟩ := hK
      have h0' : a0 = [.int .i64 x1] := h0
      have h1' : b0 = [.int .i64 x2] := h1
      have h2' : b1 = [.int .i64 x3] := h2
      subst h0' h1' h2'
      have hx0 : wr.cell? (ad.add (i * 3)) = some (.int .i64 x1) := hcc 0 _ rfl
      have hx1 : wr.cell? ⟨(ad.add (i * 3)).block, (ad.add (i * 3)).off + 1, none⟩ = some (.int .i64 x2) := by rw [← add_fld ad (i * 3) 1 (by omega)]; exact hcc 1 _ rfl
      have hx2 : wr.cell? ⟨(ad.add (i * 3)).block, (ad.add (i * 3)).off + 2, none⟩ = some (.int .i64 x3) := by rw [← add_fld ad (i * 3) 2 (by omega)]; exact hcc 2 _ rfl
      clear hcc hcl h0 h1 h2
      have HPS := Aside0.mk hps
      have hxm : 1 ≤ x3 ∧ x3 ≤ 1099511627776 := ⟨hpx.2.2.2.1, hpx.2.2.2.2⟩
      clear hps hpx
      generalize pushedOf (pu.take i) = y at *
      have q1 : (0 ≤ (i : Int)) = True := eq_true (by omega)
      have q2 : ((i : Int) < (pu.length : Int)) = True := eq_true (by omega)
      have hw : IntKind.i64.wrap ((i : Int) + 1) = ((i + 1 : Nat) : Int) := by rw [IntKind.wrap_i64]; omega
      have hwy : IntKind.i64.wrap (y + x3) = y + x3 := by rw [IntKind.wrap_i64]; omega
      go_upto_region 19 with (first | ((with_reducible refine gate_dst (N := 16) rfl ?_); refine box_event ?hg (N := 16) ?hd (cs := #[.int .i64 0, .int .i64 0, .int .i64 0]) (t := 35) ?hr ?_; (case hd => rfl); (case hg => rfl); (case hr => first | (go_simp; done) | (go_simp; rfl)); intro g16 hg16 w2 hbox hb; have K16 := Aside0.mk hbox; have G16 := Aside0.mk (show wr.heap.size ≤ g16 by rw [hg16]; exact Nat.le_refl _); have HB2 := Aside0.mk hb; clear hb hbox hg16 hx0 hx1 hx2; have c160 : w2.cell? ⟨g16, 0, none⟩ = some (.int .i64 0) := (blk_cell K16.out 0).trans rfl; have c161 : w2.cell? ⟨g16, 1, none⟩ = some (.int .i64 0) := (blk_cell K16.out 1).trans rfl; have c162 : w2.cell? ⟨g16, 2, none⟩ = some (.int .i64 0) := (blk_cell K16.out 2).trans rfl; have f160 := blk_frozen K16.out 0; have f161 := blk_frozen K16.out 1; have f162 := blk_frozen K16.out 2))
      generalize hW : World.setCell (World.setCell (World.setCell w2 _ _) _ _) _ _ = w3
      have hb3 : Below wr.heap.size wr w3 := by rw [← hW]; exact below_set (below_set (below_set HB2.out G16.out) G16.out) G16.out
      have K163 := Aside0.mk (show w3.heap[g16]? = some (.cells #[.int .i64 x1, .int .i64 x2, .int .i64 x3] 35 (0, 0)) from by rw [← hW]; exact blk_put (blk_put (blk_put K16.out 0 _ rfl) 1 _ rfl) 2 _ rfl)
      have HI3 := Aside0.mk (HI.out.below hb3)
      clear hW HB2 HI hb3 K16 f160 f161 f162 c160 c161 c162
      have HI := HI3
      clear HI3
      have c161 : w3.cell? ⟨g16, 1, none⟩ = some (.int .i64 x2) := (blk_cell K163.out 1).trans rfl
      have c162 : w3.cell? ⟨g16, 2, none⟩ = some (.int .i64 x3) := (blk_cell K163.out 2).trans rfl
      by_cases ex : x2 = -1
      ·have e1 : (x2 == -1) = true := beq_iff_eq.mpr ex
       have HPS2 := Aside0.mk (show pushedOf (pu.take (i + 1)) = y + x3 from by rw [HPS.out, if_pos ex])
       go_wp2
       go_roundg (pu.length - (i + 1))
       case measure => omega
       case rel => exact ⟨i + 1, by rw [HPS2.out], by first | rfl | (rw [hw]; rfl) | simp, by omega, Nat.le_refl _, HI⟩
      ·have e1 : (x2 == -1) = false := beq_eq_false_iff_ne.mpr ex
       have HPS2 := Aside0.mk (show pushedOf (pu.take (i + 1)) = y from by have h := HPS.out; rw [if_neg ex] at h; first | exact h | omega)
       go_wp2
       go_roundg (pu.length - (i + 1))
       case measure => omega
       case rel => exact ⟨i + 1, by rw [HPS2.out], by first | rfl | (rw [hw]; rfl) | simp, by omega, Nat.le_refl _, HI⟩
     ·obtain rfl : i = pu.length := by omega
      rw [List.take_length]
      obtain ⟨pd, hpd⟩ : ∃ pd, pd = pushedOf pu := ⟨_, rfl⟩
      rw [← hpd]
      have HPD := Aside0.mk hpd
      clear hpd
      obtain ⟨gx, gc0, cc0, gf0, cf0, gm0, cm0, CA0, cn0, ck0, PA0, pc0, QA0, qc0⟩ := g
      simp only []
      go_wp2
      go_loopg [81] l.length (fun kx s81 wr => ∃ (i : Nat) (gi : PX) (si : Pl) (sums : List Int), s81 = .int .i64 i ∧ i ≤ l.length ∧ l.length - i ≤ kx ∧ gx = gi.gx ∧ Aside0 (LInv w1 wr gs n gi si sums) ∧ Aside0 (PlOk n (9895604649984 + i * 1099511627776) (i * 17592186044416) si) ∧ Aside0 (sumsOk n sums (tot si)) ∧ Aside0 (si.pumps = pu ∧ si.hold = hold))
      case atStart => exact ⟨0, _, s0, sums0, rfl, Nat.zero_le _, by omega, rfl, by first | exact HI | exact ⟨HI.out.below (by first | exact Below.refl _ _ | exact pw_below_drewN (Below.refl _ _) _)⟩, ⟨by have h := HP0.out.1; simpa using h⟩, HSN, HPM⟩
      case round =>
       clear HI
       obtain ⟨i, gi, si, sums, rfl, hi, hgk, hgx, HI, HPL, HSU, HSA⟩ := hrel
       obtain ⟨gx', gc, cc, gf, cf, gm, cm, CA2, cn, ck2, PA2, pc2, QA, qc⟩ := gi
       replace hgx : gx = gx' := hgx
       subst hgx
       by_cases hlt : i < l.length
       ·obtain ⟨ad, cl, eA, hcl, hK, hcc⟩ := Kd.C_get (Kd.C_below HL.out HI.out.hb) (0, 0) (i : Int) (by omega) (by omega)
        subst eA
        rw [Int.toNat_natCast, List.getD_eq_getElem?_getD, List.getElem?_eq_getElem hlt] at hK
        rw [Int.toNat_natCast] at hcc
        simp only [Option.getD_some] at hK
        generalize l[i] = x at *
        obtain ⟨x1, x2⟩ := x
        obtain ⟨a0, a1, rfl, h0, h1⟩ := hK
        have h0' : a0 = [.int .i64 x1] := h0
        have h1' : a1 = [.int .i64 x2] := h1
        subst h0' h1'
        have hx0 : wr.cell? (ad.add (i * 2)) = some (.int .i64 x1) := hcc 0 _ rfl
        have hx1 : wr.cell? ⟨(ad.add (i * 2)).block, (ad.add (i * 2)).off + 1, none⟩ = some (.int .i64 x2) := by rw [← add_fld ad (i * 2) 1 (by omega)]; exact hcc 1 _ rfl
        clear hcc hcl h0 h1
        have q1 : (0 ≤ (i : Int)) = True := eq_true (by omega)
        have q2 : ((i : Int) < (l.length : Int)) = True := eq_true (by omega)
        have hw : IntKind.i64.wrap ((i : Int) + 1) = ((i + 1 : Nat) : Int) := by rw [IntKind.wrap_i64]; omega
        have hi200 : i ≤ 200 := by omega
        go_upto_region 25 with (first | ((with_reducible refine gate_dst (N := 18) rfl ?_); refine box_event ?hg (N := 18) ?hd (cs := #[.int .i64 0, .int .i64 0]) (t := 37) ?hr ?_; (case hd => rfl); (case hg => rfl); (case hr => first | (go_simp; done) | (go_simp; rfl)); intro g18 hg18 w2 hbox hb; have K18 := Aside0.mk hbox; have G18 := Aside0.mk (show wr.heap.size ≤ g18 by rw [hg18]; exact Nat.le_refl _); have HB2 := Aside0.mk hb; clear hb hbox hg18 hx0 hx1; have c180 : w2.cell? ⟨g18, 0, none⟩ = some (.int .i64 0) := (blk_cell K18.out 0).trans rfl; have c181 : w2.cell? ⟨g18, 1, none⟩ = some (.int .i64 0) := (blk_cell K18.out 1).trans rfl; have f180 := blk_frozen K18.out 0; have f181 := blk_frozen K18.out 1))
        generalize hW : World.setCell (World.setCell w2 _ _) _ _ = w3
        have hb3 : Below wr.heap.size wr w3 := by rw [← hW]; exact below_set (below_set HB2.out G18.out) G18.out
        have K183 := Aside0.mk (show w3.heap[g18]? = some (.cells #[.int .i64 x1, .int .i64 x2] 37 (0, 0)) from by rw [← hW]; exact blk_put (blk_put K18.out 0 _ rfl) 1 _ rfl)
        have HI3 := Aside0.mk (HI.out.below hb3)
        clear hW HB2 HI hb3 K18 f180 f181 c180 c181
        have HI := HI3
        have K18 := K183
        clear HI3 K183
        have c180 : w3.cell? ⟨g18, 0, none⟩ = some (.int .i64 x1) := (blk_cell K18.out 0).trans rfl
        have c181 : w3.cell? ⟨g18, 1, none⟩ = some (.int .i64 x2) := (blk_cell K18.out 1).trans rfl
        have hn8 := HPL.out.pipe.n1
        by_cases hto : 0 ≤ x1
        ·obtain ⟨xn, hxn⟩ := Int.eq_ofNat_of_zero_le hto
         subst hxn
         have dt : decide ((xn : Int) ≥ 0) = true := decide_eq_true hto
         have dt' : decide (0 ≤ (xn : Int)) = true := decide_eq_true hto
         obtain ⟨m, q, hma⟩ := masses_any (K := K) (by omega) rp x2
         have HMA := Aside0.mk hma
         clear hma
         go_upto_region 27 with (first | (go_at_call 7; (with_reducible refine (fibre_Masses.calls K RA rc rp x2 m q _ (Kd.C_below HRP.out HI.out.hb) hrc HMA.out).mono ?_); rintro e w8 ⟨v, rfl, hR, hb⟩; obtain ⟨Am, cM, em⟩ := Kd.R_slice hR; subst em; have HCM := Aside0.mk (Kd.R_reads' hR).2.1; have HMF := Aside0.mk (Kd.R_F (Kd.R_tight rfl hR)); have HOM := Aside0.mk (show ∀ k, some k = (Value.slice Am m.length cM).ownBlock → ¬ PX.mu ⟨gx, gc, cc, gf, cf, gm, cm, CA2, cn, ck2, PA2, pc2, QA, qc⟩ k ∧ k ≠ gs from fun k hk => by have h1 := Kd.R_base hR k hk.symm; exact ⟨fun h => by have := HI.out.hP.lt_mu k h; omega, fun h => by have := HI.out.lt; omega⟩); have n0_ := Aside0.mk (HI.out.below hb); have n1_ := Aside0.mk (blk_below K18.out hb); clear HI K18 c180 c181 hR hb; have HI := n0_; have K18 := n1_; clear n0_ n1_; have c180 : w8.cell? ⟨g18, 0, none⟩ = some (.int .i64 ((xn : Nat) : Int)) := (blk_cell K18.out 0).trans rfl))
         by_cases hq : q = 0
         ·subst hq
          by_cases hxl : xn < si.chests.length
          ·obtain ⟨r1, r2, r3, hf, hfo⟩ := feed_ok (K := K) (by omega) HPL.out (by omega) hxl m
           have HXN := Aside0.mk hxl
           have HF := Aside0.mk hf
           have HFA := Aside0.mk (show r3 = 0 → prep_add.f K si.fed m = some (vadd si.fed m) ∧ (vadd si.fed m).length = si.fed.length from fun h => ⟨(hfo h).2.1, (hfo h).2.2.1⟩)
           clear hf hxl
           by_cases h3 : r3 = 0
           ·obtain ⟨fm, _, _, fp, ft⟩ := hfo h3
            subst h3
            have hsf := sums_fits HPL.out HSU.out
            have HMO := Aside0.mk (show papermilltop_more.f K sums m 1 = some (true, vadd sums m) from more_add (by have := HSU.out.1; have := fm.2.1; omega) (by have := HSU.out.1; omega) (by have := HSU.out.1; omega) hsf (fits_of fm.2.2 (by omega)))
            have HSU2 := Aside0.mk (sums_feed HSU.out fm ft)
            have HPL2 := Aside0.mk (fp.mono (show 9895604649984 + (i : Int) * 1099511627776 + 1099511627776 ≤ 9895604649984 + ((i + 1 : Nat) : Int) * 1099511627776 from by omega) (show (i : Int) * 17592186044416 ≤ ((i + 1 : Nat) : Int) * 17592186044416 from by omega))
            clear hfo fm fp ft hsf
            go_wp2_with (first | (go_at_call 8; (with_reducible refine (feed_calls K (fun k => k = gs) ⟨gx, gc, cc, gf, cf, gm, cm, CA2, cn, ck2, PA2, pc2, QA, qc⟩ si w1 _ HI.out.hP HI.out.hb xn HXN.out _ rfl Am cM m (fun k => some k = (Value.slice Am m.length cM).ownBlock) HMF.out (fun k hk => (HOM.out k hk).1) HCM.out r1 r2 _ HF.out (vadd si.fed m) HFA.out).mono ?_); rintro e w9 ⟨rfl, hB, hE, hK, hP⟩; have n0_ := Aside0.mk (HI.out.plant hB hK (fun _ h => h) (hP (by first | rfl | trivial))); have n1_ := Aside0.mk (Kd.F_kept HMF.out hK (fun k ho e => (HOM.out k ho).1 e)); clear HI HMF hB hE hK hP; have HI := n0_; have HMF := n1_; clear n0_ n1_) | (go_at_call 6; (with_reducible refine (papermilltop_more.calls K (fun k => k = gs) (.slice (some ⟨gs, 0, none⟩) n n) sums Am cM m 1 true (vadd sums m) w1 _ HI.out.hb HI.out.hs ?hr1 HCM.out HMO.out).mono ?_); (case hr1 => exact fun W_ hk => Kd.F_now (Kd.F_kept HMF.out hk (fun k ho e => (HOM.out k ho).2 e))); rintro e w10 ⟨rfl, hR, hB, hK⟩; have n0_ := Aside0.mk (HI.out.more hB hK hR); clear HI hR hB hK; have HI := n0_; clear n0_))
            go_roundg (l.length - (i + 1))
            case measure => omega
            case rel => exact ⟨i + 1, ⟨gx, gc, cc, gf, cf, gm, cm, CA2, cn, ck2, PA2, pc2, QA, qc⟩, _, (vadd sums m), by first | rfl | (rw [hw]; rfl) | simp, by omega, Nat.le_refl _, rfl, HI, HPL2, HSU2, HSA⟩
           ·have d3 : (r3 == 0) = false := beq_eq_false_iff_ne.mpr h3
            have HR3 := Aside0.mk h3
            clear hfo
            go_wp2_with (first | (go_at_call 8; (with_reducible refine (feed_calls K (fun k => k = gs) ⟨gx, gc, cc, gf, cf, gm, cm, CA2, cn, ck2, PA2, pc2, QA, qc⟩ si w1 _ HI.out.hP HI.out.hb xn HXN.out _ rfl Am cM m (fun k => some k = (Value.slice Am m.length cM).ownBlock) HMF.out (fun k hk => (HOM.out k hk).1) HCM.out r1 r2 _ HF.out (vadd si.fed m) HFA.out).mono ?_); rintro e w9 ⟨rfl, hB, hE, hK, hP⟩; have n0_ := Aside0.mk (HI.out.quiet hB (hE HR3.out)); clear HI hB hE hK hP; have HI := n0_; clear n0_))
            go_roundg (l.length - (i + 1))
            case measure => omega
            case rel => exact ⟨i + 1, ⟨gx, gc, cc, gf, cf, gm, cm, CA2, cn, ck2, PA2, pc2, QA, qc⟩, si, sums, by first | rfl | (rw [hw]; rfl) | simp, by omega, Nat.le_refl _, rfl, HI, ⟨HPL.out.mono (by omega) (by omega)⟩, HSU, HSA⟩
          ·have HXN := Aside0.mk (show (xn : Int) < 0 ∨ (si.chests.length : Int) ≤ (xn : Int) from .inr (by omega))
           go_wp2_with (first | (go_at_call 8; (with_reducible refine (feed_none (fun k => k = gs) ⟨gx, gc, cc, gf, cf, gm, cm, CA2, cn, ck2, PA2, pc2, QA, qc⟩ si w1.heap.size _ HI.out.hP (xn : Int) HXN.out Am cM m.length).mono ?_); rintro e w9 ⟨rfl, hb⟩; have n0_ := Aside0.mk (HI.out.below hb); clear HI hb; have HI := n0_; clear n0_))
           go_roundg (l.length - (i + 1))
           case measure => omega
           case rel => exact ⟨i + 1, ⟨gx, gc, cc, gf, cf, gm, cm, CA2, cn, ck2, PA2, pc2, QA, qc⟩, si, sums, by first | rfl | (rw [hw]; rfl) | simp, by omega, Nat.le_refl _, rfl, HI, ⟨HPL.out.mono (by omega) (by omega)⟩, HSU, HSA⟩
         ·have dq : (q == 0) = false := beq_eq_false_iff_ne.mpr hq
          go_wp2
          go_roundg (l.length - (i + 1))
          case measure => omega
          case rel => exact ⟨i + 1, ⟨gx, gc, cc, gf, cf, gm, cm, CA2, cn, ck2, PA2, pc2, QA, qc⟩, si, sums, by first | rfl | (rw [hw]; rfl) | simp, by omega, Nat.le_refl _, rfl, HI, ⟨HPL.out.mono (by omega) (by omega)⟩, HSU, HSA⟩
        ·have dt : decide (x1 ≥ 0) = false := decide_eq_false (by omega)
         have dt' : decide (0 ≤ x1) = false := decide_eq_false (by omega)
         obtain ⟨r, hsf, hsk, hso⟩ := step_ok (K := K) (by omega) si.pumps ((i : Int) * 17592186044416) si HPL.out (by have := HPL.out.pumps.1; omega) HPL.out.pumps.2.1
         have HSF := Aside0.mk hsf
         have HSK := Aside0.mk hsk
         clear hsf hsk
         have HSZ := Aside0.mk (show (0 < si.chests.length ∧ si.chests.length ≤ 1000) ∧ (0 < si.fed.length ∧ si.fed.length ≤ 1000) ∧ (0 < si.made.length ∧ si.made.length ≤ 1000) ∧ si.pumps.length ≤ 1000 from by
          have z1 := HPL.out.ch1; have z2 := HPL.out.fed.1; have z3 := HPL.out.made.1; have z4 := HPL.out.pumps.1
          omega)
         cases r with
         | none =>
          have HRN := Aside0.mk (show (none : Option Pl) = none from rfl)
          clear hso
          go_upto_region 30 with (first | (go_at_call 9; (with_reducible refine (step_walk K n (fun k => k = gs) ⟨gx, gc, cc, gf, cf, gm, cm, CA2, cn, ck2, PA2, pc2, QA, qc⟩ si w1 _ HI.out.hP HI.out.hb none HSF.out HSK.out HSZ.out.1 HSZ.out.2.1 HSZ.out.2.2.1 HSZ.out.2.2.2).mono ?_); rintro e w8 ⟨hB, hE, hOK⟩; obtain ⟨q, hq0, rfl, hK⟩ := hE HRN.out; have n0_ := Aside0.mk (HI.out.quiet hB hK); have HQ0 := Aside0.mk hq0; clear HI hB hE hOK hK; have HI := n0_; clear n0_))
          have dq : (q == 0) = false := beq_eq_false_iff_ne.mpr HQ0.out
          have dq' : (q != 0) = true := bne_iff_ne.mpr HQ0.out
          go_wp2
          go_roundg (l.length - (i + 1))
          case measure => omega
          case rel => exact ⟨i + 1, ⟨gx, gc, cc, gf, cf, gm, cm, CA2, cn, ck2, PA2, pc2, QA, qc⟩, si, sums, by first | rfl | (rw [hw]; rfl) | simp, by omega, Nat.le_refl _, rfl, HI, ⟨HPL.out.mono (by omega) (by omega)⟩, HSU, HSA⟩
         | some s2 =>
          have hd := hso s2 rfl
          have hpm : (i : Int) * 17592186044416 + (si.pumps.length : Int) * 1099511627776 ≤ 1152921504606846976 := by have := HPL.out.pumps.1; omega
          have hso2 := step_out HPL.out hd (by omega) hpm
          have hss := sums_step HSU.out HPL.out hd (by omega) hpm
          have HSA2 := Aside0.mk (show s2.pumps = pu ∧ s2.hold = hold from ⟨hd.pumps.trans HSA.out.1, hd.hold.trans HSA.out.2⟩)
          have HPL2 := Aside0.mk (hd.ok.mono (show 9895604649984 + (i : Int) * 1099511627776 ≤ 9895604649984 + ((i + 1 : Nat) : Int) * 1099511627776 from by omega) (show (i : Int) * 17592186044416 + (si.pumps.length : Int) * 1099511627776 ≤ ((i + 1 : Nat) : Int) * 17592186044416 from by have := HPL.out.pumps.1; omega))
          have hpd : pushedOf si.pumps = pd := by rw [HSA.out.1, HPD.out]
          rw [hpd] at hso2
          obtain ⟨o1, o2, o3, o4, o5⟩ := hso2
          generalize vsub s2.made si.made = o at *
          have HOU := Aside0.mk o1
          have HSU2 := Aside0.mk hss
          have HMO := Aside0.mk (show papermilltop_more.f K sums o (-1) = some (true, vsub sums o) from more_sub (by have := HSU.out.1; omega) (by have := HSU.out.1; omega) (by have := HSU.out.1; omega) (sums_fits HPL.out HSU.out) o5)
          have hpb := pushed_bound si.pumps (fun p hp => by have := HPL.out.pumps.2.1 p hp; exact ⟨this.2.2.2.1, this.2.2.2.2⟩)
          have HGR := Aside0.mk (show papermilltop_grams.f K o = some pd from by rw [← o4]; exact papermilltop_grams_eq (by omega) (by omega) o3 (by rw [o4, ← hpd]; have := HPL.out.pumps.1; omega))
          have dpd : (pd != pd) = false := by simp
          clear hso hd hss hpd hpm o1 o2 o3 o4 o5 hpb
          go_wp2_with (first | fail)
          (with_reducible refine (step_walk K n (fun k => k = gs) ⟨gx, gc, cc, gf, cf, gm, cm, CA2, cn, ck2, PA2, pc2, QA, qc⟩ si w1 _ HI.out.hP HI.out.hb (some s2) HSF.out HSK.out HSZ.out.1 HSZ.out.2.1 HSZ.out.2.2.1 HSZ.out.2.2.2).mono ?_)
          rintro e w8 ⟨hB, hE, hOK⟩
          obtain ⟨v, ⟨gx', gc', cc', gf', cf', gm', cm', CA3, cn3, ck3, PA3, pc3, QA3, qc3⟩, rfl, hK, hgx, hP, hR⟩ := hOK s2 rfl
          replace hgx : gx' = gx := hgx
          subst hgx
          rw [HOU.out] at hR
          obtain ⟨Av, cv, ev⟩ := Kd.R_slice hR
          subst ev
          have HCV := Aside0.mk (Kd.R_reads' hR).2.1
          have HOF := Aside0.mk (own_far hR HI.out.lt)
          have n0_ := Aside0.mk (HI.out.plant hB hK (fun k h => .inl h) hP)
          clear HI hB hE hOK hK hP hR
          have HI := n0_
          clear n0_
          go_wp2_with (first | (go_at_call 6; (with_reducible refine (papermilltop_more.calls K (fun k => k = gs) (.slice (some ⟨gs, 0, none⟩) n n) sums Av cv o (-1) true (vsub sums o) w1 _ HI.out.hb HI.out.hs HOF.out HCV.out HMO.out).mono ?_); rintro e w10 ⟨rfl, hR, hB, hK⟩; have HCO := Aside0.mk (HOF.out _ hK); have n0_ := Aside0.mk (HI.out.more hB hK hR); clear HI hR hB hK; have HI := n0_; clear n0_) | (go_at_call 10; (with_reducible refine (papermilltop_grams.calls K Av cv o pd _ HCO.out HCV.out HGR.out).mono ?_); rintro e w11 ⟨rfl, hd⟩; have n0_ := Aside0.mk (HI.out.below hd.below); clear HI hd; have HI := n0_; clear n0_))
          go_roundg (l.length - (i + 1))
          case measure => omega
          case rel => exact ⟨i + 1, _, s2, (vsub sums o), by first | rfl | (rw [hw]; rfl) | simp, by omega, Nat.le_refl _, rfl, HI, HPL2, HSU2, HSA2⟩
       ·obtain rfl : i = l.length := by omega
        have HCH := Aside0.mk (show si.chests.length ≤ 1000 ∧ ∀ c ∈ si.chests, 0 < c.f1.length ∧ c.f1.length ≤ 1000 from ⟨by have := HPL.out.ch1; omega, fun c hc => by have h1 := (HPL.out.ch c hc).2.1; have h2 := HPL.out.pipe.n1; omega⟩)
        obtain ⟨L, hL⟩ : ∃ L, L = si.chests.map fun c => c.f1 := ⟨_, rfl⟩
        have HL2 := Aside0.mk hL
        have hll : L.length ≤ 8 := by rw [hL, List.length_map]; exact HPL.out.ch1.2
        clear hL
        go_wp2_with (first | (go_at_call 11; (with_reducible refine (chests_calls (fun k => k = gs) ⟨gx, gc, cc, gf, cf, gm, cm, CA2, cn, ck2, PA2, pc2, QA, qc⟩ si w1.heap.size _ HI.out.hP HCH.out.1 HCH.out.2).mono ?_); rintro e w8 ⟨v, rfl, hN, hb⟩; rw [← HL2.out] at hN; obtain ⟨Av, cv, ev⟩ := Kd.N_slice hN; subst ev; have HLF := Aside0.mk (Kd.F_mono (ok' := fun k => k ≠ gs) (Kd.N_F hN) (fun k hk e => by have h := HI.out.lt; rw [e] at hk; omega)); have n0_ := Aside0.mk (HI.out.below hb); clear HI hN hb; have HI := n0_; clear n0_))
        clear HCH
        go_loopg [132] L.length (fun kx s132 wr => ∃ (i : Nat) (sums : List Int), s132 = .int .i64 i ∧ i ≤ L.length ∧ L.length - i ≤ kx ∧ Aside0 (LInv w1 wr gs n ⟨gx, gc, cc, gf, cf, gm, cm, CA2, cn, ck2, PA2, pc2, QA, qc⟩ si sums) ∧ Aside0 (sumsOk n sums (fun k => ((si.chests.drop i).map fun c => kat k c.f1).sum + (si.plugs.map (kat k)).sum)) ∧ Aside0 (Kd.F (Kd.slice 3 (Kd.int .i64)) wr (fun k => k ≠ gs) Av L.length L))
        case atStart => exact ⟨0, sums, rfl, Nat.zero_le _, by omega, by first | exact HI | exact ⟨HI.out.below (by first | exact Below.refl _ _ | exact pw_below_drewN (Below.refl _ _) _)⟩, HSU, HLF⟩
        case round =>
         clear HI HSU HLF
         obtain ⟨i, sums, rfl, hi, hgk, HI, HSU, HLF⟩ := hrel
         by_cases hlt : i < L.length
         ·have hle : si.chests.length = L.length := by rw [HL2.out, List.length_map]
          have hil : i < si.chests.length := by omega
          obtain ⟨ad, c, eA, hcl, hfk, hcc, _⟩ := Kd.F_get HLF.out ([] : List Int) (i : Int) (by omega) (by omega)
          have hgt : L.getD (Int.toNat i) [] = (si.chests[i]).f1 := by rw [Int.toNat_natCast, List.getD_eq_getElem?_getD, HL2.out, List.getElem?_map, List.getElem?_eq_getElem hil]; rfl
          have hsc := sums_chest HPL.out i hil HSU.out
          obtain ⟨ho1, ho2, ho3, ho4⟩ := HPL.out.ch _ (List.getElem_mem hil)
          rw [hgt] at hfk
          rw [Int.toNat_natCast] at hcc
          obtain ⟨A3, c3, rfl, hc3, hF3⟩ := Kd.FK_slice_open hfk
          generalize (si.chests[i]).f1 = m at *
          have hx3 : wr.cell? (ad.add i) = some (.slice A3 m.length c3) := by
           have hq : wr.cell? (ad.add (i * 1 + 0)) = some (.slice A3 m.length c3) := hcc 0 _ rfl
           rwa [Nat.mul_one, Nat.add_zero] at hq
          have HF3 := Aside0.mk hF3
          have HC3 := Aside0.mk hc3
          have HSU2 := Aside0.mk hsc.2
          have HMO := Aside0.mk (show papermilltop_more.f K sums m (-1) = some (true, vsub sums m) from more_sub (by have h1 := HSU.out.1; omega) (by have h1 := HSU.out.1; have h2 := HPL.out.pipe.n1; omega) (by have h1 := HSU.out.1; have h2 := HPL.out.pipe.n1; omega) hsc.1 (fits_sum ho3 (by have h4 := ho1.2; omega)))
          subst eA
          clear hcl hfk hcc hF3 hc3 hsc ho1 ho2 ho3 ho4 hgt hle hil
          have q1 : (0 ≤ (i : Int)) = True := eq_true (by omega)
          have q2 : ((i : Int) < (L.length : Int)) = True := eq_true (by omega)
          have hw : IntKind.i64.wrap ((i : Int) + 1) = ((i + 1 : Nat) : Int) := by rw [IntKind.wrap_i64]; omega
          go_wp2_with (first | (go_at_call 6; (with_reducible refine (papermilltop_more.calls K (fun k => k = gs) (.slice (some ⟨gs, 0, none⟩) n n) sums A3 c3 m (-1) true (vsub sums m) w1 _ HI.out.hb HI.out.hs ?hr1 HC3.out HMO.out).mono ?_); (case hr1 => exact fun W_ hk => Kd.F_now (Kd.F_kept HF3.out hk (fun k ho e => ho e))); rintro e w10 ⟨rfl, hR, hB, hK⟩; have n1_ := Aside0.mk (Kd.F_kept HLF.out hK (fun k ho e => ho e)); have n0_ := Aside0.mk (HI.out.more hB hK hR); clear HI HLF hR hB hK; have HI := n0_; have HLF := n1_; clear n0_ n1_))
          go_roundg (L.length - (i + 1))
          case measure => omega
          case rel => exact ⟨i + 1, (vsub sums m), by first | rfl | (rw [hw]; rfl) | simp, by omega, Nat.le_refl _, HI, HSU2, HLF⟩
         ·obtain rfl : i = L.length := by omega
          have hle : L.length = si.chests.length := by rw [HL2.out, List.length_map]
          have hsu := HSU.out
          rw [hle] at hsu
          have hse := sums_end HPL.out hsu
          have hpv := vtot_facts HPL.out.pipe
          have hpc := pipe_content (K := K) (by omega) HPL.out.pipe
          have hgr := papermilltop_grams_eq (K := K) (l := vtot n si.plugs) (by have := HPL.out.pipe.n1; omega) (by have := HPL.out.pipe.n1; omega) hpv.2.1 (by rw [hpv.2.2.1]; have := HPL.out.pipe.h1; omega)
          rw [hpv.2.2.1, HSA.out.2] at hgr
          generalize vtot n si.plugs = pv at *
          have HPC := Aside0.mk hpc
          have HGR := Aside0.mk hgr
          have HMO := Aside0.mk (show papermilltop_more.f K sums pv (-1) = some (true, vsub sums pv) from more_sub (by have h1 := hsu.1; have h2 := hpv.1; omega) (by have h1 := hsu.1; have h2 := HPL.out.pipe.n1; omega) (by have h1 := hsu.1; have h2 := HPL.out.pipe.n1; omega) hse.1 (fits_sum hpv.2.1 (by rw [hpv.2.2.1]; have := HPL.out.pipe.h1; omega)))
          have HZ := Aside0.mk hse.2
          have dho : (hold != hold) = false := by simp
          have hn8 := HPL.out.pipe.n1
          clear hle hsu hse hpv hpc hgr HSU HLF HL2 HSA HPL
          go_upto_region 40 with (first | fail)
          refine start_ (n := 13) (S := fun w' => w'.cell? ⟨g4, 3, none⟩ = some (.int .i64 hold)) (ds := []) #[false,false,false,false,false,false,false,false,false,false,false,false,false] (by kernel_rfl) rfl rfl ((show wr.drew.cell? _ = _ from (blk_cell (blk_below K4.out HI.out.hb) 3).trans rfl)) (fun hHeld => ?_)
          have n0_ := Aside0.mk (HI.out.below (below_drew (Below.refl _ _)))
          clear HI
          have HI := n0_
          clear n0_
          generalize wr.drew = w9 at HI hHeld ⊢
          refine pure_ (i := 0) (N := some 141) (v := ?_) (a' := ?_) #[true,false,false,false,false,false,false,false,false,false,false,false,false] rfl rfl (by kernel_rfl) (fun _ _ _ h => h) (Or.inl ⟨by rfl, ?_⟩) ?_ ?_
          rotate_left
          ·intro w'; go_simp; with_reducible rfl
          rotate_left
          ·simp only [Act.put, setIfInBounds_toArray, set_cons_zero, set_cons_succ, i64_w, i32_w]; rfl
          refine pure_ (i := 1) (N := some 142) (v := ?_) (a' := ?_) #[true,true,false,false,false,false,false,false,false,false,false,false,false] rfl rfl (by kernel_rfl) (fun _ _ _ h => h) (Or.inl ⟨by rfl, ?_⟩) ?_ ?_
          rotate_left
          ·intro w'; go_simp; with_reducible rfl
          rotate_left
          ·simp only [Act.put, setIfInBounds_toArray, set_cons_zero, set_cons_succ, i64_w, i32_w]; rfl
          refine one_ (i := 2) (N := some 143) #[true,true,true,false,false,false,false,false,false,false,false,false,false] rfl rfl (by kernel_rfl) (by decide) (fun K hK => ?_)
          refine goes_ Try.func12 (by kernel_rfl) rfl #[.pointer (some ⟨gx, 0, none⟩)] (by rfl) rfl rfl (by simp only [List.map_toArray, List.map_cons, List.map_nil]; rfl) ?_
          with_reducible refine (pipe_calls _ (fun k => k = gs) ⟨gx, gc, cc, gf, cf, gm, cm, CA2, cn, ck2, PA2, pc2, QA, qc⟩ si w1.heap.size _ HI.out.hP pv 0 HPC.out).mono ?_
          rintro e w3 ⟨v, rfl, hR, hb⟩
          obtain ⟨Av2, cv2, ev2⟩ := Kd.R_slice hR
          subst ev2
          refine ⟨_, rfl, ?_⟩
          have HCV := Aside0.mk (Kd.R_reads' hR).2.1
          have HOF := Aside0.mk (own_far hR HI.out.lt)
          have n0_ := Aside0.mk (HI.out.below hb)
          clear HI hR hb hHeld
          have HI := n0_
          clear n0_
          refine hK.out _ _ (((blk_cell (blk_below K4.out HI.out.hb) 3).trans rfl)) (fun hHeld => ?_)
          clear hK K
          refine norm_ (a' := ?_) ?_ ?_
          rotate_left
          ·show Act.put _ (some 143) _ = _
           simp only [Act.put, setIfInBounds_toArray, set_cons_zero, set_cons_succ, i64_w, i32_w]
           rfl
          refine one_ (i := 3) (N := some 144) #[true,true,true,true,false,false,false,false,false,false,false,false,false] rfl rfl (by kernel_rfl) (by decide) (fun K hK => ?_)
          refine goes_ Try.func6 (by kernel_rfl) rfl #[.slice (some ⟨gs, 0, none⟩) n n, .slice Av2 pv.length cv2, .int .i64 (-1)] (by rfl) rfl rfl (by simp only [List.map_toArray, List.map_cons, List.map_nil]; rfl) ?_
          with_reducible refine (papermilltop_more.calls _ (fun k => k = gs) (.slice (some ⟨gs, 0, none⟩) n n) sums Av2 cv2 pv (-1) true (vsub sums pv) w1 _ HI.out.hb HI.out.hs HOF.out HCV.out HMO.out).mono ?_
          rintro e w3 ⟨rfl, hR, hB, hK⟩
          refine ⟨_, rfl, ?_⟩
          have n0_ := Aside0.mk (HI.out.more hB hK hR)
          clear HI hR hB hK hHeld HOF HCV
          have HI := n0_
          clear n0_
          refine hK.out _ _ (((blk_cell (blk_below K4.out HI.out.hb) 3).trans rfl)) (fun hHeld => ?_)
          clear hK K
          refine norm_ (a' := ?_) ?_ ?_
          rotate_left
          ·show Act.put _ (some 144) _ = _
           simp only [Act.put, setIfInBounds_toArray, set_cons_zero, set_cons_succ, i64_w, i32_w]
           rfl
          refine pure_ (i := 4) (N := some 145) (v := ?_) (a' := ?_) #[true,true,true,true,true,false,false,false,false,false,false,false,false] rfl rfl (by kernel_rfl) (fun _ _ _ h => h) (Or.inl ⟨by rfl, ?_⟩) ?_ ?_
          rotate_left
          ·intro w'; go_simp; with_reducible rfl
          rotate_left
          ·simp only [Act.put, setIfInBounds_toArray, set_cons_zero, set_cons_succ, i64_w, i32_w]; rfl
          refine pure_ (i := 5) (N := some 146) (v := ?_) (a' := ?_) #[true,true,true,true,true,true,false,false,false,false,false,false,false] rfl rfl (by kernel_rfl) (fun _ _ _ h => h) (Or.inl ⟨by rfl, ?_⟩) ?_ ?_
          rotate_left
          ·intro w'; go_simp; with_reducible rfl
          rotate_left
          ·simp only [Act.put, setIfInBounds_toArray, set_cons_zero, set_cons_succ, i64_w, i32_w]; rfl
          refine pure_ (i := 6) (N := some 147) (v := ?_) (a' := ?_) #[true,true,true,true,true,true,true,false,false,false,false,false,false] rfl rfl (by kernel_rfl) (fun _ _ _ h => h) (Or.inl ⟨by rfl, ?_⟩) ?_ ?_
          rotate_left
          ·intro w'; go_simp; with_reducible rfl
          rotate_left
          ·simp only [Act.put, setIfInBounds_toArray, set_cons_zero, set_cons_succ, i64_w, i32_w]; rfl
          refine pure_ (i := 9) (N := some 150) (v := ?_) (a' := ?_) #[true,true,true,true,true,true,true,false,false,true,false,false,false] rfl rfl (by kernel_rfl) (fun _ _ _ h => h) (Or.inl ⟨by rfl, ?_⟩) ?_ ?_
          rotate_left
          ·intro w'; go_simp; with_reducible rfl
          rotate_left
          ·simp only [Act.put, setIfInBounds_toArray, set_cons_zero, set_cons_succ, i64_w, i32_w]; rfl
          refine take_ (i := 10) (N := some 151) (v := ?_) (a' := ?_) #[true,true,true,true,true,true,true,false,false,true,true,false,false] rfl rfl (by kernel_rfl) (fun _ _ _ h => h) (Or.inl ⟨by rfl, ?_⟩) hHeld ?_ ?_
          rotate_left
          ·intro w' s0; go_simp; with_reducible rfl
          rotate_left
          ·simp only [Act.put, setIfInBounds_toArray, set_cons_zero, set_cons_succ, i64_w, i32_w]; rfl
          refine one_ (i := 7) (N := some 148) #[true,true,true,true,true,true,true,true,false,true,true,false,false] rfl rfl (by kernel_rfl) (by decide) (fun K hK => ?_)
          refine goes_ Try.func12 (by kernel_rfl) rfl #[.pointer (some ⟨gx, 0, none⟩)] (by rfl) rfl rfl (by simp only [List.map_toArray, List.map_cons, List.map_nil]; rfl) ?_
          with_reducible refine (pipe_calls _ (fun k => k = gs) ⟨gx, gc, cc, gf, cf, gm, cm, CA2, cn, ck2, PA2, pc2, QA, qc⟩ si w1.heap.size _ HI.out.hP pv 0 HPC.out).mono ?_
          rintro e w3 ⟨v, rfl, hR, hb⟩
          obtain ⟨Av2, cv2, ev2⟩ := Kd.R_slice hR
          subst ev2
          refine ⟨_, rfl, ?_⟩
          have HCV := Aside0.mk (Kd.R_reads' hR).2.1
          have HCO := Aside0.mk (Kd.R_reads' hR).2.2
          have n0_ := Aside0.mk (HI.out.below hb)
          clear HI hR hb hHeld
          have HI := n0_
          clear n0_
          refine hK.out _ _ (((blk_cell (blk_below K4.out HI.out.hb) 3).trans rfl)) (fun hHeld => ?_)
          clear hK K
          refine norm_ (a' := ?_) ?_ ?_
          rotate_left
          ·show Act.put _ (some 148) _ = _
           simp only [Act.put, setIfInBounds_toArray, set_cons_zero, set_cons_succ, i64_w, i32_w]
           rfl
          refine one_ (i := 8) (N := some 149) #[true,true,true,true,true,true,true,true,true,true,true,false,false] rfl rfl (by kernel_rfl) (by decide) (fun K hK => ?_)
          refine goes_ Try.func10 (by kernel_rfl) rfl #[.slice Av2 pv.length cv2] (by rfl) rfl rfl (by simp only [List.map_toArray, List.map_cons, List.map_nil]; rfl) ?_
          with_reducible refine (papermilltop_grams.calls _ Av2 cv2 pv hold _ HCO.out HCV.out HGR.out).mono ?_
          rintro e w3 ⟨rfl, hd⟩
          refine ⟨_, rfl, ?_⟩
          have n0_ := Aside0.mk (HI.out.below hd.below)
          clear HI hd hHeld
          have HI := n0_
          clear n0_
          refine hK.out _ _ (((blk_cell (blk_below K4.out HI.out.hb) 3).trans rfl)) (fun hHeld => ?_)
          clear hK K
          refine norm_ (a' := ?_) ?_ ?_
          rotate_left
          ·show Act.put _ (some 149) _ = _
           simp only [Act.put, setIfInBounds_toArray, set_cons_zero, set_cons_succ, i64_w, i32_w]
           rfl
          refine pure_ (i := 11) (N := some 152) (v := ?_) (a' := ?_) #[true,true,true,true,true,true,true,true,true,true,true,true,false] rfl rfl (by kernel_rfl) (fun _ _ _ h => h) (Or.inl ⟨by rfl, ?_⟩) ?_ ?_
          rotate_left
          ·intro w'; go_simp; with_reducible rfl
          rotate_left
          ·simp only [Act.put, setIfInBounds_toArray, set_cons_zero, set_cons_succ, i64_w, i32_w]; rfl
          refine pure_ (i := 12) (N := some 153) (v := ?_) (a' := ?_) #[true,true,true,true,true,true,true,true,true,true,true,true,true] rfl rfl (by kernel_rfl) (fun _ _ _ h => h) (Or.inl ⟨by rfl, ?_⟩) ?_ ?_
          rotate_left
          ·intro w'; go_simp; with_reducible rfl
          rotate_left
          ·simp only [Act.put, setIfInBounds_toArray, set_cons_zero, set_cons_succ, i64_w, i32_w]; rfl
          refine done_ (by kernel_rfl) ?_
          generalize vsub sums pv = z at *
          go_wp2
          go_loopg [156] n (fun kx s156 wr => ∃ (i : Nat), s156 = .int .i64 i ∧ i ≤ n ∧ n - i ≤ kx ∧ Aside0 (LInv w1 wr gs n ⟨gx, gc, cc, gf, cf, gm, cm, CA2, cn, ck2, PA2, pc2, QA, qc⟩ si z))
          case atStart => exact ⟨0, rfl, Nat.zero_le _, by omega, by first | exact HI | exact ⟨HI.out.below (by first | exact Below.refl _ _ | exact pw_below_drewN (Below.refl _ _) _)⟩⟩
          case round =>
           clear HI
           obtain ⟨i, rfl, hi, hgk, HI⟩ := hrel
           by_cases hlt : i < n
           ·obtain ⟨hxz, _⟩ := Kd.R_celln 0 HI.out.hs (i : Int) (by omega) (by omega)
            rw [Int.toNat_natCast] at hxz
            have hz0 : rd z (i : Int) = 0 := by
             have h1 := HZ.out.2 i
             unfold kat at h1
             unfold rd
             rw [Int.toNat_natCast]; exact h1
            have hx0 : wr.cell? ⟨gs, i, none⟩ = some (.int .i64 (rd z (i : Int))) := hxz
            rw [hz0] at hx0
            clear hxz hz0
            have q1 : (0 ≤ (i : Int)) = True := eq_true (by omega)
            have q2 : ((i : Int) < (n : Int)) = True := eq_true (by omega)
            have hw : IntKind.i64.wrap ((i : Int) + 1) = ((i + 1 : Nat) : Int) := by rw [IntKind.wrap_i64]; omega
            go_wp2
            go_roundg (n - (i + 1))
            case measure => omega
            case rel => exact ⟨i + 1, by first | rfl | (rw [hw]; rfl) | simp, by omega, Nat.le_refl _, HI⟩
           ·obtain rfl : i = n := by omega
            go_wp2_with (first | (go_at_call 4; (with_reducible refine (plant_calls _).mono ?_); rintro e wp ⟨rfl, hbp⟩; have HBP := Aside0.mk hbp; clear hbp))
            go_ret
            exact ⟨rfl, below_step (below_step HB1.out HI.out.hb) HBP.out⟩
 ·have hnew : ∀ W, Below w.heap.size w W → Calls Try.prog 5 #[.agg #[.int .i64 kinds, .slice CA caps.length ck, .slice PA pu.length pc, .int .i64 hold], .slice SA start.length sc] W fun e w' => ∃ q : Int, q ≠ 0 ∧ e = .returned (.tuple #[.pointer none, .int .i64 q]) ∧ Below W.heap.size W w' := fun W hW => (new_calls K (by omega) kinds hold CA ck caps PA pc pu SA sc start W (Kd.C_below HC.out hW) hck (Kd.C_below HPU.out hW) hpc (Kd.C_below HST.out hW) hsc).mono (fun e w' h => by
   obtain ⟨hb, ⟨_, q, h1, h2⟩ | ⟨h1, _⟩⟩ := h
   ·exact ⟨q, h1, h2, hb⟩
   ·exact absurd h1 hok)
  have HNEW := Aside0.mk hnew
  clear hnew
  go_enter Try.func3, Try.ntmps3
  go_upto_region 4 with (first | ((with_reducible refine gate_dst (N := 4) rfl ?_); refine box_event ?hg (N := 4) ?hd (cs := #[.int .i64 kinds, .slice CA caps.length ck, .slice PA pu.length pc, .int .i64 hold]) (t := 25) ?hr ?_; (case hd => rfl); (case hg => rfl); (case hr => first | (go_simp; done) | (go_simp; rfl)); intro g4 hg w1 hbox hb; have K4 := Aside0.mk hbox; have G4 := Aside0.mk (show w.heap.size ≤ g4 by rw [hg]; exact Nat.le_refl _); have HB1 := Aside0.mk hb; clear hb hbox hg; have c40 : w1.cell? ⟨g4, 0, none⟩ = some (.int .i64 kinds) := (blk_cell K4.out 0).trans rfl; have c41 : w1.cell? ⟨g4, 1, none⟩ = some (.slice CA caps.length ck) := (blk_cell K4.out 1).trans rfl; have c42 : w1.cell? ⟨g4, 2, none⟩ = some (.slice PA pu.length pc) := (blk_cell K4.out 2).trans rfl; have c43 : w1.cell? ⟨g4, 3, none⟩ = some (.int .i64 hold) := (blk_cell K4.out 3).trans rfl) | (go_at_call 5; (with_reducible refine (HNEW.out _ HB1.out).mono ?_); rintro e w6 ⟨q, hq, rfl, hb⟩; have HB6 := Aside0.mk (below_step HB1.out hb); clear hb))
  have e0 : (q == 0) = false := beq_eq_false_iff_ne.mpr hq
  have e1 : (q != 0) = true := bne_iff_ne.mpr hq
  go_upto_region 5 with (first | fail)
  go_wp2_with (first | (go_at_call 4; (with_reducible refine (plant_calls _).mono ?_); rintro e wp ⟨rfl, hbp⟩; have HBP := Aside0.mk hbp; clear hbp))
  go_ret
  exact ⟨rfl, below_step HB6.out HBP.out⟩
end Go.Proofs.Ytgbjlcaanagfnaa.P
