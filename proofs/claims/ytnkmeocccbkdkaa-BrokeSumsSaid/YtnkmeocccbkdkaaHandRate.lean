/- broke.Rate: the walk; the array of sums, sliced, is run through; the quotient goes into the result's cells. -/
import Derived.Test.YtnkmeocccbkdkaaHandSums
import Derived.Test.YtnkmeocccbkdkaaPx11
import Derived.Deep.QuietTactic
import Derived.BigQuiet
import Derived.RegionTactic
import Derived.Deep.LoopGhost
import Derived.WalkKit
namespace Go.Proofs.Ytnkmeocccbkdkaa.P
open Go.RowKit Go.Proofs.YtnkmeocccbkdkaaW.PrintWords Go.Proofs.YtnkmeocccbkdkaaW.PrintLast Go.Proofs.YtnkmeocccbkdkaaW.PrintMore
set_option linter.unusedVariables false
set_option linter.unusedSimpArgs false

/-- The first elements' sum, as the program computes it. -/
def sumTo (l : List Int) : Nat → Int
  | 0 => 0
  | i + 1 => wrap64 (sumTo l i + l.getD i 0)

set_option maxHeartbeats 1000000 in
set_option maxRecDepth 100000 in
theorem rate_bad (A0 : Option Addr) (c0 : Nat) (l0 : List S63) (a1 a2 r : Int) (w : World) (hr0 : Kd.C k63 w A0 l0.length l0) (hc0 : l0.length ≤ c0) (h : broke_Check.f 3000 l0 a1 = some r) (hr : r ≠ 0) :
    Calls Try.prog 11 #[.slice A0 l0.length c0, .int .i64 a1, .int .i64 a2] w fun e w' => e = .returned (.tuple #[.agg #[.bool false, .slice none 0 0, .slice none 0 0], .int .i64 r]) ∧ Below w.heap.size w w' := by
  have hu27 := Try.underlying27
  have HB := Aside0.mk (Below.refl w.heap.size w)
  have H := Aside0.mk h
  have HR := Aside0.mk hr0
  have hb0 : (r == 0) = false := beq_eq_false_iff_ne.mpr hr
  have hb1 : (r != 0) = true := bne_iff_ne.mpr hr
  clear h hr0 hr
  go_enter Try.func11, Try.ntmps11
  go_wp2_with (first
    | ((with_reducible refine gate_dst (N := 6) rfl ?_); refine box_event ?hg (N := 6) ?hd (cs := #[.bool false, .slice none 0 0, .slice none 0 0]) (t := 27) ?hr ?_; (case hd => rfl); (case hg => rfl); (case hr => first | (go_simp; done) | (go_simp; rfl)); intro gb hg w1 hbox hb; have n0_ := Aside0.mk (below_step HB.out hb); have n1_ := Aside0.mk hbox; have n2_ := Aside0.mk (show w.heap.size ≤ gb by rw [hg]; exact Nat.le_refl _); clear HB; have HB := n0_; have BK := n1_; have GE := n2_; clear n0_ n1_ n2_ hb hbox hg)
    | (go_at_call 27; (with_reducible refine (broke_Check.calls 3000 A0 c0 l0 a1 r _ (Kd.C_below HR.out HB.out) hc0 H.out).mono ?_); rintro e w2 ⟨rfl, hb⟩; have n0_ := Aside0.mk (below_step HB.out hb); have n1_ := Aside0.mk (blk_below (g := gb) (o := .cells #[.bool false, .slice none 0 0, .slice none 0 0] 27 (0, 0)) BK.out hb); clear HB BK; have HB := n0_; have BK := n1_; clear n0_ n1_ hb; have hcz0 : w2.cell? ⟨gb, 0, none⟩ = some (.bool false) := (blk_cell BK.out 0).trans rfl; have hcz1 : w2.cell? ⟨gb, 1, none⟩ = some (.slice none 0 0) := (blk_cell BK.out 1).trans rfl; have hcz2 : w2.cell? ⟨gb, 2, none⟩ = some (.slice none 0 0) := (blk_cell BK.out 2).trans rfl; have hfz0 := blk_frozen BK.out 0; have hfz1 := blk_frozen BK.out 1; have hfz2 := blk_frozen BK.out 2))
  refine bodyPost_ret (results_ct rfl _ _ gb 27 #[.bool false, .slice none 0 0, .slice none 0 0] (0, 0) _ rfl (by (with_reducible repeat (first | refine blk_drewN ?_ _ | refine blk_drew ?_ | refine blk_alloc ?_ _)); refine blk_put (cs := #[.bool false, .slice none 0 0, .slice none 0 0]) ?_ 2 _ rfl; (with_reducible repeat (first | refine blk_drewN ?_ _ | refine blk_drew ?_ | refine blk_alloc ?_ _)); refine blk_put (cs := #[.bool false, .slice none 0 0, .slice none 0 0]) ?_ 1 _ rfl; (with_reducible repeat (first | refine blk_drewN ?_ _ | refine blk_drew ?_ | refine blk_alloc ?_ _)); refine blk_put (cs := #[.bool false, .slice none 0 0, .slice none 0 0]) ?_ 0 _ rfl; (with_reducible repeat (first | refine blk_drewN ?_ _ | refine blk_drew ?_ | refine blk_alloc ?_ _)); exact BK.out) Try.underlying27 rfl (by kernel_rfl)) rfl ?_
  exact ⟨rfl, by repeat (first | (with_reducible first | exact HB.out | apply below_alloc | apply pw_below_drewN | apply below_drew1 | refine below_set ?_ GE.out) | exact HB.out)⟩
set_option maxHeartbeats 1000000 in
set_option maxRecDepth 100000 in
theorem rate_range (A0 : Option Addr) (c0 : Nat) (l0 : List S63) (a1 a2 : Int) (w : World) (hr0 : Kd.C k63 w A0 l0.length l0) (hc0 : l0.length ≤ c0) (h : broke_Check.f 3000 l0 a1 = some 0) (hr : a2 < 0 ∨ 1099511627776 < a2) :
    Calls Try.prog 11 #[.slice A0 l0.length c0, .int .i64 a1, .int .i64 a2] w fun e w' => e = .returned (.tuple #[.agg #[.bool false, .slice none 0 0, .slice none 0 0], .int .i64 1]) ∧ Below w.heap.size w w' := by
  have hu27 := Try.underlying27
  have HB := Aside0.mk (Below.refl w.heap.size w)
  have H := Aside0.mk h
  have HR := Aside0.mk hr0
  clear h hr0
  by_cases hn : a2 < 0
  · have hd : decide (a2 < 0) = true := decide_eq_true hn
    clear hr hn
    go_enter Try.func11, Try.ntmps11
    go_wp2_with (first
      | ((with_reducible refine gate_dst (N := 6) rfl ?_); refine box_event ?hg (N := 6) ?hd (cs := #[.bool false, .slice none 0 0, .slice none 0 0]) (t := 27) ?hr ?_; (case hd => rfl); (case hg => rfl); (case hr => first | (go_simp; done) | (go_simp; rfl)); intro gb hg w1 hbox hb; have n0_ := Aside0.mk (below_step HB.out hb); have n1_ := Aside0.mk hbox; have n2_ := Aside0.mk (show w.heap.size ≤ gb by rw [hg]; exact Nat.le_refl _); clear HB; have HB := n0_; have BK := n1_; have GE := n2_; clear n0_ n1_ n2_ hb hbox hg)
      | (go_at_call 27; (with_reducible refine (broke_Check.calls 3000 A0 c0 l0 a1 0 _ (Kd.C_below HR.out HB.out) hc0 H.out).mono ?_); rintro e w2 ⟨rfl, hb⟩; have n0_ := Aside0.mk (below_step HB.out hb); have n1_ := Aside0.mk (blk_below (g := gb) (o := .cells #[.bool false, .slice none 0 0, .slice none 0 0] 27 (0, 0)) BK.out hb); clear HB BK; have HB := n0_; have BK := n1_; clear n0_ n1_ hb; have hcz0 : w2.cell? ⟨gb, 0, none⟩ = some (.bool false) := (blk_cell BK.out 0).trans rfl; have hcz1 : w2.cell? ⟨gb, 1, none⟩ = some (.slice none 0 0) := (blk_cell BK.out 1).trans rfl; have hcz2 : w2.cell? ⟨gb, 2, none⟩ = some (.slice none 0 0) := (blk_cell BK.out 2).trans rfl; have hfz0 := blk_frozen BK.out 0; have hfz1 := blk_frozen BK.out 1; have hfz2 := blk_frozen BK.out 2))
    refine bodyPost_ret (results_ct rfl _ _ gb 27 #[.bool false, .slice none 0 0, .slice none 0 0] (0, 0) _ rfl (by (with_reducible repeat (first | refine blk_drewN ?_ _ | refine blk_drew ?_ | refine blk_alloc ?_ _)); refine blk_put (cs := #[.bool false, .slice none 0 0, .slice none 0 0]) ?_ 2 _ rfl; (with_reducible repeat (first | refine blk_drewN ?_ _ | refine blk_drew ?_ | refine blk_alloc ?_ _)); refine blk_put (cs := #[.bool false, .slice none 0 0, .slice none 0 0]) ?_ 1 _ rfl; (with_reducible repeat (first | refine blk_drewN ?_ _ | refine blk_drew ?_ | refine blk_alloc ?_ _)); refine blk_put (cs := #[.bool false, .slice none 0 0, .slice none 0 0]) ?_ 0 _ rfl; (with_reducible repeat (first | refine blk_drewN ?_ _ | refine blk_drew ?_ | refine blk_alloc ?_ _)); exact BK.out) Try.underlying27 rfl (by kernel_rfl)) rfl ?_
    exact ⟨rfl, by repeat (first | (with_reducible first | exact HB.out | apply below_alloc | apply pw_below_drewN | apply below_drew1 | refine below_set ?_ GE.out) | exact HB.out)⟩
  · have hd : decide (a2 < 0) = false := decide_eq_false hn
    have hd2 : decide (1099511627776 < a2) = true := decide_eq_true (by omega)
    clear hr hn
    go_enter Try.func11, Try.ntmps11
    go_wp2_with (first
      | ((with_reducible refine gate_dst (N := 6) rfl ?_); refine box_event ?hg (N := 6) ?hd (cs := #[.bool false, .slice none 0 0, .slice none 0 0]) (t := 27) ?hr ?_; (case hd => rfl); (case hg => rfl); (case hr => first | (go_simp; done) | (go_simp; rfl)); intro gb hg w1 hbox hb; have n0_ := Aside0.mk (below_step HB.out hb); have n1_ := Aside0.mk hbox; have n2_ := Aside0.mk (show w.heap.size ≤ gb by rw [hg]; exact Nat.le_refl _); clear HB; have HB := n0_; have BK := n1_; have GE := n2_; clear n0_ n1_ n2_ hb hbox hg)
      | (go_at_call 27; (with_reducible refine (broke_Check.calls 3000 A0 c0 l0 a1 0 _ (Kd.C_below HR.out HB.out) hc0 H.out).mono ?_); rintro e w2 ⟨rfl, hb⟩; have n0_ := Aside0.mk (below_step HB.out hb); have n1_ := Aside0.mk (blk_below (g := gb) (o := .cells #[.bool false, .slice none 0 0, .slice none 0 0] 27 (0, 0)) BK.out hb); clear HB BK; have HB := n0_; have BK := n1_; clear n0_ n1_ hb; have hcz0 : w2.cell? ⟨gb, 0, none⟩ = some (.bool false) := (blk_cell BK.out 0).trans rfl; have hcz1 : w2.cell? ⟨gb, 1, none⟩ = some (.slice none 0 0) := (blk_cell BK.out 1).trans rfl; have hcz2 : w2.cell? ⟨gb, 2, none⟩ = some (.slice none 0 0) := (blk_cell BK.out 2).trans rfl; have hfz0 := blk_frozen BK.out 0; have hfz1 := blk_frozen BK.out 1; have hfz2 := blk_frozen BK.out 2))
    refine bodyPost_ret (results_ct rfl _ _ gb 27 #[.bool false, .slice none 0 0, .slice none 0 0] (0, 0) _ rfl (by (with_reducible repeat (first | refine blk_drewN ?_ _ | refine blk_drew ?_ | refine blk_alloc ?_ _)); refine blk_put (cs := #[.bool false, .slice none 0 0, .slice none 0 0]) ?_ 2 _ rfl; (with_reducible repeat (first | refine blk_drewN ?_ _ | refine blk_drew ?_ | refine blk_alloc ?_ _)); refine blk_put (cs := #[.bool false, .slice none 0 0, .slice none 0 0]) ?_ 1 _ rfl; (with_reducible repeat (first | refine blk_drewN ?_ _ | refine blk_drew ?_ | refine blk_alloc ?_ _)); refine blk_put (cs := #[.bool false, .slice none 0 0, .slice none 0 0]) ?_ 0 _ rfl; (with_reducible repeat (first | refine blk_drewN ?_ _ | refine blk_drew ?_ | refine blk_alloc ?_ _)); exact BK.out) Try.underlying27 rfl (by kernel_rfl)) rfl ?_
    exact ⟨rfl, by repeat (first | (with_reducible first | exact HB.out | apply below_alloc | apply pw_below_drewN | apply below_drew1 | refine below_set ?_ GE.out) | exact HB.out)⟩

set_option maxHeartbeats 1000000 in
set_option maxRecDepth 100000 in
theorem rate_good (k : Nat) (A0 : Option Addr) (c0 : Nat) (l0 : List S63) (a1 a2 : Int) (r1 : Bool) (r2 r3 : List Int) (r4 : Int) (w : World) (hr0 : Kd.C k63 w A0 l0.length l0) (hc0 : l0.length ≤ c0) (h : broke_Check.f 3000 l0 a1 = some 0) (hv : ∀ x ∈ l0, chk1 x = 0) (hl : l0.length ≤ 512) (hn : ¬ a2 < 0) (hm : ¬ 1099511627776 < a2) (hM : rat_Make.f k (sumTo (sumsF l0) 5) a2 = some (r1, r2, r3, r4)) :
    Calls Try.prog 11 #[.slice A0 l0.length c0, .int .i64 a1, .int .i64 a2] w fun e w' => ∃ v1_ v2_ : Value, e = .returned (.tuple #[.agg #[.bool r1, v1_, v2_], .int .i64 r4]) ∧ Kd.R (Kd.int .i64) 3 w' w.heap.size (fun k_ => some k_ ≠ (v2_ : Value).ownBlock) v1_ r2 ∧ Kd.R (Kd.int .i64) 3 w' w.heap.size (fun k_ => some k_ ≠ (v1_ : Value).ownBlock) v2_ r3 ∧ Below w.heap.size w w' := by
  have hu27 := Try.underlying27
  have HB := Aside0.mk (Below.refl w.heap.size w)
  have H := Aside0.mk h
  have HR := Aside0.mk hr0
  have HM := Aside0.mk hM
  have hd : decide (a2 < 0) = false := decide_eq_false hn
  have hd2 : decide (1099511627776 < a2) = false := decide_eq_false hm
  have hS := fun (W : World) (hb : Below w.heap.size w W) => sums_walk A0 c0 l0 W (Kd.C_below hr0 hb) hc0 hv hl
  have hlen := sumsF_len l0
  clear h hr0 hv hM hn hm
  generalize sumsF l0 = SF at *
  obtain ⟨v0, v1, v2, v3, v4, v5, v6, h7⟩ : ∃ v0 v1 v2 v3 v4 v5 v6 : Int, SF = [v0, v1, v2, v3, v4, v5, v6] := by
    match SF, hlen with
    | [y0, y1, y2, y3, y4, y5, y6], _ => exact ⟨y0, y1, y2, y3, y4, y5, y6, rfl⟩
  subst h7
  have hS2 : ∀ W : World, Below w.heap.size w W → Calls Try.prog 28 #[.slice A0 l0.length c0] W fun e w' => e = .returned (.agg #[.int .i64 v0, .int .i64 v1, .int .i64 v2, .int .i64 v3, .int .i64 v4, .int .i64 v5, .int .i64 v6]) ∧ Below W.heap.size W w' := hS
  have HS := Aside0.mk hS2
  clear hS hS2 hlen
  go_enter Try.func11, Try.ntmps11
  go_wp2_with (first
    | ((with_reducible refine gate_dst (N := 6) rfl ?_); refine box_event ?hg (N := 6) ?hd (cs := #[.bool false, .slice none 0 0, .slice none 0 0]) (t := 27) ?hr ?_; (case hd => rfl); (case hg => rfl); (case hr => first | (go_simp; done) | (go_simp; rfl)); intro gb hg w1 hbox hb; have n0_ := Aside0.mk (below_step HB.out hb); have n1_ := Aside0.mk hbox; have n2_ := Aside0.mk (show w.heap.size ≤ gb by rw [hg]; exact Nat.le_refl _); clear HB; have HB := n0_; have BK := n1_; have GE := n2_; clear n0_ n1_ n2_ hb hbox hg)
    | (go_at_call 27; (with_reducible refine (broke_Check.calls 3000 A0 c0 l0 a1 0 _ (Kd.C_below HR.out HB.out) hc0 H.out).mono ?_); rintro e w2 ⟨rfl, hb⟩; have n0_ := Aside0.mk (below_step HB.out hb); have n1_ := Aside0.mk (blk_below (g := gb) (o := .cells #[.bool false, .slice none 0 0, .slice none 0 0] 27 (0, 0)) BK.out hb); clear HB BK; have HB := n0_; have BK := n1_; clear n0_ n1_ hb)
    | (go_at_call 28; (with_reducible refine (HS.out _ HB.out).mono ?_); rintro e w3 ⟨rfl, hb⟩; have n0_ := Aside0.mk (below_step HB.out hb); have n1_ := Aside0.mk (blk_below (g := gb) (o := .cells #[.bool false, .slice none 0 0, .slice none 0 0] 27 (0, 0)) BK.out hb); clear HB BK; have HB := n0_; have BK := n1_; clear n0_ n1_ hb))
  have hbk := Aside0.mk (blk_alloc BK.out (.cells (enc7 [v0, v1, v2, v3, v4, v5, v6]) 60))
  have hga := Aside0.mk (blk_new w3 (.cells (enc7 [v0, v1, v2, v3, v4, v5, v6]) 60))
  have hbb := Aside0.mk (below_alloc HB.out (.cells (enc7 [v0, v1, v2, v3, v4, v5, v6]) 60))
  have hne := Aside0.mk (Nat.ne_of_lt (blk_lt BK.out))
  clear BK HB
  change Code.wp _ _ _ _ (w3.alloc (.cells (enc7 [v0, v1, v2, v3, v4, v5, v6]) 60))
  generalize (w3.alloc (.cells (enc7 [v0, v1, v2, v3, v4, v5, v6]) 60)) = w4 at hbk hga hbb ⊢
  generalize w3.heap.size = ga at hga hne ⊢
  go_loopg [9, 31] 5 (fun kx s9 s31 wr => ∃ i : Nat, s9 = .int .i64 (sumTo [v0, v1, v2, v3, v4, v5, v6] i) ∧ s31 = .int .i64 i ∧ i + kx = 5 ∧ Aside0 (Below w.heap.size w wr) ∧ Aside0 (wr.heap[gb]? = some (.cells #[.bool false, .slice none 0 0, .slice none 0 0] 27 (0, 0))) ∧ Aside0 (wr.heap[ga]? = some (.cells (enc7 [v0, v1, v2, v3, v4, v5, v6]) 60 (0, 0))))
  case atStart => exact ⟨0, rfl, rfl, by omega, hbb, hbk, hga⟩
  case round =>
    clear hbb hbk hga
    obtain ⟨i, rfl, rfl, hik, HB, BK, GA⟩ := hrel
    by_cases hlt : i < 5
    · have cl : wr.cell? ⟨ga, i, none⟩ = some (.int .i64 ([v0, v1, v2, v3, v4, v5, v6].getD i 0)) := by rw [blk_cell GA.out, enc7_get [v0, v1, v2, v3, v4, v5, v6] i (show i < 7 by omega)]
      have b1 : decide ((i : Int) < 5) = true := decide_eq_true (by omega)
      have b2 : decide (0 ≤ (i : Int)) = true := decide_eq_true (by omega)
      have e1 : (i : Int) < 5 := by omega
      go_wp2
      go_roundg (5 - (i + 1))
      case measure => omega
      case rel => exact ⟨i + 1, by first | rfl | (simp only [sumTo, i64_w]; done) | (simp only [sumTo, i64_w]; rfl), by first | rfl | (have := hlt; unfold wrap64; congr 1; omega), by omega, ⟨by repeat (first | (with_reducible first | exact HB.out | apply below_alloc | apply pw_below_drewN | apply below_drew1) | exact HB.out)⟩, ⟨by (with_reducible repeat (first | refine blk_drewN ?_ _ | refine blk_drew ?_ | refine blk_alloc ?_ _)); exact BK.out⟩, ⟨by (with_reducible repeat (first | refine blk_drewN ?_ _ | refine blk_drew ?_ | refine blk_alloc ?_ _)); exact GA.out⟩⟩
    · obtain rfl : i = 5 := by omega
      clear GA
      have b1 : decide (((5 : Nat) : Int) < 5) = false := by decide
      go_wp2_with (go_at_call 16; (with_reducible refine (rat_Make.calls k _ _ r1 r2 r3 r4 _ HM.out).mono ?_); rintro e w5 ⟨u1, u2, rfl, ho0, ho1, hb⟩; have n0_ := Aside0.mk (Kd.R_lower ho0 (below_size HB.out)); have n1_ := Aside0.mk (Kd.R_lower ho1 (below_size HB.out)); have n2_ := Aside0.mk (blk_below (g := gb) (o := .cells #[.bool false, .slice none 0 0, .slice none 0 0] 27 (0, 0)) BK.out hb); have n3_ := Aside0.mk (below_step HB.out hb); clear BK HB; have HO0 := n0_; have HO1 := n1_; have BK := n2_; have HB := n3_; clear n0_ n1_ n2_ n3_ hb ho0 ho1; have hcz0 : w5.cell? ⟨gb, 0, none⟩ = some (.bool false) := (blk_cell BK.out 0).trans rfl; have hcz1 : w5.cell? ⟨gb, 1, none⟩ = some (.slice none 0 0) := (blk_cell BK.out 1).trans rfl; have hcz2 : w5.cell? ⟨gb, 2, none⟩ = some (.slice none 0 0) := (blk_cell BK.out 2).trans rfl; have hfz0 := blk_frozen BK.out 0; have hfz1 := blk_frozen BK.out 1; have hfz2 := blk_frozen BK.out 2; obtain ⟨Ao0, co0, eo0⟩ := Kd.R_slice HO0.out; subst eo0; obtain ⟨Ao1, co1, eo1⟩ := Kd.R_slice HO1.out; subst eo1)
      refine bodyPost_ret (results_ct rfl _ _ gb 27 #[.bool r1, .slice Ao0 r2.length co0, .slice Ao1 r3.length co1] (0, 0) _ rfl (by (with_reducible repeat (first | refine blk_drewN ?_ _ | refine blk_drew ?_ | refine blk_alloc ?_ _)); refine blk_put (cs := #[.bool r1, .slice Ao0 r2.length co0, .slice none 0 0]) ?_ 2 _ rfl; (with_reducible repeat (first | refine blk_drewN ?_ _ | refine blk_drew ?_ | refine blk_alloc ?_ _)); refine blk_put (cs := #[.bool r1, .slice none 0 0, .slice none 0 0]) ?_ 1 _ rfl; (with_reducible repeat (first | refine blk_drewN ?_ _ | refine blk_drew ?_ | refine blk_alloc ?_ _)); refine blk_put (cs := #[.bool false, .slice none 0 0, .slice none 0 0]) ?_ 0 _ rfl; (with_reducible repeat (first | refine blk_drewN ?_ _ | refine blk_drew ?_ | refine blk_alloc ?_ _)); exact BK.out) Try.underlying27 rfl (by kernel_rfl)) rfl ?_
      exact ⟨_, _, by first | rfl | (simp [errW_none, errW_some] <;> rfl) | (simp [*, errW_none, errW_some] <;> rfl), by (with_reducible repeat (first | apply Kd.R_alloc | apply Kd.R_drewN | apply Kd.R_drew)); exact Kd.R_mono (Kd.R_far (p := ⟨gb, 2, none⟩) (Kd.R_far (p := ⟨gb, 1, none⟩) (Kd.R_far (p := ⟨gb, 0, none⟩) (Kd.R_types HO0.out BK.out (by decide)) (fun _ hk => hk.2) (.bool r1)) (fun _ hk => hk.2) (.slice Ao0 r2.length co0)) (fun _ hk => hk.2) (.slice Ao1 r3.length co1)) (fun _ hk => hk.1), by (with_reducible repeat (first | apply Kd.R_alloc | apply Kd.R_drewN | apply Kd.R_drew)); exact Kd.R_mono (Kd.R_far (p := ⟨gb, 2, none⟩) (Kd.R_far (p := ⟨gb, 1, none⟩) (Kd.R_far (p := ⟨gb, 0, none⟩) (Kd.R_types HO1.out BK.out (by decide)) (fun _ hk => hk.2) (.bool r1)) (fun _ hk => hk.2) (.slice Ao0 r2.length co0)) (fun _ hk => hk.2) (.slice Ao1 r3.length co1)) (fun _ hk => hk.1), by repeat (first | (with_reducible first | exact HB.out | apply below_alloc | apply pw_below_drewN | apply below_drew1 | refine below_set ?_ GE.out) | exact HB.out)⟩

/-- What Rate answers. -/
def broke_Rate.f (k : Nat) (l0 : List S63) (a1 : Int) (a2 : Int) : Option (Bool × List Int × List Int × Int) :=
  if chk l0 a1 = 0 then (if a2 < 0 ∨ 1099511627776 < a2 then some (false, [], [], 1) else rat_Make.f k (sumTo (sumsF l0) 5) a2) else some (false, [], [], chk l0 a1)
theorem broke_Rate.mono : ∀ a0 a1 a2 k, LeO (broke_Rate.f k a0 a1 a2) (broke_Rate.f (k + 1) a0 a1 a2) := by
  intro a0 a1 a2 k
  unfold broke_Rate.f
  split
  · split
    · exact LeO.refl _
    · exact rat_Make.mono _ _ _
  · exact LeO.refl _

theorem broke_Rate.calls (k : Nat) (A0 : Option Addr) (c0 : Nat) (l0 : List S63) (a1 : Int) (a2 : Int) (r1 : Bool) (r2 : List Int) (r3 : List Int) (r4 : Int) (w : World) (hr0 : Kd.C k63 w A0 l0.length l0) (hc0 : l0.length ≤ c0) (h : broke_Rate.f k l0 a1 a2 = some (r1, r2, r3, r4)) :
    Calls Try.prog 11 #[.slice A0 l0.length c0, .int .i64 a1, .int .i64 a2] w fun e w' => ∃ v1_ v2_ : Value, e = .returned (.tuple #[.agg #[.bool r1, v1_, v2_], .int .i64 r4]) ∧ Kd.R (Kd.int .i64) 3 w' w.heap.size (fun k_ => some k_ ≠ (v2_ : Value).ownBlock) v1_ r2 ∧ Kd.R (Kd.int .i64) 3 w' w.heap.size (fun k_ => some k_ ≠ (v1_ : Value).ownBlock) v2_ r3 ∧ Below w.heap.size w w' := by
  have hc := check_eq l0 a1 3000 (by omega)
  unfold broke_Rate.f at h
  by_cases hz : chk l0 a1 = 0
  · rw [if_pos hz] at h
    rw [hz] at hc
    obtain ⟨_, _, hl, hv, _⟩ := chk_zero l0 a1 hz
    by_cases hr : a2 < 0 ∨ 1099511627776 < a2
    · rw [if_pos hr] at h
      cases h
      refine (rate_range A0 c0 l0 a1 a2 w hr0 hc0 hc hr).mono fun e w' hh => ?_
      exact ⟨_, _, hh.1, Kd.R_nil _ _ _ _ _, Kd.R_nil _ _ _ _ _, hh.2⟩
    · rw [if_neg hr] at h
      exact rate_good k A0 c0 l0 a1 a2 r1 r2 r3 r4 w hr0 hc0 hc hv hl (fun z => hr (.inl z)) (fun z => hr (.inr z)) h
  · rw [if_neg hz] at h
    cases h
    refine (rate_bad A0 c0 l0 a1 a2 _ w hr0 hc0 hc hz).mono fun e w' hh => ?_
    exact ⟨_, _, hh.1, Kd.R_nil _ _ _ _ _, Kd.R_nil _ _ _ _ _, hh.2⟩
end Go.Proofs.Ytnkmeocccbkdkaa.P
