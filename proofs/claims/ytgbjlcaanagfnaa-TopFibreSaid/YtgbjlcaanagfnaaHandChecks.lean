/- prep.pumps and prep.Check: the description of a plant is checked. prep.pumps and prep.Check: the answer 0 means that the description of a plant is in order. -/
import Derived.Test.YtgbjlcaanagfnaaPlantW
import Derived.Test.YtgbjlcaanagfnaaPx1
import Derived.Deep.QuietTactic
import Derived.BigQuiet
import Derived.WalkKit
import Derived.Deep.LoopGhost
import Derived.Shelf.Abstract
namespace Go.Proofs.Ytgbjlcaanagfnaa.P
open Go.RowKit Go.Proofs.YtgbjlcaanagfnaaW.PrintWords Go.Proofs.YtgbjlcaanagfnaaW.PrintLast Go.Proofs.YtgbjlcaanagfnaaW.PrintMore
set_option linter.unusedVariables false
set_option linter.unusedSimpArgs false

theorem add_fld (ad : Addr) (k j : Nat) (hj : 0 < j) : ad.add (k + j) = ⟨(ad.add k).block, (ad.add k).off + j, none⟩ := by
 unfold Addr.add
 by_cases c : k = 0
 ·subst c; rw [if_neg (by omega), if_pos rfl]; simp
 ·rw [if_neg (by omega), if_neg c]; simp [Nat.add_assoc]
/-- Where the first element lies of which p says yes; -1 if nowhere. -/
def idxP (p : Int × Int × Int → Bool) : Nat → List (Int × Int × Int) → Int
 | _, [] => -1
 | i, x :: l => if p x = true then (i : Int) else idxP p (i + 1) l
theorem idxP_step (l : List (Int × Int × Int)) (p : Int × Int × Int → Bool) (i : Nat) (h : i < l.length) : idxP p i (l.drop i) = if p (l.getD i (0, 0, 0)) = true then (i : Int) else idxP p (i + 1) (l.drop (i + 1)) := by
 have e : l.getD i (0, 0, 0) = l[i] := by rw [List.getD_eq_getElem?_getD, List.getElem?_eq_getElem h]; rfl
 rw [List.drop_eq_getElem_cons h, e]; rfl
theorem idxP_any (p : Int × Int × Int → Bool) : ∀ (l : List (Int × Int × Int)) (i : Nat), decide (idxP p i l ≥ 0) = l.any p
 | [], i => by simp [idxP]
 | x :: l, i => by
  unfold idxP
  by_cases c : p x = true
  ·rw [if_pos c, List.any_cons, c]; simp
  ·rw [if_neg c, List.any_cons, idxP_any p l (i + 1)]; simp at c; simp [c]
theorem idxP_bound (p : Int × Int × Int → Bool) : ∀ (l : List (Int × Int × Int)) (i : Nat), -1 ≤ idxP p i l ∧ idxP p i l ≤ i + l.length
 | [], i => by simp only [idxP, List.length_nil]; omega
 | x :: l, i => by
  have := idxP_bound p l (i + 1)
  unfold idxP
  split <;> simp only [List.length_cons] <;> omega

set_option maxHeartbeats 4000000 in
set_option maxRecDepth 100000 in
theorem indexP_calls (g : Nat) (cb : Array Value) (A0 : Option Addr) (c0 : Nat) (l : List (Int × Int × Int)) (p : Int × Int × Int → Bool) (w : World) (eg : ∀ args w, (callFunc g args).run Try.prog w = .ok (.enter g args) w) (hr0 : Kd.C kP w A0 l.length l)
  (hf : ∀ (W : World) (x : Int × Int × Int), Below w.heap.size w W → Calls Try.prog g (#[.agg #[.int .i64 x.1, .int .i64 x.2.1, .int .i64 x.2.2]] ++ cb) W fun e w' => e = .returned (.bool (p x)) ∧ Below W.heap.size W w') :
  Calls Try.prog 58 #[.slice A0 l.length c0, .func (.func g) #[] cb] w fun e w' => e = .returned (.int .i64 (idxP p 0 l)) ∧ Below w.heap.size w w' := by
 have HF := Aside0.mk hf
 have HR := Aside0.mk hr0
 have hmax : l.length ≤ 9223372036854775807 := hr0.2.1
 clear hf hr0
 generalize hcnt : idxP p 0 l = cnt
 have CN := Aside0.mk hcnt
 clear hcnt
 go_enter Try.func58, Try.ntmps58
 go_wp2
 go_loopg [8] l.length (fun kx s9 wr => ∃ (i : Nat), s9 = .int .i64 i ∧ i ≤ l.length ∧ l.length - i ≤ kx ∧ Aside0 (Below w.heap.size w wr) ∧ Aside0 (cnt = idxP p i (l.drop i)))
 case atStart => exact ⟨0, rfl, Nat.zero_le _, by omega, ⟨Below.refl _ _⟩, ⟨by rw [List.drop_zero]; exact CN.out.symm⟩⟩
 case round =>
  obtain ⟨i, rfl, hi, hg, HB, I⟩ := hrel
  by_cases hlt : i < l.length
  ·obtain ⟨ad, c, ea, hcl, hK, hcc⟩ := Kd.C_get (Kd.C_below HR.out HB.out) (0, 0, 0) (i : Int) (by omega) (by omega)
   subst ea
   rw [Int.toNat_natCast] at hK hcc
   obtain ⟨a0, a1, rfl, h0, b0, b1, rfl, h1, h2⟩ := hK
   have h0' : a0 = [.int .i64 (l.getD i (0, 0, 0)).1] := h0
   have h1' : b0 = [.int .i64 (l.getD i (0, 0, 0)).2.1] := h1
   have h2' : b1 = [.int .i64 (l.getD i (0, 0, 0)).2.2] := h2
   subst h0' h1' h2'
   have hx0 := hcc 0 _ rfl
   have hx1 := hcc 1 _ rfl
   have hx2 := hcc 2 _ rfl
   replace hx0 : wr.cell? (ad.add (i * 3)) = some (.int .i64 (l.getD i (0, 0, 0)).1) := hx0
   replace hx1 : wr.cell? ⟨(ad.add (i * 3)).block, (ad.add (i * 3)).off + 1, none⟩ = some (.int .i64 (l.getD i (0, 0, 0)).2.1) := by rw [← add_fld ad (i * 3) 1 (by omega)]; exact hx1
   replace hx2 : wr.cell? ⟨(ad.add (i * 3)).block, (ad.add (i * 3)).off + 2, none⟩ = some (.int .i64 (l.getD i (0, 0, 0)).2.2) := by rw [← add_fld ad (i * 3) 2 (by omega)]; exact hx2
   clear hcc hcl h0 h1 h2
   have hc := HF.out wr (l.getD i (0, 0, 0)) HB.out
   have hst := idxP_step l p i hlt
   generalize l.getD i (0, 0, 0) = x at *
   obtain ⟨x1, x2, x3⟩ := x
   simp only [] at hx0 hx1 hx2 hc
   have p1 : (0 ≤ (i : Int)) = True := eq_true (by omega)
   have q1 : ((i : Int) < (l.length : Int)) = True := eq_true (by omega)
   cases hp : p (x1, x2, x3) <;> rw [hp] at hc hst
   ·have HST := Aside0.mk (I.out.trans hst)
    clear hst hp
    go_wp2_with fail
    refine hc.mono ?_
    rintro e w' ⟨rfl, hb⟩
    clear hc eg
    have hw : IntKind.i64.wrap ((i : Int) + 1) = ((i + 1 : Nat) : Int) := by rw [IntKind.wrap_i64]; omega
    go_wp2
    go_roundg (l.length - (i + 1))
    case measure => omega
    case rel => exact ⟨i + 1, by first | rfl | (rw [hw]; rfl) | simp, by omega, Nat.le_refl _, ⟨below_then HB.out HB.out.size hb⟩, ⟨by rw [HST.out, if_neg (by simp)]⟩⟩
   ·have HST := Aside0.mk (I.out.trans hst)
    clear hst hp
    go_wp2_with fail
    refine hc.mono ?_
    rintro e w' ⟨rfl, hb⟩
    clear hc eg
    go_wp2
    go_ret
    exact ⟨by rw [HST.out]; first | rfl | (rw [if_pos trivial]; rfl) | simp, below_then HB.out HB.out.size hb⟩
  ·have HST := Aside0.mk (show cnt = -1 from by rw [I.out, List.drop_of_length_le (by omega)]; rfl)
   go_wp2
   go_ret
   exact ⟨by rw [HST.out]; rfl, HB.out⟩

set_option maxHeartbeats 1000000 in
set_option maxRecDepth 100000 in
theorem containsP_calls (g : Nat) (cb : Array Value) (A0 : Option Addr) (c0 : Nat) (l : List (Int × Int × Int)) (p : Int × Int × Int → Bool) (w : World) (eg : ∀ args w, (callFunc g args).run Try.prog w = .ok (.enter g args) w) (hr0 : Kd.C kP w A0 l.length l)
  (hf : ∀ (W : World) (x : Int × Int × Int), Below w.heap.size w W → Calls Try.prog g (#[.agg #[.int .i64 x.1, .int .i64 x.2.1, .int .i64 x.2.2]] ++ cb) W fun e w' => e = .returned (.bool (p x)) ∧ Below W.heap.size W w') :
  Calls Try.prog 49 #[.slice A0 l.length c0, .func (.func g) #[] cb] w fun e w' => e = .returned (.bool (l.any p)) ∧ Below w.heap.size w w' := by
 have hc := indexP_calls g cb A0 c0 l p w eg hr0 hf
 have ha := idxP_any p l 0
 generalize idxP p 0 l = r at *
 generalize l.any p = b at *
 have HC := Aside0.mk hc
 have HA := Aside0.mk ha
 clear hc ha hf hr0
 go_enter Try.func49, Try.ntmps49
 go_wp2_with (first | (go_at_call 58; refine HC.out.mono ?_; rintro e w' ⟨rfl, hb⟩))
 go_ret
 exact ⟨by first | (rw [← HA.out]; rfl) | (simp [← HA.out]), hb⟩
end Go.Proofs.Ytgbjlcaanagfnaa.P

namespace Go.Proofs.Ytgbjlcaanagfnaa.P
open Go.RowKit Go.Proofs.YtgbjlcaanagfnaaW.PrintWords Go.Proofs.YtgbjlcaanagfnaaW.PrintLast Go.Proofs.YtgbjlcaanagfnaaW.PrintMore
set_option linter.unusedVariables false
set_option linter.unusedSimpArgs false

/-- A pump of a plant with n chests is in order. -/
def pumpOk (n : Nat) (x : Int × Int × Int) : Prop := (0 ≤ x.1 ∧ x.1 < n) ∧ (x.2.1 = -1 ∨ (0 ≤ x.2.1 ∧ x.2.1 < n)) ∧ x.2.1 ≠ x.1 ∧ 1 ≤ x.2.2 ∧ x.2.2 ≤ 1099511627776
def pumpsOk (n : Nat) (l : List (Int × Int × Int)) : Prop := l.length ≤ 16 ∧ (∀ x ∈ l, pumpOk n x) ∧ ∃ x ∈ l, x.2.1 = -1

theorem is_closure (n : Int) (b : Nat) (W : World) (CA : Option Addr) (cn ck : Nat) (c1 : W.cell? ⟨b, 1, none⟩ = some (.slice CA cn ck)) (v : Bool) (hv : decide (0 ≤ n ∧ n < (cn : Int)) = v) :
  Calls Try.prog 48 #[.int .i64 n, .pointer (some ⟨b, 0, none⟩)] W fun e w' => e = .returned (.bool v) ∧ Below W.heap.size W w' := by
 subst hv
 by_cases h0 : 0 ≤ n
 ·have d0' : decide (0 ≤ n) = true := decide_eq_true h0
  go_enter Try.func48, Try.ntmps48
  go_wp2
  go_ret
  refine ⟨by simp [h0], ?_⟩
  first | exact Below.refl _ _ | exact pw_below_drewN (Below.refl _ _) _
 ·have d0' : decide (0 ≤ n) = false := decide_eq_false h0
  go_enter Try.func48, Try.ntmps48
  go_wp2
  go_ret
  refine ⟨by simp [h0], ?_⟩
  first | exact Below.refl _ _ | exact pw_below_drewN (Below.refl _ _) _
theorem minus_closure (x : Int × Int × Int) (W : World) :
  Calls Try.prog 50 (#[.agg #[.int .i64 x.1, .int .i64 x.2.1, .int .i64 x.2.2]] ++ #[]) W fun e w' => e = .returned (.bool (decide (x.2.1 = -1))) ∧ Below W.heap.size W w' := by
 obtain ⟨x1, x2, x3⟩ := x
 go_enter Try.func50, Try.ntmps50
 go_wp2
 go_ret
 refine ⟨by first | rfl | (simp only [beq_eq_decide]; done) | (congr 2; simp), ?_⟩
 first | exact Below.refl _ _ | exact below_alloc (Below.refl _ _) _ | exact pw_below_drewN (Below.refl _ _) _
theorem neg_closure (x : Int) (W : World) :
  Calls Try.prog 27 (#[.int .i64 x] ++ #[]) W fun e w' => e = .returned (.bool (!decide (1 ≤ x ∧ x ≤ 1099511627776))) ∧ Below W.heap.size W w' := by
 have HM := Aside0.mk (prep_mass.calls x (decide (1 ≤ x ∧ x ≤ 1099511627776)) W (by unfold prep_mass.f; by_cases c : 1 ≤ x <;> simp [c]))
 generalize decide (1 ≤ x ∧ x ≤ 1099511627776) = b at *
 go_enter Try.func27, Try.ntmps27
 go_wp2_with (first | (go_at_call 28; refine HM.out.mono ?_; rintro e w' ⟨rfl, hb⟩))
 go_ret
 exact ⟨by first | rfl | simp, hb.below⟩

set_option maxHeartbeats 4000000 in
set_option maxRecDepth 100000 in
theorem pumps_calls (kinds hold : Int) (CA : Option Addr) (cn ck : Nat) (A : Option Addr) (c : Nat) (l : List (Int × Int × Int)) (w : World) (hr : Kd.C kP w A l.length l) (hcn : cn ≤ 1000) :
  Calls Try.prog 29 #[.agg #[.int .i64 kinds, .slice CA cn ck, .slice A l.length c, .int .i64 hold]] w fun e w' => ∃ q : Int, e = .returned (.int .i64 q) ∧ (q = 0 ↔ pumpsOk cn l) ∧ Below w.heap.size w w' := by
 have HR := Aside0.mk hr
 clear hr
 by_cases h16 : l.length ≤ 16
 ·have d16 : decide ((16 : Int) < (l.length : Int)) = false := decide_eq_false (by omega)
  go_enter Try.func29, Try.ntmps29
  go_upto_region 1 with (first | ((with_reducible refine gate_dst (N := 1) rfl ?_); refine box_event ?hg (N := 1) ?hd (cs := #[.int .i64 kinds, .slice CA cn ck, .slice A l.length c, .int .i64 hold]) (t := 25) ?hr ?_; (case hd => rfl); (case hg => rfl); (case hr => first | (go_simp; done) | (go_simp; rfl)); intro g1 hg w1 hbox hb; have K1 := Aside0.mk hbox; have G1 := Aside0.mk (show w.heap.size ≤ g1 by rw [hg]; exact Nat.le_refl _); have HB1 := Aside0.mk hb; have HR1 := Aside0.mk (Kd.C_below HR.out hb); clear hb hbox hg))
  have c12 : w1.cell? ⟨g1, 2, none⟩ = some (.slice A l.length c) := (blk_cell K1.out 2).trans rfl
  go_wp2
  clear c12
  go_loopg [14] l.length (fun kx s14 wr => ∃ (i : Nat), s14 = .int .i64 i ∧ i ≤ l.length ∧ l.length - i ≤ kx ∧ Aside0 (Below w1.heap.size w1 wr) ∧ Aside0 (∀ x ∈ l.take i, pumpOk cn x))
  case atStart => exact ⟨0, rfl, Nat.zero_le _, by omega, ⟨by first | exact Below.refl _ _ | exact pw_below_drewN (Below.refl _ _) _⟩, ⟨by simp⟩⟩
  case round =>
   obtain ⟨i, rfl, hi, hg, HB, HV⟩ := hrel
   by_cases hlt : i < l.length
   ·have HTK := Aside0.mk (List.take_succ_eq_append_getElem hlt)
    have HMEM := Aside0.mk (List.getElem_mem hlt)
    obtain ⟨ad, cl, eA, hcl, hK, hcc⟩ := Kd.C_get (Kd.C_below HR1.out HB.out) (0, 0, 0) (i : Int) (by omega) (by omega)
    subst eA
    rw [Int.toNat_natCast, List.getD_eq_getElem?_getD, List.getElem?_eq_getElem hlt] at hK
    rw [Int.toNat_natCast] at hcc
    simp only [Option.getD_some] at hK
    generalize l[i] = x at *
    obtain ⟨x1, x2, x3⟩ := x
    obtain ⟨a0, a1, rfl, h0, b0, b1, rfl, h1, h2⟩ := hK
    have h0' : a0 = [.int .i64 x1] := h0
    have h1' : b0 = [.int .i64 x2] := h1
    have h2' : b1 = [.int .i64 x3] := h2
    subst h0' h1' h2'
    have hx0 : wr.cell? (ad.add (i * 3)) = some (.int .i64 x1) := hcc 0 _ rfl
    have hx1 : wr.cell? ⟨(ad.add (i * 3)).block, (ad.add (i * 3)).off + 1, none⟩ = some (.int .i64 x2) := by rw [← add_fld ad (i * 3) 1 (by omega)]; exact hcc 1 _ rfl
    have hx2 : wr.cell? ⟨(ad.add (i * 3)).block, (ad.add (i * 3)).off + 2, none⟩ = some (.int .i64 x3) := by rw [← add_fld ad (i * 3) 2 (by omega)]; exact hcc 2 _ rfl
    clear hcc hcl h0 h1 h2
    have q1 : (0 ≤ (i : Int)) = True := eq_true (by omega)
    have q2 : ((i : Int) < (l.length : Int)) = True := eq_true (by omega)
    have hw : IntKind.i64.wrap ((i : Int) + 1) = ((i + 1 : Nat) : Int) := by rw [IntKind.wrap_i64]; omega
    go_upto_region 7 with (first | ((with_reducible refine gate_dst (N := 5) rfl ?_); refine box_event ?hg (N := 5) ?hd (cs := #[.int .i64 0, .int .i64 0, .int .i64 0]) (t := 35) ?hr ?_; (case hd => rfl); (case hg => rfl); (case hr => first | (go_simp; done) | (go_simp; rfl)); intro g5 hg5 w2 hbox hb; have K5 := Aside0.mk hbox; have G5 := Aside0.mk (show w1.heap.size ≤ g5 by rw [hg5]; exact HB.out.size); have HB2 := Aside0.mk (below_step HB.out hb); clear hb hbox hg5 hx0 hx1 hx2; have c50 : w2.cell? ⟨g5, 0, none⟩ = some (.int .i64 0) := (blk_cell K5.out 0).trans rfl; have c51 : w2.cell? ⟨g5, 1, none⟩ = some (.int .i64 0) := (blk_cell K5.out 1).trans rfl; have c52 : w2.cell? ⟨g5, 2, none⟩ = some (.int .i64 0) := (blk_cell K5.out 2).trans rfl; have f50 := blk_frozen K5.out 0; have f51 := blk_frozen K5.out 1; have f52 := blk_frozen K5.out 2))
    generalize hW : World.setCell (World.setCell (World.setCell w2 _ _) _ _) _ _ = w3
    have HB3 := Aside0.mk (show Below w1.heap.size w1 w3 from by rw [← hW]; exact below_set (below_set (below_set HB2.out G5.out) G5.out) G5.out)
    have K53 := Aside0.mk (show w3.heap[g5]? = some (.cells #[.int .i64 x1, .int .i64 x2, .int .i64 x3] 35 (0, 0)) from by rw [← hW]; exact blk_put (blk_put (blk_put K5.out 0 _ rfl) 1 _ rfl) 2 _ rfl)
    clear hW HB2 HB K5 f50 f51 f52 c50 c51 c52
    have HB := HB3
    have K5 := K53
    clear HB3 K53
    have c50 : w3.cell? ⟨g5, 0, none⟩ = some (.int .i64 x1) := (blk_cell K5.out 0).trans rfl
    have c51 : w3.cell? ⟨g5, 1, none⟩ = some (.int .i64 x2) := (blk_cell K5.out 1).trans rfl
    have c52 : w3.cell? ⟨g5, 2, none⟩ = some (.int .i64 x3) := (blk_cell K5.out 2).trans rfl
    have HM := Aside0.mk (show prep_mass.f x3 = some (decide (1 ≤ x3 ∧ x3 ≤ 1099511627776)) from by unfold prep_mass.f; by_cases c : 1 ≤ x3 <;> simp [c])
    cases ea : decide (0 ≤ x1 ∧ x1 < (cn : Int)) with
    | false =>
     go_wp2_with (first | (go_at_call 48; (with_reducible refine (is_closure _ g1 _ CA cn ck ((blk_cell (blk_below K1.out HB.out) 1).trans rfl) _ (by assumption)).mono ?_); rintro e wq ⟨rfl, hb⟩; have n0_ := Aside0.mk (below_step HB.out hb); have n1_ := Aside0.mk (blk_below K5.out hb); clear HB K5 c50 c51 c52 hb; have HB := n0_; have K5 := n1_; clear n0_ n1_; have c50 : wq.cell? ⟨g5, 0, none⟩ = some (.int .i64 x1) := (blk_cell K5.out 0).trans rfl; have c51 : wq.cell? ⟨g5, 1, none⟩ = some (.int .i64 x2) := (blk_cell K5.out 1).trans rfl; have c52 : wq.cell? ⟨g5, 2, none⟩ = some (.int .i64 x3) := (blk_cell K5.out 2).trans rfl))
     go_ret
     exact ⟨7, rfl, ⟨fun h => absurd h (by decide), fun h => absurd (h.2.1 _ HMEM.out) (by unfold pumpOk; simp only [Bool.not_eq_true, decide_eq_true_eq, decide_eq_false_iff_not] at *; omega)⟩, below_then HB1.out HB1.out.size HB.out⟩

    | true =>
     go_upto_region 8 with (first | (go_at_call 48; (with_reducible refine (is_closure _ g1 _ CA cn ck ((blk_cell (blk_below K1.out HB.out) 1).trans rfl) _ (by assumption)).mono ?_); rintro e wq ⟨rfl, hb⟩; have n0_ := Aside0.mk (below_step HB.out hb); have n1_ := Aside0.mk (blk_below K5.out hb); clear HB K5 c50 c51 c52 hb; have HB := n0_; have K5 := n1_; clear n0_ n1_; have c50 : wq.cell? ⟨g5, 0, none⟩ = some (.int .i64 x1) := (blk_cell K5.out 0).trans rfl; have c51 : wq.cell? ⟨g5, 1, none⟩ = some (.int .i64 x2) := (blk_cell K5.out 1).trans rfl; have c52 : wq.cell? ⟨g5, 2, none⟩ = some (.int .i64 x3) := (blk_cell K5.out 2).trans rfl))
     by_cases et : x2 = -1
     ·have d2 : (x2 != -1) = false := by simp [et]
      have d3 : (x2 == x1) = false := beq_eq_false_iff_ne.mpr (by simp only [decide_eq_true_eq] at ea; omega)
      cases em : decide (1 ≤ x3 ∧ x3 ≤ 1099511627776) with
      | false =>
       rw [em] at HM
       go_wp2_with (first | (go_at_call 28; (with_reducible refine (prep_mass.calls x3 _ _ HM.out).mono ?_); rintro e wq ⟨rfl, hd⟩; have hb := hd.below; have n0_ := Aside0.mk (below_step HB.out hb); have n1_ := Aside0.mk (blk_below K5.out hb); clear HB K5 c50 c51 c52 hb hd; have HB := n0_; have K5 := n1_; clear n0_ n1_; have c50 : wq.cell? ⟨g5, 0, none⟩ = some (.int .i64 x1) := (blk_cell K5.out 0).trans rfl; have c51 : wq.cell? ⟨g5, 1, none⟩ = some (.int .i64 x2) := (blk_cell K5.out 1).trans rfl; have c52 : wq.cell? ⟨g5, 2, none⟩ = some (.int .i64 x3) := (blk_cell K5.out 2).trans rfl))
       go_ret
       exact ⟨1, rfl, ⟨fun h => absurd h (by decide), fun h => absurd (h.2.1 _ HMEM.out) (by unfold pumpOk; simp only [Bool.not_eq_true, decide_eq_true_eq, decide_eq_false_iff_not] at *; omega)⟩, below_then HB1.out HB1.out.size HB.out⟩

      | true =>
       rw [em] at HM
       go_wp2_with (first | (go_at_call 28; (with_reducible refine (prep_mass.calls x3 _ _ HM.out).mono ?_); rintro e wq ⟨rfl, hd⟩; have hb := hd.below; have n0_ := Aside0.mk (below_step HB.out hb); have n1_ := Aside0.mk (blk_below K5.out hb); clear HB K5 c50 c51 c52 hb hd; have HB := n0_; have K5 := n1_; clear n0_ n1_; have c50 : wq.cell? ⟨g5, 0, none⟩ = some (.int .i64 x1) := (blk_cell K5.out 0).trans rfl; have c51 : wq.cell? ⟨g5, 1, none⟩ = some (.int .i64 x2) := (blk_cell K5.out 1).trans rfl; have c52 : wq.cell? ⟨g5, 2, none⟩ = some (.int .i64 x3) := (blk_cell K5.out 2).trans rfl))
       go_roundg (l.length - (i + 1))
       case measure => omega
       case rel => exact ⟨i + 1, by first | rfl | (rw [hw]; rfl) | simp, by omega, Nat.le_refl _, HB, ⟨fun x hx => by
        rw [HTK.out, List.mem_append] at hx
        rcases hx with hx | hx
        ·exact HV.out x hx
        ·rw [List.mem_singleton.1 hx]; unfold pumpOk; simp only [Bool.not_eq_true, decide_eq_true_eq, decide_eq_false_iff_not] at *; omega⟩⟩

     ·have d2 : (x2 != -1) = true := bne_iff_ne.mpr et
      cases eb : decide (0 ≤ x2 ∧ x2 < (cn : Int)) with
      | false =>
       go_wp2_with (first | (go_at_call 48; (with_reducible refine (is_closure _ g1 _ CA cn ck ((blk_cell (blk_below K1.out HB.out) 1).trans rfl) _ (by assumption)).mono ?_); rintro e wq ⟨rfl, hb⟩; have n0_ := Aside0.mk (below_step HB.out hb); have n1_ := Aside0.mk (blk_below K5.out hb); clear HB K5 c50 c51 c52 hb; have HB := n0_; have K5 := n1_; clear n0_ n1_; have c50 : wq.cell? ⟨g5, 0, none⟩ = some (.int .i64 x1) := (blk_cell K5.out 0).trans rfl; have c51 : wq.cell? ⟨g5, 1, none⟩ = some (.int .i64 x2) := (blk_cell K5.out 1).trans rfl; have c52 : wq.cell? ⟨g5, 2, none⟩ = some (.int .i64 x3) := (blk_cell K5.out 2).trans rfl))
       go_ret
       exact ⟨7, rfl, ⟨fun h => absurd h (by decide), fun h => absurd (h.2.1 _ HMEM.out) (by unfold pumpOk; simp only [Bool.not_eq_true, decide_eq_true_eq, decide_eq_false_iff_not] at *; omega)⟩, below_then HB1.out HB1.out.size HB.out⟩

      | true =>
       go_upto_region 9 with (first | (go_at_call 48; (with_reducible refine (is_closure _ g1 _ CA cn ck ((blk_cell (blk_below K1.out HB.out) 1).trans rfl) _ (by assumption)).mono ?_); rintro e wq ⟨rfl, hb⟩; have n0_ := Aside0.mk (below_step HB.out hb); have n1_ := Aside0.mk (blk_below K5.out hb); clear HB K5 c50 c51 c52 hb; have HB := n0_; have K5 := n1_; clear n0_ n1_; have c50 : wq.cell? ⟨g5, 0, none⟩ = some (.int .i64 x1) := (blk_cell K5.out 0).trans rfl; have c51 : wq.cell? ⟨g5, 1, none⟩ = some (.int .i64 x2) := (blk_cell K5.out 1).trans rfl; have c52 : wq.cell? ⟨g5, 2, none⟩ = some (.int .i64 x3) := (blk_cell K5.out 2).trans rfl))
       by_cases ef : x2 = x1
       ·have d3 : (x2 == x1) = true := beq_iff_eq.mpr ef
        go_wp2
        go_ret
        exact ⟨7, rfl, ⟨fun h => absurd h (by decide), fun h => absurd (h.2.1 _ HMEM.out) (by unfold pumpOk; simp only [Bool.not_eq_true, decide_eq_true_eq, decide_eq_false_iff_not] at *; omega)⟩, below_then HB1.out HB1.out.size HB.out⟩

       ·have d3 : (x2 == x1) = false := beq_eq_false_iff_ne.mpr ef
        cases em : decide (1 ≤ x3 ∧ x3 ≤ 1099511627776) with
        | false =>
         rw [em] at HM
         go_wp2_with (first | (go_at_call 28; (with_reducible refine (prep_mass.calls x3 _ _ HM.out).mono ?_); rintro e wq ⟨rfl, hd⟩; have hb := hd.below; have n0_ := Aside0.mk (below_step HB.out hb); have n1_ := Aside0.mk (blk_below K5.out hb); clear HB K5 c50 c51 c52 hb hd; have HB := n0_; have K5 := n1_; clear n0_ n1_; have c50 : wq.cell? ⟨g5, 0, none⟩ = some (.int .i64 x1) := (blk_cell K5.out 0).trans rfl; have c51 : wq.cell? ⟨g5, 1, none⟩ = some (.int .i64 x2) := (blk_cell K5.out 1).trans rfl; have c52 : wq.cell? ⟨g5, 2, none⟩ = some (.int .i64 x3) := (blk_cell K5.out 2).trans rfl))
         go_ret
         exact ⟨1, rfl, ⟨fun h => absurd h (by decide), fun h => absurd (h.2.1 _ HMEM.out) (by unfold pumpOk; simp only [Bool.not_eq_true, decide_eq_true_eq, decide_eq_false_iff_not] at *; omega)⟩, below_then HB1.out HB1.out.size HB.out⟩

        | true =>
         rw [em] at HM
         go_wp2_with (first | (go_at_call 28; (with_reducible refine (prep_mass.calls x3 _ _ HM.out).mono ?_); rintro e wq ⟨rfl, hd⟩; have hb := hd.below; have n0_ := Aside0.mk (below_step HB.out hb); have n1_ := Aside0.mk (blk_below K5.out hb); clear HB K5 c50 c51 c52 hb hd; have HB := n0_; have K5 := n1_; clear n0_ n1_; have c50 : wq.cell? ⟨g5, 0, none⟩ = some (.int .i64 x1) := (blk_cell K5.out 0).trans rfl; have c51 : wq.cell? ⟨g5, 1, none⟩ = some (.int .i64 x2) := (blk_cell K5.out 1).trans rfl; have c52 : wq.cell? ⟨g5, 2, none⟩ = some (.int .i64 x3) := (blk_cell K5.out 2).trans rfl))
         go_roundg (l.length - (i + 1))
         case measure => omega
         case rel => exact ⟨i + 1, by first | rfl | (rw [hw]; rfl) | simp, by omega, Nat.le_refl _, HB, ⟨fun x hx => by
          rw [HTK.out, List.mem_append] at hx
          rcases hx with hx | hx
          ·exact HV.out x hx
          ·rw [List.mem_singleton.1 hx]; unfold pumpOk; simp only [Bool.not_eq_true, decide_eq_true_eq, decide_eq_false_iff_not] at *; omega⟩⟩
   ·obtain rfl : i = l.length := by omega
    have hv := HV.out
    rw [List.take_length] at hv
    have HVV := Aside0.mk hv
    clear hv HV
    have c12 : wr.cell? ⟨g1, 2, none⟩ = some (.slice A l.length c) := (blk_cell (blk_below K1.out HB.out) 2).trans rfl
    have hcp := containsP_calls 50 #[] A c l (fun x => decide (x.2.1 = -1)) wr (Go.Proofs.enters_of Try.func50 (by kernel_rfl) rfl) (Kd.C_below HR1.out HB.out) (fun W x hB => minus_closure x W)
    have HA := Aside0.mk (show l.any (fun x => decide (x.2.1 = -1)) = true ↔ ∃ x ∈ l, x.2.1 = -1 from by rw [List.any_eq_true]; simp)
    generalize l.any (fun x => decide (x.2.1 = -1)) = b at *
    have HCP := Aside0.mk hcp
    clear hcp
    have HH := Aside0.mk h16
    cases b with
    | true =>
     go_wp2_with (first | (go_at_call 49; (with_reducible refine HCP.out.mono ?_); rintro e wq ⟨rfl, hb⟩; have n0_ := Aside0.mk (below_step HB.out hb); clear HB; have HB := n0_; clear n0_))
     go_ret
     exact ⟨0, rfl, ⟨fun _ => ⟨HH.out, HVV.out, HA.out.1 trivial⟩, fun _ => rfl⟩, below_then HB1.out HB1.out.size HB.out⟩
    | false =>
     go_wp2_with (first | (go_at_call 49; (with_reducible refine HCP.out.mono ?_); rintro e wq ⟨rfl, hb⟩; have n0_ := Aside0.mk (below_step HB.out hb); clear HB; have HB := n0_; clear n0_))
     go_ret
     exact ⟨10, rfl, ⟨fun h => absurd h (by decide), fun h => absurd (HA.out.2 h.2.2) (by decide)⟩, below_then HB1.out HB1.out.size HB.out⟩
 ·have d16 : decide ((16 : Int) < (l.length : Int)) = true := decide_eq_true (by omega)
  go_enter Try.func29, Try.ntmps29
  go_upto_region 1 with (first | ((with_reducible refine gate_dst (N := 1) rfl ?_); refine box_event ?hg (N := 1) ?hd (cs := #[.int .i64 kinds, .slice CA cn ck, .slice A l.length c, .int .i64 hold]) (t := 25) ?hr ?_; (case hd => rfl); (case hg => rfl); (case hr => first | (go_simp; done) | (go_simp; rfl)); intro g1 hg w1 hbox hb; have K1 := Aside0.mk hbox; have G1 := Aside0.mk (show w.heap.size ≤ g1 by rw [hg]; exact Nat.le_refl _); have HB1 := Aside0.mk hb; have HR1 := Aside0.mk (Kd.C_below HR.out hb); clear hb hbox hg))
  have c12 : w1.cell? ⟨g1, 2, none⟩ = some (.slice A l.length c) := (blk_cell K1.out 2).trans rfl
  go_wp2
  go_ret
  exact ⟨8, rfl, ⟨fun h => absurd h (by decide), fun h => absurd h.1 h16⟩, by first | exact HB1.out | exact pw_below_drewN HB1.out _⟩

/-- The description of a plant is in order. -/
def checkOk (kinds : Int) (caps : List Int) (l : List (Int × Int × Int)) (hold : Int) : Prop := (1 ≤ kinds ∧ kinds ≤ 8) ∧ (1 ≤ caps.length ∧ caps.length ≤ 8) ∧ (∀ x ∈ caps, 1 ≤ x ∧ x ≤ 1099511627776) ∧ pumpsOk caps.length l ∧ 1 ≤ hold ∧ hold ≤ 1099511627776
set_option maxHeartbeats 4000000 in
set_option maxRecDepth 100000 in
theorem Check_calls (kinds hold : Int) (CA : Option Addr) (ck : Nat) (caps : List Int) (A : Option Addr) (c : Nat) (l : List (Int × Int × Int)) (w : World) (hcaps : Kd.C (Kd.int .i64) w CA caps.length caps) (hr : Kd.C kP w A l.length l) :
  Calls Try.prog 13 #[.agg #[.int .i64 kinds, .slice CA caps.length ck, .slice A l.length c, .int .i64 hold]] w fun e w' => ∃ q : Int, e = .returned (.int .i64 q) ∧ (q = 0 ↔ checkOk kinds caps l hold) ∧ Below w.heap.size w w' := by
 have HR := Aside0.mk hr
 have HC := Aside0.mk hcaps
 clear hr hcaps
 go_enter Try.func13, Try.ntmps13
 go_upto_region 1 with (first | ((with_reducible refine gate_dst (N := 1) rfl ?_); refine box_event ?hg (N := 1) ?hd (cs := #[.int .i64 kinds, .slice CA caps.length ck, .slice A l.length c, .int .i64 hold]) (t := 25) ?hr ?_; (case hd => rfl); (case hg => rfl); (case hr => first | (go_simp; done) | (go_simp; rfl)); intro g1 hg w1 hbox hb; have K1 := Aside0.mk hbox; have HB := Aside0.mk hb; clear hb hbox hg; have c10 : w1.cell? ⟨g1, 0, none⟩ = some (.int .i64 kinds) := (blk_cell K1.out 0).trans rfl; have c11 : w1.cell? ⟨g1, 1, none⟩ = some (.slice CA caps.length ck) := (blk_cell K1.out 1).trans rfl; have c12 : w1.cell? ⟨g1, 2, none⟩ = some (.slice A l.length c) := (blk_cell K1.out 2).trans rfl; have c13 : w1.cell? ⟨g1, 3, none⟩ = some (.int .i64 hold) := (blk_cell K1.out 3).trans rfl))
 by_cases k1 : kinds < 1
 ·have d1 : decide (kinds < 1) = true := decide_eq_true k1
  go_wp2
  go_ret
  exact ⟨17, rfl, ⟨fun h => absurd h (by decide), fun h => absurd (h.1.1) (by omega)⟩, HB.out⟩
 have d1 : decide (kinds < 1) = false := decide_eq_false k1
 by_cases k2 : 8 < kinds
 ·have d2 : decide (8 < kinds) = true := decide_eq_true k2
  go_wp2
  go_ret
  exact ⟨17, rfl, ⟨fun h => absurd h (by decide), fun h => absurd (h.1.2) (by omega)⟩, HB.out⟩
 have d2 : decide (8 < kinds) = false := decide_eq_false k2
 by_cases k3 : (caps.length : Int) = 0
 ·have d3 : ((caps.length : Int) == 0) = true := beq_iff_eq.mpr k3
  go_wp2
  go_ret
  exact ⟨10, rfl, ⟨fun h => absurd h (by decide), fun h => absurd (h.2.1.1) (by omega)⟩, HB.out⟩
 have d3 : ((caps.length : Int) == 0) = false := beq_eq_false_iff_ne.mpr k3
 by_cases k4 : 8 < (caps.length : Int)
 ·have d4 : decide (8 < (caps.length : Int)) = true := decide_eq_true k4
  go_wp2
  go_ret
  exact ⟨8, rfl, ⟨fun h => absurd h (by decide), fun h => absurd (h.2.1.2) (by omega)⟩, HB.out⟩
 have d4 : decide (8 < (caps.length : Int)) = false := decide_eq_false k4
 have hcon := fun (W : World) (hW : Kd.C (Kd.int .i64) W CA caps.length caps) => contains_calls 27 #[] CA ck caps (fun x => !decide (1 ≤ x ∧ x ≤ 1099511627776)) W (Go.Proofs.enters_of Try.func27 (by kernel_rfl) rfl) hW (fun W x hB => neg_closure x W)
 cases hany : caps.any (fun x => !decide (1 ≤ x ∧ x ≤ 1099511627776)) with
 | true =>
  rw [hany] at hcon
  have HCON := Aside0.mk hcon
  clear hcon
  have HX := Aside0.mk (show ¬ ∀ x ∈ caps, 1 ≤ x ∧ x ≤ 1099511627776 from by
   obtain ⟨x, hx, hp⟩ := List.any_eq_true.1 hany
   intro h
   have := h x hx
   simp only [this.1, this.2, and_self, decide_true, Bool.not_true] at hp
   exact absurd hp (by decide))
  clear hany
  go_wp2_with (first | (go_at_call 26; (with_reducible refine (HCON.out _ (Kd.C_below HC.out HB.out)).mono ?_); rintro e wq ⟨rfl, hb⟩; have n0_ := Aside0.mk (below_step HB.out hb); have n1_ := Aside0.mk (blk_below K1.out hb); clear HB K1 c10 c11 c12 c13 hb; have HB := n0_; have K1 := n1_; clear n0_ n1_; have c10 : wq.cell? ⟨g1, 0, none⟩ = some (.int .i64 kinds) := (blk_cell K1.out 0).trans rfl; have c11 : wq.cell? ⟨g1, 1, none⟩ = some (.slice CA caps.length ck) := (blk_cell K1.out 1).trans rfl; have c12 : wq.cell? ⟨g1, 2, none⟩ = some (.slice A l.length c) := (blk_cell K1.out 2).trans rfl; have c13 : wq.cell? ⟨g1, 3, none⟩ = some (.int .i64 hold) := (blk_cell K1.out 3).trans rfl))
  go_ret
  exact ⟨1, rfl, ⟨fun h => absurd h (by decide), fun h => absurd h.2.2.1 HX.out⟩, HB.out⟩
 | false =>
  rw [hany] at hcon
  have HCON := Aside0.mk hcon
  clear hcon
  have HX := Aside0.mk (show ∀ x ∈ caps, 1 ≤ x ∧ x ≤ 1099511627776 from by
   intro x hx
   have := List.any_eq_false.1 hany x hx
   simpa using this)
  clear hany
  have HM := Aside0.mk (show prep_mass.f hold = some (decide (1 ≤ hold ∧ hold ≤ 1099511627776)) from by unfold prep_mass.f; by_cases c : 1 ≤ hold <;> simp [c])
  have KK := Aside0.mk (show (1 ≤ kinds ∧ kinds ≤ 8) ∧ (1 ≤ caps.length ∧ caps.length ≤ 8) from by omega)
  go_upto_region 10 with (first | (go_at_call 26; (with_reducible refine (HCON.out _ (Kd.C_below HC.out HB.out)).mono ?_); rintro e wq ⟨rfl, hb⟩; have n0_ := Aside0.mk (below_step HB.out hb); have n1_ := Aside0.mk (blk_below K1.out hb); clear HB K1 c10 c11 c12 c13 hb; have HB := n0_; have K1 := n1_; clear n0_ n1_; have c10 : wq.cell? ⟨g1, 0, none⟩ = some (.int .i64 kinds) := (blk_cell K1.out 0).trans rfl; have c11 : wq.cell? ⟨g1, 1, none⟩ = some (.slice CA caps.length ck) := (blk_cell K1.out 1).trans rfl; have c12 : wq.cell? ⟨g1, 2, none⟩ = some (.slice A l.length c) := (blk_cell K1.out 2).trans rfl; have c13 : wq.cell? ⟨g1, 3, none⟩ = some (.int .i64 hold) := (blk_cell K1.out 3).trans rfl) | (go_at_call 29; (with_reducible refine (pumps_calls kinds hold CA caps.length ck A c l _ (Kd.C_below HR.out HB.out) (by omega)).mono ?_); rintro e wq ⟨q, rfl, hq, hb⟩; have HQ := Aside0.mk hq; clear hq; have n0_ := Aside0.mk (below_step HB.out hb); have n1_ := Aside0.mk (blk_below K1.out hb); clear HB K1 c10 c11 c12 c13 hb; have HB := n0_; have K1 := n1_; clear n0_ n1_; have c10 : wq.cell? ⟨g1, 0, none⟩ = some (.int .i64 kinds) := (blk_cell K1.out 0).trans rfl; have c11 : wq.cell? ⟨g1, 1, none⟩ = some (.slice CA caps.length ck) := (blk_cell K1.out 1).trans rfl; have c12 : wq.cell? ⟨g1, 2, none⟩ = some (.slice A l.length c) := (blk_cell K1.out 2).trans rfl; have c13 : wq.cell? ⟨g1, 3, none⟩ = some (.int .i64 hold) := (blk_cell K1.out 3).trans rfl))
  by_cases hq0 : q = 0
  ·subst hq0
   cases em : decide (1 ≤ hold ∧ hold ≤ 1099511627776) with
   | true =>
    rw [em] at HM
    have HE := Aside0.mk (of_decide_eq_true em)
    go_wp2_with (first | (go_at_call 28; (with_reducible refine (prep_mass.calls hold _ _ HM.out).mono ?_); rintro e wq ⟨rfl, hd⟩; have hb := hd.below; clear hd; have n0_ := Aside0.mk (below_step HB.out hb); have n1_ := Aside0.mk (blk_below K1.out hb); clear HB K1 c10 c11 c12 c13 hb; have HB := n0_; have K1 := n1_; clear n0_ n1_; have c10 : wq.cell? ⟨g1, 0, none⟩ = some (.int .i64 kinds) := (blk_cell K1.out 0).trans rfl; have c11 : wq.cell? ⟨g1, 1, none⟩ = some (.slice CA caps.length ck) := (blk_cell K1.out 1).trans rfl; have c12 : wq.cell? ⟨g1, 2, none⟩ = some (.slice A l.length c) := (blk_cell K1.out 2).trans rfl; have c13 : wq.cell? ⟨g1, 3, none⟩ = some (.int .i64 hold) := (blk_cell K1.out 3).trans rfl))
    go_ret
    exact ⟨0, rfl, ⟨fun _ => ⟨KK.out.1, KK.out.2, HX.out, HQ.out.1 trivial, HE.out⟩, fun _ => rfl⟩, HB.out⟩
   | false =>
    rw [em] at HM
    have HE := Aside0.mk (of_decide_eq_false em)
    go_wp2_with (first | (go_at_call 28; (with_reducible refine (prep_mass.calls hold _ _ HM.out).mono ?_); rintro e wq ⟨rfl, hd⟩; have hb := hd.below; clear hd; have n0_ := Aside0.mk (below_step HB.out hb); have n1_ := Aside0.mk (blk_below K1.out hb); clear HB K1 c10 c11 c12 c13 hb; have HB := n0_; have K1 := n1_; clear n0_ n1_; have c10 : wq.cell? ⟨g1, 0, none⟩ = some (.int .i64 kinds) := (blk_cell K1.out 0).trans rfl; have c11 : wq.cell? ⟨g1, 1, none⟩ = some (.slice CA caps.length ck) := (blk_cell K1.out 1).trans rfl; have c12 : wq.cell? ⟨g1, 2, none⟩ = some (.slice A l.length c) := (blk_cell K1.out 2).trans rfl; have c13 : wq.cell? ⟨g1, 3, none⟩ = some (.int .i64 hold) := (blk_cell K1.out 3).trans rfl))
    go_ret
    exact ⟨1, rfl, ⟨fun h => absurd h (by decide), fun h => absurd h.2.2.2.2 HE.out⟩, HB.out⟩
  ·have e0 : (q == 0) = false := beq_eq_false_iff_ne.mpr hq0
   have e1 : (q != 0) = true := bne_iff_ne.mpr hq0
   go_wp2
   go_ret
   exact ⟨q, rfl, ⟨fun h => absurd h hq0, fun h => absurd (HQ.out.2 h.2.2.2.1) hq0⟩, HB.out⟩
end Go.Proofs.Ytgbjlcaanagfnaa.P
