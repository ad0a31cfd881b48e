/- slices.SortStableFunc of at most 20 whole numbers that are indices below a bound, over a closure that reads: an insertion sort. share.Split where all is well: the walk. share.Split in plain words: the parts add up to the amount; no part is greater than its weight, where the amount is not greater than the weights' sum. pipe.Push's closure: what leaves is added up, and counted off. -/
import Derived.Test.YtgbjlcaanagfnaaPx0
import Derived.Shelf.SlSortCmp.Insertion
import Derived.WalkKit
import Derived.Sort.OwnSortedInts
import Derived.Sort.LotA
import Derived.Deep.QuietTactic
import Derived.BigQuiet
import Derived.RegionTactic
import Derived.BigRegion
import Derived.Shelf.Abstract
import Derived.Deep.LoopGhost
import Derived.Test.YtgbjlcaanagfnaaBits
import Derived.Test.YtgbjlcaanagfnaaPx9
import Derived.Laws.OwnMore
import Derived.Laws.Rows
namespace Go.Proofs.Ytgbjlcaanagfnaa.P
open Go.RowKit Go.Shelf Go.Sort Go.Proofs.YtgbjlcaanagfnaaW.PrintWords Go.Proofs.YtgbjlcaanagfnaaW.PrintLast Go.Proofs.YtgbjlcaanagfnaaW.PrintMore
set_option linter.unusedVariables false
set_option linter.unusedSimpArgs false

def sortRen : Ren := ⟨fun n => if n = 20 then 64 else 0, fun n => if n = 22 then 22 else if n = 24 then 3 else if n = 25 then 74 else n, fun n => n⟩

theorem sortLays : SlLaysF.n20 Try.prog sortRen where
 mixed := by kernel_rfl
 f20 := ⟨"slices.insertionSortCmpFunc[int]", by decide, by rw [show sortRen.f 20 = 64 from rfl, Try.func64]; rfl⟩
 t0 := by kernel_rfl
 a0 := fun w => by kernel_rfl
 z0 := fun w => by kernel_rfl
 v0 := fun w => by kernel_rfl
 t3 := by kernel_rfl
 a3 := fun w => by kernel_rfl
 z3 := fun w => by kernel_rfl
 v3 := fun w => by kernel_rfl
 t4 := by kernel_rfl
 a4 := fun w => by kernel_rfl
 z4 := fun w => by kernel_rfl
 v4 := fun w => by kernel_rfl
 t22 := by kernel_rfl
 a22 := fun w => by kernel_rfl
 z22 := fun w => by kernel_rfl
 v22 := fun w => by kernel_rfl
 a24 := fun w => by kernel_rfl
 z24 := fun w => by kernel_rfl
 t25 := by kernel_rfl
 a25 := fun w => by kernel_rfl
 z25 := fun w => by kernel_rfl
 v25 := fun w => by kernel_rfl

set_option maxHeartbeats 1000000 in
set_option maxRecDepth 100000 in
theorem split_closure (L : List Int) (b9 gr capr : Nat) (x y : Nat) (hx : x < L.length) (hy : y < L.length) (hl : L.length ≤ 100) (W : World) (c9 : W.cell? ⟨b9, 0, none⟩ = some (.slice (some ⟨gr, 0, none⟩) L.length capr)) (cx : W.cell? ⟨gr, x, none⟩ = some (.int .i64 (L.getD x 0))) (cy : W.cell? ⟨gr, y, none⟩ = some (.int .i64 (L.getD y 0))) :
  Calls Try.prog 38 (#[.int .i64 x, .int .i64 y] ++ #[.pointer (some ⟨b9, 0, none⟩)]) W fun e w' => e = .returned (.int .i64 (wrap64 (L.getD y 0 - L.getD x 0))) ∧ ∃ q, w' = W.drewN q := by
 generalize L.getD x 0 = a at *
 generalize L.getD y 0 = b at *
 have p1 : (0 ≤ (x : Int)) = True := eq_true (by omega)
 have q1 : ((x : Int) < (L.length : Int)) = True := eq_true (by omega)
 have p2 : (0 ≤ (y : Int)) = True := eq_true (by omega)
 have q2 : ((y : Int) < (L.length : Int)) = True := eq_true (by omega)
 go_enter Try.func38, Try.ntmps38
 go_wp2
 go_quiet (fail)
 go_wp2
 go_ret
 exact ⟨rfl, nq, rfl⟩

/-- An index as a value. -/
def encF {m : Nat} (x : Fin (m + 1)) : Value := .int .i64 (x.val : Int)
def cfR (L : List Int) (m : Nat) (x y : Fin (m + 1)) : Int := wrap64 (L.getD y.val 0 - L.getD x.val 0)

theorem heap_sortW {m : Nat} {w : World} {g n : Nat} {os : Array Obj} (d : Array (Fin (m + 1))) (k : Nat) (hk : k < w.heap.size) (hne : k ≠ g) : (grow (putRow encF (Sort.ahead w n) g 0 d) os).heap[k]? = w.heap[k]? := by
 rw [heap_grow_old _ _ (by simpa using hk)]
 have : g ≠ k := fun e => hne e.symm
 simp [putRow, mapBlock, Sort.ahead, Array.getElem?_modify, this]
theorem cell_heap {W w : World} {a : Addr} (h : W.heap[a.block]? = w.heap[a.block]?) : W.cell? a = w.cell? a := by unfold World.cell?; rw [h]

theorem split_reads (L : List Int) (m : Nat) (hL : L.length = m + 1) (hl : L.length ≤ 100) (b9 gr capr blk : Nat) (w : World) (n9 : b9 ≠ blk) (nr : gr ≠ blk) (l9 : b9 < w.heap.size) (lr : gr < w.heap.size) (c9 : w.cell? ⟨b9, 0, none⟩ = some (.slice (some ⟨gr, 0, none⟩) L.length capr)) (cr : ∀ j, j < L.length → w.cell? ⟨gr, j, none⟩ = some (.int .i64 (L.getD j 0))) :
  CmpReads Try.prog 38 #[.pointer (some ⟨b9, 0, none⟩)] (encF (m := m)) (cfR L m) blk 0 (m + 1) w := by
 intro mm os dk hdk x y
 have hx := x.isLt
 have hy := y.isLt
 exact split_closure L b9 gr capr x.val y.val (by omega) (by omega) hl (sortWorld encF w blk 0 mm dk os) ((cell_heap (heap_sortW dk b9 l9 n9)).trans c9) ((cell_heap (heap_sortW dk gr lr nr)).trans (cr _ (by omega))) ((cell_heap (heap_sortW dk gr lr nr)).trans (cr _ (by omega)))

set_option maxHeartbeats 1000000 in
set_option maxRecDepth 100000 in
theorem stable_main (P : World → Prop) (N cap : Nat) (A : Option Addr) (fv : Value) (w : World) (hN : N ≤ 19) (hs : Calls Try.prog 64 #[.slice A N cap, .int .i64 ((0 : Nat) : Int), .int .i64 (N : Int), fv] w fun e w' => e = .returned (.tuple #[]) ∧ P w') :
  Calls Try.prog 37 #[.slice A N cap, fv] w fun e w' => e = .returned (.tuple #[]) ∧ P w' := by
 have e1 : decide ((20 : Int) ≤ (N : Int)) = false := decide_eq_false (by omega)
 have e2 : decide ((20 : Int) < (N : Int)) = false := decide_eq_false (by omega)
 have HS := Aside0.mk hs
 clear hs
 have hs2 : Calls Try.prog 56 #[.slice A N cap, .int .i64 (N : Int), fv] w fun e w' => e = .returned (.tuple #[]) ∧ P w' := by
  go_enter Try.func56, Try.ntmps56
  go_wp2
  go_loopg [7, 8] 0 (fun kx s7 s8 wr => s7 = .int .i64 0 ∧ s8 = .int .i64 20 ∧ wr = w)
  case atStart => exact ⟨rfl, rfl, rfl⟩
  case round =>
   obtain ⟨rfl, rfl, rfl⟩ := hrel
   go_wp2_with (first | (go_at_call 64; refine HS.out.mono ?_; rintro e w' ⟨rfl, hq⟩))
   go_loopg [6] 0 (fun kx s6 wr2 => s6 = .int .i64 20 ∧ wr2 = w')
   case atStart => exact ⟨rfl, rfl⟩
   case round =>
    obtain ⟨rfl, rfl⟩ := hrel
    go_wp2
    go_end0
    exact ⟨rfl, hq⟩
 have HS2 := Aside0.mk hs2
 clear hs2 HS
 go_enter Try.func37, Try.ntmps37
 go_wp2_with (first | (go_at_call 56; refine HS2.out.mono ?_; rintro e w' ⟨rfl, hq⟩))
 go_end0
 exact ⟨rfl, hq⟩

set_option maxHeartbeats 1000000 in
set_option maxRecDepth 100000 in
theorem stable_calls (L : List Int) (m N : Nat) (hN : N = m + 1) (hL : L.length = m + 1) (hm : m + 1 ≤ 19) (b9 gr capr blk cap : Nat) (d : Array (Fin (m + 1))) (hd : d.size = m + 1) (w : World) (n9 : b9 ≠ blk) (nr : gr ≠ blk) (l9 : b9 < w.heap.size) (lr : gr < w.heap.size) (c9 : w.cell? ⟨b9, 0, none⟩ = some (.slice (some ⟨gr, 0, none⟩) L.length capr)) (cr : ∀ j, j < L.length → w.cell? ⟨gr, j, none⟩ = some (.int .i64 (L.getD j 0))) (hH : Holds encF w blk 0 d) :
  Calls Try.prog 37 #[.slice (some ⟨blk, 0, none⟩) N cap, .func (.func 38) #[] #[.pointer (some ⟨b9, 0, none⟩)]] w fun e w' => e = .returned (.tuple #[]) ∧ ∃ n, w' = (putRow encF w blk 0 (Sort.insertionSort (ltOf (cfR L m)) d 0 (m + 1))).drewN n := by
 subst hN
 have hs := Any.insertionSortCmpFunc_one sortLays encF (fun _ => rfl) (cfR L m) 38 #[.pointer (some ⟨b9, 0, none⟩)] blk 0 cap 0 (m + 1) d w (enters_of Try.func38 (by kernel_rfl) rfl) (by rw [hd]; exact split_reads L m hL (by omega) b9 gr capr blk w n9 nr l9 lr c9 cr) hH (by omega) (by omega) (by omega)
 rw [hd, show sortRen.f 20 = 64 from rfl] at hs
 exact stable_main _ (m + 1) cap (some ⟨blk, 0, none⟩) _ w (by omega) hs
end Go.Proofs.Ytgbjlcaanagfnaa.P

namespace Go.Proofs.Ytgbjlcaanagfnaa.P
open Go.RowKit Go.Proofs.YtgbjlcaanagfnaaW.PrintWords Go.Proofs.YtgbjlcaanagfnaaW.PrintLast Go.Proofs.YtgbjlcaanagfnaaW.PrintMore
set_option linter.unusedVariables false
set_option linter.unusedSimpArgs false

/-- The first places filled, the others 0. -/
def fillTo (f : Nat → Int) (n i : Nat) : List Int := (List.range n).map fun j => if j < i then f j else 0
theorem fillTo_len (f : Nat → Int) (n i : Nat) : (fillTo f n i).length = n := by simp [fillTo]
theorem fillTo_zero (f : Nat → Int) (n : Nat) : fillTo f n 0 = List.replicate n 0 := by
 apply List.ext_getElem (by simp [fillTo])
 intro j h1 h2; simp [fillTo]
theorem fillTo_step (f : Nat → Int) (n i : Nat) (hi : i < n) : (fillTo f n i).set i (f i) = fillTo f n (i + 1) := by
 apply List.ext_getElem (by simp [fillTo])
 intro j h1 h2
 simp only [fillTo, List.getElem_set, List.getElem_map, List.getElem_range]
 by_cases c : i = j
 ·subst c; rw [if_pos rfl, if_pos (by omega)]
 ·rw [if_neg c]
  by_cases d : j < i
  ·rw [if_pos d, if_pos (by omega)]
  ·rw [if_neg d, if_neg (by omega)]
theorem fillTo_full (f : Nat → Int) (n : Nat) : fillTo f n n = (List.range n).map f := by
 apply List.ext_getElem (by simp [fillTo])
 intro j h1 h2
 have : j < n := by simpa [fillTo] using h1
 simp [fillTo, this]
theorem fillTo_at (f : Nat → Int) (n i j : Nat) (hj : j < n) (hji : j < i) : (fillTo f n i).getD j 0 = f j := by
 simp [fillTo, List.getD_eq_getElem?_getD, hj, hji]
/-- What is left of the amount. -/
def leftTo (f : Nat → Int) (total : Int) : Nat → Int
 | 0 => total
 | i + 1 => wrap64 (leftTo f total i - f i)
/-- One more at each of some places. -/
def incs (p : List Int) : List Nat → List Int
 | [] => p
 | j :: js => incs (p.set j (wrap64 (p.getD j 0 + 1))) js

theorem own_zero {W : World} {g base n : Nat} {mk : Array Value} (h : W.heap[g]? = some (.cells mk 3 (0, 0))) (hmk : mk.toList = List.replicate n (Value.int .i64 0)) (hb : base ≤ g) (hn : n ≤ maxLen) : Kd.R (Kd.int .i64) 3 W base (fun k => k = g) (.slice (some ⟨g, 0, none⟩) n n) (List.replicate n 0) := by
 have hsz : mk.size = n := by rw [← Array.length_toList, hmk, List.length_replicate]
 have ho : W.ownsRow base 3 1 (.slice (some ⟨g, 0, none⟩) n n) n (encs (Value.int .i64) (List.replicate n 0)) :=
  ⟨by simp [encs], .inr ⟨g, n, mk, rfl, hb, h, Nat.le_refl _, hn, by omega, by rw [Nat.mul_one, hmk]; simp [encs]⟩⟩
 exact Kd.R_of_own (enc := Value.int .i64) (h1 := fun _ => rfl) (xs := List.replicate n (0 : Int)) (by rw [List.length_replicate]; exact ho) (fun k hk => by simp [Value.ownBlock] at hk; exact hk.symm)
theorem frozen_heap {W w : World} {a : Addr} (h : W.heap[a.block]? = w.heap[a.block]?) : W.frozen? a = w.frozen? a := by unfold World.frozen?; rw [h]
theorem four_new (w : World) (a b c d : Obj) : ((((w.alloc a).alloc b).alloc c).alloc d).drew.heap[w.heap.size]? = some a ∧ ((((w.alloc a).alloc b).alloc c).alloc d).drew.heap[w.heap.size + 1]? = some b ∧ ((((w.alloc a).alloc b).alloc c).alloc d).drew.heap[w.heap.size + 1 + 1]? = some c ∧ ((((w.alloc a).alloc b).alloc c).alloc d).drew.heap[w.heap.size + 1 + 1 + 1]? = some d := by
 have e1 : (w.alloc a).heap.size = w.heap.size + 1 := by simp
 have e2 : ((w.alloc a).alloc b).heap.size = w.heap.size + 1 + 1 := by simp
 have e3 : (((w.alloc a).alloc b).alloc c).heap.size = w.heap.size + 1 + 1 + 1 := by simp
 have n1 := blk_new (w.alloc a) b
 have n2 := blk_new ((w.alloc a).alloc b) c
 have n3 := blk_new (((w.alloc a).alloc b).alloc c) d
 rw [e1] at n1; rw [e2] at n2; rw [e3] at n3
 exact ⟨blk_drew (blk_alloc (blk_alloc (blk_alloc (blk_new w a) _) _) _), blk_drew (blk_alloc (blk_alloc n1 _) _), blk_drew (blk_alloc n2 _), blk_drew n3⟩
theorem four_below {w W : World} (h : Below w.heap.size w W) (a b c d : Obj) : Below w.heap.size w ((((W.alloc a).alloc b).alloc c).alloc d).drew := below_drew (below_alloc (below_alloc (below_alloc (below_alloc h a) b) c) d)

/-- Three rows of one's own and the variable that holds the second. -/
structure Rows3 (w0 W : World) (gp gr go g9 n : Nat) (P R O : List Int) : Prop where
 hb : Below w0.heap.size w0 W
 hp : Kd.R (Kd.int .i64) 3 W w0.heap.size (fun k => k = gp) (.slice (some ⟨gp, 0, none⟩) n n) P
 hr : Kd.R (Kd.int .i64) 3 W w0.heap.size (fun k => k = gr) (.slice (some ⟨gr, 0, none⟩) n n) R
 ho : Kd.R (Kd.int .i64) 3 W w0.heap.size (fun k => k = go) (.slice (some ⟨go, 0, none⟩) n n) O
 h9 : W.heap[g9]? = some (.cells #[.slice (some ⟨gr, 0, none⟩) n n] 22 (0, 0))
theorem Rows3.putP {w0 W : World} {gp gr go g9 n : Nat} {P R O : List Int} (h : Rows3 w0 W gp gr go g9 n P R O) (i : Nat) (q : Int) (hg : w0.heap.size ≤ gp) (n1 : gp ≠ gr) (n2 : gp ≠ go) (n9 : g9 ≠ gp) : Rows3 w0 (W.setCell ⟨gp, i, none⟩ (.int .i64 q)) gp gr go g9 n (P.set i q) R O :=
 ⟨below_set h.hb hg, Kd.R_putn h.hp (i : Int) q, Kd.R_far (p := ⟨gp, i, none⟩) h.hr (fun k hk => by subst hk; exact n1.symm) _, Kd.R_far (p := ⟨gp, i, none⟩) h.ho (fun k hk => by subst hk; exact n2.symm) _, blk_far h.h9 n9 _⟩
theorem Rows3.putR {w0 W : World} {gp gr go g9 n : Nat} {P R O : List Int} (h : Rows3 w0 W gp gr go g9 n P R O) (i : Nat) (q : Int) (hg : w0.heap.size ≤ gr) (n1 : gp ≠ gr) (n2 : gr ≠ go) (n9 : g9 ≠ gr) : Rows3 w0 (W.setCell ⟨gr, i, none⟩ (.int .i64 q)) gp gr go g9 n P (R.set i q) O :=
 ⟨below_set h.hb hg, Kd.R_far (p := ⟨gr, i, none⟩) h.hp (fun k hk => by subst hk; exact n1) _, Kd.R_putn h.hr (i : Int) q, Kd.R_far (p := ⟨gr, i, none⟩) h.ho (fun k hk => by subst hk; exact n2.symm) _, blk_far h.h9 n9 _⟩
theorem Rows3.putO {w0 W : World} {gp gr go g9 n : Nat} {P R O : List Int} (h : Rows3 w0 W gp gr go g9 n P R O) (i : Nat) (q : Int) (hg : w0.heap.size ≤ go) (n1 : gp ≠ go) (n2 : gr ≠ go) (n9 : g9 ≠ go) : Rows3 w0 (W.setCell ⟨go, i, none⟩ (.int .i64 q)) gp gr go g9 n P R (O.set i q) :=
 ⟨below_set h.hb hg, Kd.R_far (p := ⟨go, i, none⟩) h.hp (fun k hk => by subst hk; exact n1) _, Kd.R_far (p := ⟨go, i, none⟩) h.hr (fun k hk => by subst hk; exact n2) _, Kd.R_putn h.ho (i : Int) q, blk_far h.h9 n9 _⟩

open Go.Sort in
theorem putF_size {m : Nat} (d : Array (Fin (m + 1))) (cur : Array Value) : (putCells encF 0 d cur).size = cur.size := by simp [putCells]
open Go.Sort in
theorem putF_take {m : Nat} (d : Array (Fin (m + 1))) (cur : Array Value) (h : d.size ≤ cur.size) : (putCells encF 0 d cur).toList.take d.size = d.toList.map encF := by
 apply List.ext_getElem?
 intro j
 by_cases hj : j < d.size
 ·rw [List.getElem?_take_of_lt hj, Array.getElem?_toList]
  simp [putCells, hj, show j < cur.size by omega]
 ·rw [List.getElem?_take_eq_none (by omega), List.getElem?_eq_none (by simp; omega)]
open Go.Sort in
theorem putF_heap {m : Nat} {w : World} {g q : Nat} {cur : Array Value} {e : TypeId} {fr : Nat × Nat} (d : Array (Fin (m + 1))) (hb : w.heap[g]? = some (.cells cur e fr)) :
  ((putRow encF w g 0 d).drewN q).heap[g]? = some (.cells (putCells encF 0 d cur) e fr) := by
 show (putRow encF w g 0 d).heap[g]? = _
 simp [putRow, mapBlock, Array.getElem?_modify, hb, onCells]
open Go.Sort in
theorem putF_grown {m : Nat} {w : World} {g q : Nat} (d : Array (Fin (m + 1))) : w.grownBy ((putRow encF w g 0 d).drewN q) (some g) := by
 refine ⟨rfl, rfl, rfl, by show _ ≤ (putRow encF w g 0 d).heap.size; simp, fun k hk hne => ?_⟩
 have : g ≠ k := fun e => hne (by rw [e])
 show (putRow encF w g 0 d).heap[k]? = _
 simp [putRow, mapBlock, Array.getElem?_modify, this]
open Go.Sort in
/-- The indices by falling remainders. -/
def srtOf (L : List Int) (m : Nat) : Array (Fin (m + 1)) := insertionSort (ltOf (cfR L m)) (Array.ofFn id) 0 (m + 1)
/-- Behind the sort. -/
theorem Rows3.sorted {w0 W : World} {gp gr go g9 n m : Nat} {P R O : List Int} (h : Rows3 w0 W gp gr go g9 n P R O) (d : Array (Fin (m + 1))) (hd : d.size = n) (hO : O.length = n) (hn : 0 < n) (q : Nat) (hg : w0.heap.size ≤ go) (n1 : gp ≠ go) (n2 : gr ≠ go) (n9 : g9 ≠ go) :
  Rows3 w0 ((Go.Sort.putRow encF W go 0 d).drewN q) gp gr go g9 n P R (d.toList.map fun x => (x.val : Int)) := by
 have G : W.grownBy ((Go.Sort.putRow encF W go 0 d).drewN q) (some go) := putF_grown d
 refine ⟨h.hb.grown G h.hb.size (fun k hk => by cases hk; exact hg), Kd.R_grown h.hp G (fun k hk e => n1 (hk.symm.trans (Option.some.inj e))), Kd.R_grown h.hr G (fun k hk e => n2 (hk.symm.trans (Option.some.inj e))), ?_, blk_grown h.h9 G (by intro e; exact n9 (Option.some.inj e))⟩
 have how := Kd.own_of_R h.ho
 rw [hO] at how
 obtain ⟨hx1, hx2⟩ := how
 rcases hx2 with ⟨hh, h0⟩ | ⟨g, cap, cur, hv, hb, hh, hnn, hm, hs, ht⟩
 ·omega
 injection hv with ha _ hc
 injection ha with ha
 injection ha with ha
 subst ha
 subst hc
 have hl : (d.toList.map fun x => (x.val : Int)).length = n := by simp [hd]
 have ho : ((Go.Sort.putRow encF W go 0 d).drewN q).ownsRow w0.heap.size 3 1 (.slice (some ⟨go, 0, none⟩) n n) n (encs (Value.int .i64) (d.toList.map fun x => (x.val : Int))) := by
  refine ⟨by simp [encs, hd], .inr ⟨go, n, _, rfl, hg, putF_heap d hh, Nat.le_refl _, hm, by rw [putF_size]; exact hs, ?_⟩⟩
  have := putF_take d cur (by omega)
  rw [hd] at this
  rw [Nat.mul_one, this]
  simp [encs, encF, Function.comp_def]
 exact Kd.R_of_own (enc := Value.int .i64) (h1 := fun _ => rfl) (by rw [hl]; exact ho) (fun k hk => by simp [Value.ownBlock] at hk; exact hk.symm)
theorem incs_snoc (js : List Nat) (x : Nat) : ∀ p : List Int, incs p (js ++ [x]) = (incs p js).set x (wrap64 ((incs p js).getD x 0 + 1)) := by
 induction js with
 | nil => intro p; rfl
 | cons j js ih => intro p; exact ih _
theorem incs_len (js : List Nat) : ∀ p, (incs p js).length = p.length := by
 induction js with
 | nil => intro p; rfl
 | cons j js ih => intro p; simp only [incs, ih, List.length_set]

set_option maxHeartbeats 1000000 in
set_option maxRecDepth 100000 in
theorem split_walk (total : Int) (A0 : Option Addr) (c0 : Nat) (l : List Int) (w : World) (hr0 : Kd.C (Kd.int .i64) w A0 l.length l) (hc0 : l.length ≤ c0) (hg : goodW total l) (Q R : Nat → Int) (t : Nat) (ht : leftTo Q total l.length = (t : Int)) (htl : t ≤ l.length) (I : List Nat) (hsz : ∀ m, l.length = m + 1 → (srtOf (fillTo R l.length l.length) m).size = m + 1) (hsi : ∀ m, l.length = m + 1 → (srtOf (fillTo R l.length l.length) m).toList.map (fun x => x.val) = I) (hq : ∀ i, i < l.length → share_quotient.f total (l.getD i 0) l.sum = some (Q i, R i)) :
  Calls Try.prog 21 #[.int .i64 total, .slice A0 l.length c0] w fun e w' => ∃ v0_ : Value, e = .returned (.tuple #[v0_, .int .i64 0]) ∧ Kd.R (Kd.int .i64) 3 w' w.heap.size (fun _ => True) v0_ (incs (fillTo Q l.length l.length) (I.take t)) ∧ Below w.heap.size w w' := by
 have HR0 := Aside0.mk hr0
 have HG := Aside0.mk hg
 have HQ := Aside0.mk hq
 have HT := Aside0.mk ht
 have HSZ := Aside0.mk hsz
 have HSI := Aside0.mk hsi
 clear hsz hsi
 clear hq ht
 obtain ⟨i0, hi0, _, hsz0, _⟩ := info_parts info3
 have hl := hg.2.2.2.1
 have hl1 := hg.2.2.1
 have HB := Aside0.mk (Below.refl w.heap.size w)
 clear hr0 hg
 go_enter Try.func21, Try.ntmps21
 go_wp2_with (first | (go_at_call 35; refine (check_good total A0 c0 l _ (Kd.C_below HR0.out HB.out) hc0 HG.out).mono ?_; rintro e w2 ⟨rfl, hb⟩; have n0_ := Aside0.mk (below_step HB.out hb); clear HB; have HB := n0_; clear n0_ hb))
 have hmk : ∀ W : World, (Instr.makeSlice 22 (.int .i64 (l.length : Int)) (.int .i64 (l.length : Int))).run Try.prog W = .ok (.slice (some ⟨W.heap.size, 0, none⟩) l.length l.length) (W.alloc (.cells (madeCells #[.int .i64 0] l.length) 3)) := fun W =>
  run_make_row' (P := Try.prog) 22 3 (.int .i64 0) 8 Try.underlying22 info3 rfl .i64 .i64 l.length (by omega) (by omega) W
 have hms : (madeCells #[Value.int .i64 0] l.length).toList = List.replicate l.length (Value.int .i64 0) := toList_madeCells_one _ _
 generalize madeCells #[Value.int .i64 0] l.length = mk at *
 rename_i K hK
 have fin : ∀ (gp gr go g9 : Nat) (W : World), Aside0 (Below w.heap.size w W) → Aside0 (W.heap[gp]? = some (.cells mk 3 (0, 0))) → Aside0 (W.heap[gr]? = some (.cells mk 3 (0, 0))) → Aside0 (W.heap[go]? = some (.cells mk 3 (0, 0))) → Aside0 (W.heap[g9]? = some (.cells #[.slice (some ⟨gr, 0, none⟩) l.length l.length] 22 (0, 0))) →
   Aside0 (w.heap.size ≤ gp ∧ w.heap.size ≤ gr ∧ w.heap.size ≤ go ∧ w.heap.size ≤ g9) → Aside0 (gp ≠ gr ∧ gp ≠ go ∧ gr ≠ go) → K ⟨#[.int .i64 total, .slice A0 l.length c0, undef, undef, .slice none 0 0, .int .i64 0, .int .i64 l.sum, .int .i64 0, Value.slice (some ⟨gp, 0, none⟩) l.length l.length, .pointer (some ⟨g9, 0, none⟩), Value.slice (some ⟨go, 0, none⟩) l.length l.length, undef, undef, undef, undef, undef, .tuple #[.int .i64 l.sum, .int .i64 0], .int .i64 total, .slice A0 l.length c0, .tuple #[.int .i64 l.sum, .int .i64 0], .int .i64 l.sum, .int .i64 0, .int .i64 0, .bool false, undef, .slice A0 l.length c0, .int .i64 l.length, Value.slice (some ⟨gp, 0, none⟩) l.length l.length, .slice A0 l.length c0, .int .i64 l.length, Value.slice (some ⟨gr, 0, none⟩) l.length l.length, .slice A0 l.length c0, .int .i64 l.length, Value.slice (some ⟨go, 0, none⟩) l.length l.length, undef, undef, undef, undef, undef, undef, undef, undef, undef, undef, undef, undef, undef, undef, undef, undef, undef, undef, undef, undef, undef, undef, undef, undef, undef, undef, undef, undef, undef, undef, undef, undef, undef, undef, undef, undef, undef, undef, undef, undef, undef, undef, undef, undef, undef, undef, undef, undef, undef, undef, undef], []⟩ W := by
  clear HB hmk
  intro gp gr go g9 W HB BP BR BO B9 GE NE
  apply hK
  clear hK
  have NE9 := Aside0.mk (show g9 ≠ gp ∧ g9 ≠ gr ∧ g9 ≠ go from ⟨blk_ne B9.out BP.out (by decide), blk_ne B9.out BR.out (by decide), blk_ne B9.out BO.out (by decide)⟩)
  have HP := Aside0.mk (own_zero BP.out hms GE.out.1 (by unfold maxLen; omega))
  have HR := Aside0.mk (own_zero BR.out hms GE.out.2.1 (by unfold maxLen; omega))
  have HO := Aside0.mk (own_zero BO.out hms GE.out.2.2.1 (by unfold maxLen; omega))
  clear BP BR BO hms
  rw [← fillTo_zero Q] at HP
  rw [← fillTo_zero R] at HR
  rw [← fillTo_zero (fun j => (j : Int))] at HO
  go_wp2
  go_loopg [11, 37] l.length (fun kx s11 s37 wr => ∃ (i : Nat), s11 = .int .i64 (leftTo Q total i) ∧ s37 = .int .i64 i ∧ i ≤ l.length ∧ l.length - i ≤ kx ∧ Aside0 (Rows3 w wr gp gr go g9 l.length (fillTo Q l.length i) (fillTo R l.length i) (fillTo (fun j => (j : Int)) l.length i)))
  case atStart => exact ⟨0, rfl, rfl, Nat.zero_le _, by omega, ⟨⟨HB.out, HP.out, HR.out, HO.out, B9.out⟩⟩⟩
  case round =>
   clear HB HP HR HO B9
   obtain ⟨i, rfl, rfl, hi, hgk, HH⟩ := hrel
   by_cases hlt : i < l.length
   ·have HB := Aside0.mk HH.out.hb
    have HP := Aside0.mk HH.out.hp
    have HR := Aside0.mk HH.out.hr
    have HO := Aside0.mk HH.out.ho
    have B9 := Aside0.mk HH.out.h9
    clear HH
    obtain ⟨ad, e1, hx⟩ := Kd.at_int HR0.out (i : Int) (by omega) (by omega)
    subst e1
    replace hx := (HB.out.cell (World.block_lt_of_cell? w _ hx)).trans hx
    rw [Int.toNat_natCast] at hx
    have HQI := Aside0.mk (HQ.out i hlt)
    rw [show rd l (i : Int) = l.getD i 0 from by unfold rd; rw [Int.toNat_natCast]] at hx
    generalize l.getD i 0 = x at *
    have p1 : (0 ≤ (i : Int)) = True := eq_true (by omega)
    have q1 : ((i : Int) < (l.length : Int)) = True := eq_true (by omega)
    have c90 : wr.cell? ⟨g9, 0, none⟩ = some (.slice (some ⟨gr, 0, none⟩) l.length l.length) := (blk_cell B9.out 0).trans rfl
    go_wp2
    go_region_with (first | (go_at_call 36; refine (share_quotient.calls total x l.sum (Q i) (R i) _ HQI.out).mono ?_; rintro e w3 ⟨rfl, hb⟩; have n0_ := Aside0.mk (below_step (by repeat (first | (with_reducible first | exact HB.out | apply below_alloc | apply pw_below_drewN | apply below_drew1) | exact HB.out)) hb); have n1_ := Aside0.mk (Kd.R_below (by (with_reducible repeat (first | apply Kd.R_alloc | apply Kd.R_drewN | apply Kd.R_drew)); exact HP.out) hb); have n2_ := Aside0.mk (Kd.R_below (by (with_reducible repeat (first | apply Kd.R_alloc | apply Kd.R_drewN | apply Kd.R_drew)); exact HR.out) hb); have n3_ := Aside0.mk (Kd.R_below (by (with_reducible repeat (first | apply Kd.R_alloc | apply Kd.R_drewN | apply Kd.R_drew)); exact HO.out) hb); have n4_ := Aside0.mk (blk_below (g := g9) (o := .cells #[.slice (some ⟨gr, 0, none⟩) l.length l.length] 22 (0, 0)) (by (with_reducible repeat (first | refine blk_drewN ?_ _ | refine blk_drew ?_)); exact B9.out) hb); clear HB HP HR HO B9; have HB := n0_; have HP := n1_; have HR := n2_; have HO := n3_; have B9 := n4_; clear n0_ n1_ n2_ n3_ n4_ hb; have c90 : w3.cell? ⟨g9, 0, none⟩ = some (.slice (some ⟨gr, 0, none⟩) l.length l.length) := (blk_cell B9.out 0).trans rfl; obtain ⟨hxP, hfP⟩ := Kd.R_celln 0 HP.out (i : Int) (by omega) (by omega); obtain ⟨hxR, hfR⟩ := Kd.R_celln 0 HR.out (i : Int) (by omega) (by omega); rw [Int.toNat_natCast] at hxP hfP hxR hfR; have HPP := Kd.R_putg HP.out (i : Int) (Q i); have HRR := Kd.R_putg HR.out (i : Int) (R i); rw [Int.toNat_natCast] at HPP HRR; have hne1 : gp ≠ gr := NE.out.1; have hne2 : gr ≠ gp := fun e => NE.out.1 e.symm; have hc9P : ∀ v, (w3.setCell ⟨gp, i, none⟩ v).cell? ⟨g9, 0, none⟩ = some (.slice (some ⟨gr, 0, none⟩) l.length l.length) := fun v => (cell_heap (Below.heap_setCell w3 ⟨gp, i, none⟩ v g9 NE9.out.1)).trans c90; have hxR2 : ∀ v, (w3.setCell ⟨gp, i, none⟩ v).cell? ⟨gr, i, none⟩ = some (.int .i64 (rdOf 0 (fillTo R l.length i) (i : Int))) := fun v => (cell_heap (Below.heap_setCell w3 ⟨gp, i, none⟩ v gr hne2)).trans hxR; have hfR2 : ∀ v, (w3.setCell ⟨gp, i, none⟩ v).frozen? ⟨gr, i, none⟩ = false := fun v => (frozen_heap (Below.heap_setCell w3 ⟨gp, i, none⟩ v gr hne2)).trans hfR; have hxP2 : ∀ v, (w3.setCell ⟨gr, i, none⟩ v).cell? ⟨gp, i, none⟩ = some (.int .i64 (rdOf 0 (fillTo Q l.length i) (i : Int))) := fun v => (cell_heap (Below.heap_setCell w3 ⟨gr, i, none⟩ v gp hne1)).trans hxP; have hfP2 : ∀ v, (w3.setCell ⟨gr, i, none⟩ v).frozen? ⟨gp, i, none⟩ = false := fun v => (frozen_heap (Below.heap_setCell w3 ⟨gr, i, none⟩ v gp hne1)).trans hfP))
    all_goals
     generalize hW : World.setCell (World.setCell w3 _ _) _ _ = W5
     have H5 : Rows3 w W5 gp gr go g9 l.length (fillTo Q l.length (i + 1)) (fillTo R l.length (i + 1)) (fillTo (fun j => (j : Int)) l.length i) := by
      have H3 : Rows3 w w3 gp gr go g9 l.length _ _ _ := ⟨HB.out, HP.out, HR.out, HO.out, B9.out⟩
      rw [← hW, ← fillTo_step Q l.length i hlt, ← fillTo_step R l.length i hlt]
      first
       | exact (H3.putP i (Q i) GE.out.1 NE.out.1 NE.out.2.1 NE9.out.1).putR i (R i) GE.out.2.1 NE.out.1 NE.out.2.2 NE9.out.2.1
       | exact (H3.putR i (R i) GE.out.2.1 NE.out.1 NE.out.2.2 NE9.out.2.1).putP i (Q i) GE.out.1 NE.out.1 NE.out.2.1 NE9.out.1
     clear hW HB HP HR HO B9 c90 hxP hfP hxR hfR HPP HRR hxR2 hfR2 hxP2 hfP2 hc9P
     have H6 := Aside0.mk (H5.putO i (i : Int) GE.out.2.2.1 NE.out.2.1 NE.out.2.2 NE9.out.2.2)
     obtain ⟨hxO, hfO⟩ := Kd.R_celln 0 H5.ho (i : Int) (by omega) (by omega)
     rw [Int.toNat_natCast] at hxO hfO
     have hw : IntKind.i64.wrap ((i : Int) + 1) = ((i + 1 : Nat) : Int) := by rw [IntKind.wrap_i64]; omega
     clear H5
     go_wp2_with (first | ((with_reducible refine gate_store (t := 3) (p := 58) rfl ?_); refine store_event (t := 3) (p := 58) (v := ?vo_w14) (w1 := (W5.setCell ⟨go, i, none⟩ (.int .i64 (i : Int)))) ?hg ?ho ?hn ?hr ?_; (case ho => rfl); (case hg => rfl); (case hn => rfl); (case hr => first | (go_simp; done) | (go_simp; rfl)); intro w14 hw14; have n0_ := Aside0.mk (show Rows3 w w14 gp gr go g9 l.length (fillTo Q l.length (i + 1)) (fillTo R l.length (i + 1)) (fillTo (fun j => (j : Int)) l.length (i + 1)) from (by rw [hw14, ← fillTo_step (fun j => (j : Int)) l.length i hlt]; exact H6.out)); clear H6 hw14; have H7 := n0_; clear n0_; obtain ⟨hxP, hfP⟩ := Kd.R_celln 0 H7.out.hp (i : Int) (by omega) (by omega); rw [Int.toNat_natCast] at hxP hfP; replace hxP : w14.cell? ⟨gp, i, none⟩ = some (.int .i64 (Q i)) := by rw [hxP]; unfold rdOf; rw [Int.toNat_natCast, fillTo_at Q l.length (i + 1) i hlt (by omega)]))
     go_roundg (l.length - (i + 1))
     case measure => omega
     case rel => exact ⟨i + 1, rfl, by first | rfl | (rw [hw]; rfl) | simp, by omega, Nat.le_refl _, H7⟩
   ·obtain rfl : i = l.length := by omega
    rw [HT.out]
    obtain ⟨m, hm⟩ : ∃ m, l.length = m + 1 := ⟨l.length - 1, by omega⟩
    have HM := Aside0.mk hm
    have hcutt := cut_to (P := Try.prog) 22 3 .i64 Try.underlying22 hi0 (some ⟨go, 0, none⟩) l.length l.length (t : Int) (by omega) (by omega) (Nat.le_refl _)
    have c90 : wr.cell? ⟨g9, 0, none⟩ = some (.slice (some ⟨gr, 0, none⟩) l.length l.length) := (blk_cell HH.out.h9 0).trans rfl
    have hHolds : Go.Sort.Holds (encF (m := m)) wr go 0 (Array.ofFn id) := by
     intro j hj
     have hj' : j < m + 1 := by simpa using hj
     obtain ⟨h1, h2⟩ := Kd.R_celln 0 HH.out.ho (j : Int) (by omega) (by omega)
     rw [Int.toNat_natCast] at h1 h2
     rw [Nat.zero_add]
     refine ⟨?_, h2⟩
     rw [h1]
     unfold rdOf
     rw [Int.toNat_natCast, fillTo_at _ _ _ _ (by omega) (by omega)]
     simp [encF, hj']
    have hstab := stable_calls (fillTo R l.length l.length) m l.length hm (by rw [fillTo_len]; exact hm) (by omega) g9 gr l.length go l.length (Array.ofFn id) (by simp) wr NE9.out.2.2 NE.out.2.2 (blk_lt HH.out.h9) (Kd.R_lt HH.out.hr gr rfl) (by rw [fillTo_len]; exact c90) (fun j hj => by
     rw [fillTo_len] at hj
     obtain ⟨h1, h2⟩ := Kd.R_celln 0 HH.out.hr (j : Int) (by omega) (by omega)
     rw [Int.toNat_natCast] at h1
     exact h1) hHolds
    have hSz := (HSZ.out m hm).trans hm.symm
    have hSI := HSI.out m hm
    rw [show Go.Sort.insertionSort (ltOf (cfR (fillTo R l.length l.length) m)) (Array.ofFn id) 0 (m + 1) = srtOf (fillTo R l.length l.length) m from rfl] at hstab
    generalize srtOf (fillTo R l.length l.length) m = S at hstab hSz hSI
    have HST := Aside0.mk hstab
    have HSz := Aside0.mk hSz
    have HSi := Aside0.mk hSI
    have HI := Aside0.mk (show I.length = l.length ∧ ∀ x ∈ I, x < l.length from ⟨by rw [← hSI, List.length_map, Array.length_toList]; exact hSz, fun x hx => by rw [← hSI] at hx; obtain ⟨y, _, rfl⟩ := List.mem_map.1 hx; have := y.isLt; omega⟩)
    clear hstab hHolds c90 hm hSz hSI
    go_wp2_with (first | (go_at_call 37; refine HST.out.mono ?_; rintro e w4 ⟨rfl, q4, rfl⟩))
    have HS4 := Aside0.mk (HH.out.sorted S HSz.out (by rw [fillTo_len]) (by omega) q4 GE.out.2.2.1 NE.out.2.1 NE.out.2.2 NE9.out.2.2)
    clear HST HH
    generalize (Go.Sort.putRow encF wr go 0 S).drewN q4 = W4 at *
    have HS5 := Aside0.mk (show Rows3 w W4 gp gr go g9 l.length (incs (fillTo Q l.length l.length) (I.take 0)) (fillTo R l.length l.length) (I.map fun x : Nat => (x : Int)) from by
     have h := HS4.out
     rw [show S.toList.map (fun x => (x.val : Int)) = I.map (fun x : Nat => (x : Int)) from by rw [← HSi.out, List.map_map]; rfl] at h
     exact h)
    clear HS4 HSi HSz
    go_loopg [73] t (fun kx s73 wr => ∃ (j : Nat), s73 = .int .i64 j ∧ j ≤ t ∧ t - j ≤ kx ∧ Aside0 (Rows3 w wr gp gr go g9 l.length (incs (fillTo Q l.length l.length) (I.take j)) (fillTo R l.length l.length) (I.map fun x : Nat => (x : Int))))
    case atStart => exact ⟨0, rfl, Nat.zero_le _, by omega, HS5⟩
    case round =>
     clear HS5
     obtain ⟨j, rfl, hj, hgj, H⟩ := hrel
     by_cases hlt : j < t
     ·have hjI : j < I.length := by rw [HI.out.1]; omega
      have hxl : I[j] < l.length := HI.out.2 _ (List.getElem_mem hjI)
      obtain ⟨hxO, _⟩ := Kd.R_celln 0 H.out.ho (j : Int) (by omega) (by omega)
      rw [Int.toNat_natCast] at hxO
      replace hxO : wr.cell? ⟨go, j, none⟩ = some (.int .i64 ((I[j] : Nat) : Int)) := by rw [hxO]; unfold rdOf; rw [Int.toNat_natCast]; simp [List.getD_eq_getElem?_getD, hjI]
      obtain ⟨hxP, hfP⟩ := Kd.R_celln 0 H.out.hp ((I[j] : Nat) : Int) (by omega) (by omega)
      rw [Int.toNat_natCast] at hxP hfP
      replace hxP : wr.cell? ⟨gp, I[j], none⟩ = some (.int .i64 ((incs (fillTo Q l.length l.length) (I.take j)).getD I[j] 0)) := by rw [hxP]; unfold rdOf; rw [Int.toNat_natCast]
      have HN := Aside0.mk (show Rows3 w (wr.setCell ⟨gp, I[j], none⟩ (.int .i64 (wrap64 ((incs (fillTo Q l.length l.length) (I.take j)).getD I[j] 0 + 1)))) gp gr go g9 l.length (incs (fillTo Q l.length l.length) (I.take (j + 1))) (fillTo R l.length l.length) (I.map fun x : Nat => (x : Int)) from by
       have h := H.out.putP I[j] (wrap64 ((incs (fillTo Q l.length l.length) (I.take j)).getD I[j] 0 + 1)) GE.out.1 NE.out.1 NE.out.2.1 NE9.out.1
       rw [List.take_succ_eq_append_getElem hjI, incs_snoc _ _ (fillTo Q l.length l.length)]
       exact h)
      generalize (incs (fillTo Q l.length l.length) (I.take j)).getD I[j] 0 = y at *
      generalize I[j] = x at *
      have p1 : (0 ≤ (j : Int)) = True := eq_true (by omega)
      have q1 : ((j : Int) < (t : Int)) = True := eq_true (by omega)
      have p2 : (0 ≤ (x : Int)) = True := eq_true (by omega)
      have q2 : ((x : Int) < (l.length : Int)) = True := eq_true (by omega)
      have hw : IntKind.i64.wrap ((j : Int) + 1) = ((j + 1 : Nat) : Int) := by rw [IntKind.wrap_i64]; omega
      clear H
      go_wp2_with (first | ((with_reducible refine gate_store (t := 3) (p := 82) rfl ?_); refine store_event (t := 3) (p := 82) (v := ?vo_w15) (w1 := (wr.setCell ⟨gp, x, none⟩ (.int .i64 (wrap64 (y + 1))))) ?hg ?ho ?hn ?hr ?_; (case ho => rfl); (case hg => rfl); (case hn => rfl); (case hr => first | (go_simp; done) | (go_simp; rfl)); intro w14 hw14; have n0_ := Aside0.mk (show Rows3 w w14 gp gr go g9 l.length (incs (fillTo Q l.length l.length) (I.take (j + 1))) (fillTo R l.length l.length) (I.map fun x : Nat => (x : Int)) from (by rw [hw14]; exact HN.out)); clear HN hw14; have H7 := n0_; clear n0_))
      go_roundg (t - (j + 1))
      case measure => omega
      case rel => exact ⟨j + 1, by first | rfl | (rw [hw]; rfl) | simp, by omega, Nat.le_refl _, H7⟩
     ·obtain rfl : j = t := by omega
      go_wp2
      go_ret2
      exact ⟨_, rfl, Kd.R_mono H.out.hp (fun _ _ => trivial), H.out.hb⟩
 clear hK
 have E0 := below_size HB.out
 have FIN := Aside0.mk fin
 clear fin
 go_region
 all_goals (refine FIN.out _ _ _ _ _ ⟨four_below HB.out _ _ _ _⟩ ⟨?_⟩ ⟨?_⟩ ⟨?_⟩ ⟨?_⟩ ⟨by omega⟩ ⟨by omega⟩ <;> first | exact (four_new w2 _ _ _ _).1 | exact (four_new w2 _ _ _ _).2.1 | exact (four_new w2 _ _ _ _).2.2.1 | exact (four_new w2 _ _ _ _).2.2.2)
end Go.Proofs.Ytgbjlcaanagfnaa.P

namespace Go.Proofs.Ytgbjlcaanagfnaa.P
open Go.RowKit Go.Proofs.YtgbjlcaanagfnaaW.PrintWords Go.Proofs.YtgbjlcaanagfnaaW.PrintLast Go.Proofs.Ytgbjlcaanagfnaa.Math
set_option linter.unusedVariables false
set_option linter.unusedSimpArgs false

theorem sw64 {x : Int} (h0 : -9223372036854775808 ≤ x) (h1 : x ≤ 9223372036854775807) : wrap64 x = x := by unfold wrap64; omega
def qOf (total : Int) (l : List Int) (i : Nat) : Int := if l.sum = 0 then 0 else total * l.getD i 0 / l.sum
def rOf (total : Int) (l : List Int) (i : Nat) : Int := if l.sum = 0 then 0 else total * l.getD i 0 % l.sum
def sumN (f : Nat → Int) : Nat → Int
  | 0 => 0
  | i + 1 => sumN f i + f i
theorem getD_mem_or (l : List Int) (i : Nat) : l.getD i 0 ∈ l ∨ l.getD i 0 = 0 := by
  rw [List.getD_eq_getElem?_getD]
  by_cases h : i < l.length
  · left; simp [h]
  · right; simp [h]
theorem mem_le_sum : ∀ (l : List Int), (∀ x ∈ l, 0 ≤ x) → ∀ x ∈ l, x ≤ l.sum
  | [], _, x, h => by simp at h
  | y :: l, hp, x, h => by
    have h1 := sum_nonneg l (fun z hz => hp z (by simp [hz]))
    have h2 := hp y (by simp)
    simp only [List.sum_cons]
    rcases List.mem_cons.1 h with rfl | h
    · omega
    · have := mem_le_sum l (fun z hz => hp z (by simp [hz])) x h; omega
theorem good_at {total : Int} {l : List Int} (h : goodW total l) (i : Nat) : 0 ≤ l.getD i 0 ∧ l.getD i 0 ≤ l.sum ∧ l.getD i 0 ≤ 1125899906842624 := by
  obtain ⟨h1, h2, h3, h4, h5, h6, h7⟩ := h
  have hs := sum_nonneg l (fun x hx => (h5 x hx).1)
  rcases getD_mem_or l i with h | h
  · have := mem_le_sum l (fun x hx => (h5 x hx).1) _ h; have := h5 _ h; omega
  · omega
theorem qr_eq {total : Int} {l : List Int} (h : goodW total l) (i : Nat) : 0 ≤ qOf total l i ∧ qOf total l i ≤ total ∧ 0 ≤ rOf total l i ∧ (l.sum = 0 ∨ rOf total l i < l.sum) ∧ l.sum * qOf total l i + rOf total l i = total * l.getD i 0 ∧ share_quotient.f total (l.getD i 0) l.sum = some (qOf total l i, rOf total l i) := by
  have hw := good_at h i
  obtain ⟨h1, h2, h3, h4, h5, h6, h7⟩ := h
  have hs := sum_nonneg l (fun x hx => (h5 x hx).1)
  generalize hW : l.getD i 0 = W at *
  unfold qOf rOf share_quotient.f
  rw [hW]
  by_cases c : l.sum = 0
  · rw [if_pos c, if_pos c, if_pos c]
    have : total = 0 := h7 c
    subst this
    exact ⟨by omega, by omega, by omega, .inl c, by simp, rfl⟩
  · rw [if_neg c, if_neg c, if_neg c]
    have hc : 0 < l.sum := by omega
    have p0 := Int.mul_nonneg h1 hw.1
    have dm := Int.mul_ediv_add_emod (total * W) l.sum
    have m0 := Int.emod_nonneg (total * W) c
    have m1 := Int.emod_lt_of_pos (total * W) hc
    have q0 := Int.ediv_nonneg p0 (Int.le_of_lt hc)
    have q1 : total * W / l.sum ≤ total := Int.ediv_le_of_le_mul hc (Int.mul_le_mul_of_nonneg_left hw.2.1 h1)
    have hmd : md total W l.sum 0 = (total * W / l.sum, 0) := by
      unfold md rnd
      rw [if_neg (by omega), if_neg (by omega), if_neg (show ¬ ((0 : Int) < 0 ∨ (3 : Int) ≤ 0) by omega), if_neg (show ¬ l.sum < 0 by omega), if_neg (show ¬ l.sum < 0 by omega), if_pos rfl, if_neg (by omega)]
    refine ⟨q0, q1, m0, .inr m1, dm, ?_⟩
    unfold num_MulDiv.f
    rw [hmd, Option.bind_some]
    simp only
    have e : wrap64 (wrap64 (total * W) - wrap64 (total * W / l.sum * l.sum)) = total * W % l.sum := by
      rw [Int.mul_comm (total * W / l.sum) l.sum]
      generalize total * W / l.sum = q at *
      generalize l.sum * q = X at *
      generalize total * W = Y at *
      unfold wrap64
      omega
    rw [e]

theorem sumN_le (f : Nat → Int) (hf : ∀ i, 0 ≤ f i) : ∀ n i, i ≤ n → 0 ≤ sumN f i ∧ sumN f i ≤ sumN f n
  | 0, i, h => by obtain rfl : i = 0 := by omega
                  simp [sumN]
  | n + 1, i, h => by
    have ih := sumN_le f hf n
    by_cases c : i = n + 1
    · subst c; have := (ih n (Nat.le_refl _)).1; have := hf n; simp only [sumN]; omega
    · have := ih i (by omega); have := hf n; simp only [sumN]; omega
theorem sumN_lin (a : Int) (f g k : Nat → Int) (b : Int) (h : ∀ i, a * f i + g i = b * k i) : ∀ n, a * sumN f n + sumN g n = b * sumN k n
  | 0 => by simp [sumN]
  | n + 1 => by
    have ih := sumN_lin a f g k b h n
    have := h n
    simp only [sumN, Int.mul_add]; omega
theorem sumN_bound (f : Nat → Int) (B : Int) (h : ∀ i, f i ≤ B) : ∀ n : Nat, sumN f n ≤ n * B
  | 0 => by simp [sumN]
  | n + 1 => by
    have := sumN_bound f B h n; have := h n
    simp only [sumN]
    rw [Int.natCast_add, Int.add_mul, Int.natCast_one, Int.one_mul]; omega
theorem sumN_range (f : Nat → Int) : ∀ n, ((List.range n).map f).sum = sumN f n
  | 0 => rfl
  | n + 1 => by rw [List.range_succ, List.map_append, List.sum_append, sumN_range f n]; simp [sumN]
theorem sumN_list (l : List Int) : sumN (fun i => l.getD i 0) l.length = l.sum := by
  rw [← sumN_range]
  congr 1
  apply List.ext_getElem (by simp)
  intro i h1 h2
  simp [List.getD_eq_getElem?_getD, h2]
theorem leftTo_eq (f : Nat → Int) (total : Int) (n : Nat) (hf : ∀ i, 0 ≤ f i) (h0 : total ≤ 1125899906842624) (h1 : sumN f n ≤ total) : ∀ i, i ≤ n → leftTo f total i = total - sumN f i
  | 0, _ => by simp [leftTo, sumN]
  | i + 1, h => by
    have ih := leftTo_eq f total n hf h0 h1 i (by omega)
    have a := sumN_le f hf n i (by omega)
    have b := sumN_le f hf n (i + 1) h
    simp only [sumN] at b ⊢
    unfold leftTo
    rw [ih, sw64 (by omega) (by omega)]; omega

/-- How many are given out by the remainders. -/
def tOf (total : Int) (l : List Int) : Nat := (total - sumN (qOf total l) l.length).toNat
theorem tOf_eq {total : Int} {l : List Int} (h : goodW total l) : leftTo (qOf total l) total l.length = (tOf total l : Int) ∧ tOf total l ≤ l.length ∧ sumN (qOf total l) l.length + tOf total l = total ∧ l.sum * tOf total l = sumN (rOf total l) l.length := by
  have hq := fun i => qr_eq h i
  have hlin := sumN_lin l.sum (qOf total l) (rOf total l) (fun i => l.getD i 0) total (fun i => (hq i).2.2.2.2.1) l.length
  rw [sumN_list] at hlin
  obtain ⟨h1, h2, h3, h4, h5, h6, h7⟩ := id h
  have hs := sum_nonneg l (fun x hx => (h5 x hx).1)
  have hr0 := (sumN_le (rOf total l) (fun i => (hq i).2.2.1) l.length l.length (Nat.le_refl _)).1
  have hle : sumN (qOf total l) l.length ≤ total ∧ total - sumN (qOf total l) l.length ≤ l.length ∧ l.sum * (total - sumN (qOf total l) l.length) = sumN (rOf total l) l.length := by
    by_cases c : l.sum = 0
    · have : total = 0 := h7 c
      have hz : ∀ n, sumN (qOf total l) n = 0 := by
        intro n
        induction n with
        | zero => rfl
        | succ n ih => simp only [sumN, ih]; unfold qOf; rw [if_pos c]; omega
      rw [hz] at hlin ⊢
      rw [c] at hlin ⊢
      subst this
      simp at hlin ⊢
      omega
    · have hc : 0 < l.sum := by omega
      have hb := sumN_bound (rOf total l) (l.sum - 1) (fun i => by have := (hq i).2.2.2.1; omega) l.length
      generalize sumN (qOf total l) l.length = SQ at *
      generalize sumN (rOf total l) l.length = SR at *
      have e : l.sum * (total - SQ) = SR := by rw [Int.mul_sub, Int.mul_comm l.sum total]; omega
      refine ⟨?_, ?_, e⟩
      · rcases Int.lt_or_le total SQ with g | g
        · have := Int.mul_le_mul_of_nonneg_left (show total - SQ ≤ -1 by omega) (Int.le_of_lt hc); omega
        · exact g
      · rcases Int.lt_or_le (l.length : Int) (total - SQ) with g | g
        · have g1 := Int.mul_le_mul_of_nonneg_left (show (l.length : Int) ≤ total - SQ by omega) (Int.le_of_lt hc)
          rw [Int.mul_sub, Int.mul_one] at hb
          rw [Int.mul_comm] at g1
          omega
        · exact g
  refine ⟨?_, ?_, ?_, ?_⟩
  · rw [leftTo_eq (qOf total l) total l.length (fun i => (hq i).1) h2 hle.1 l.length (Nat.le_refl _)]
    unfold tOf; omega
  · unfold tOf; omega
  · unfold tOf; omega
  · unfold tOf; rw [Int.toNat_of_nonneg (by omega)]; exact hle.2.2

theorem perm_sum {a b : List Int} (h : a.Perm b) : a.sum = b.sum := by
  induction h with
  | nil => rfl
  | cons x _ ih => simp [ih]
  | swap x y l => simp only [List.sum_cons]; omega
  | trans _ _ ih1 ih2 => exact ih1.trans ih2
theorem ext_all {β : Type} (a : Array β) (n : Nat) (h : a.size ≤ n) : a.extract 0 n = a := by
  apply Array.ext
  · simp; omega
  · intro i h1 h2; simp
theorem cfR_lt (L : List Int) (m : Nat) (hL : ∀ i, 0 ≤ L.getD i 0 ∧ L.getD i 0 ≤ 1125899906842624) (x y : Fin (m + 1)) : ltOf (cfR L m) x y = decide (L.getD y.val 0 < L.getD x.val 0) := by
  unfold ltOf cfR
  have := hL x.val; have := hL y.val
  rw [sw64 (by omega) (by omega), decide_eq_decide]; omega
open Go.Sort in
theorem srt_facts (L : List Int) (m : Nat) (hL : ∀ i, 0 ≤ L.getD i 0 ∧ L.getD i 0 ≤ 1125899906842624) :
    (srtOf L m).size = m + 1 ∧ ((srtOf L m).toList.map fun x => x.val).Perm (List.range (m + 1)) ∧ ∀ i j, i < j → j < m + 1 → L.getD (((srtOf L m).toList.map fun x => x.val).getD j 0) 0 ≤ L.getD (((srtOf L m).toList.map fun x => x.val).getD i 0) 0 := by
  have hsw : SWO (ltOf (cfR L m)) := by
    refine ⟨fun x => ?_, fun x y z => ?_, fun x y z => ?_⟩
    · rw [cfR_lt L m hL]; simp
    · rw [cfR_lt L m hL, cfR_lt L m hL, cfR_lt L m hL, decide_eq_true_iff, decide_eq_true_iff, decide_eq_true_iff]; omega
    · rw [cfR_lt L m hL, cfR_lt L m hL, cfR_lt L m hL, decide_eq_false_iff_not, decide_eq_false_iff_not, decide_eq_false_iff_not]; omega
  obtain ⟨⟨h1, h2, h3⟩, h4⟩ := insertionSort_holds (lt := ltOf (cfR L m)) hsw (Array.ofFn id) 0 (m + 1) (by omega) (by simp)
  have e : Go.Sort.insertionSort (ltOf (cfR L m)) (Array.ofFn id) 0 (m + 1) = srtOf L m := rfl
  rw [e] at h1 h3 h4
  have hsz : (srtOf L m).size = m + 1 := by rw [h1]; simp
  refine ⟨hsz, ?_, fun i j hij hj => ?_⟩
  · have p : (srtOf L m).toList.Perm (Array.ofFn (id : Fin (m + 1) → Fin (m + 1))).toList := by
      have e1 := ext_all (srtOf L m) (m + 1) (by omega)
      have e2 := ext_all (Array.ofFn (id : Fin (m + 1) → Fin (m + 1))) (m + 1) (by simp)
      rw [e1, e2] at h3
      exact h3
    have p2 := p.map (fun x => x.val)
    refine p2.trans (List.Perm.of_eq ?_)
    apply List.ext_getElem (by simp)
    intro k k1 k2
    simp only [List.getElem_map, Array.getElem_toList, Array.getElem_ofFn, List.getElem_range, id]
  · have := h4 i j (by omega) hij hj
    rw [cfR_lt L m hL, decide_eq_false_iff_not] at this
    have hi' : i < (srtOf L m).size := by omega
    have hj' : j < (srtOf L m).size := by omega
    rw [getElem!_pos _ i hi', getElem!_pos _ j hj'] at this
    simp only [List.getD_eq_getElem?_getD, List.getElem?_map, Array.getElem?_toList] at this ⊢
    simp only [Array.getElem?_eq_getElem hi', Array.getElem?_eq_getElem hj', Option.map_some, Option.getD_some]
    omega

/-- The indices by falling remainders, as numbers. -/
def ordOf (total : Int) (l : List Int) : List Nat := (srtOf (fillTo (rOf total l) l.length l.length) (l.length - 1)).toList.map fun x => x.val
/-- The parts. -/
def splitL (total : Int) (l : List Int) : List Int := incs (fillTo (qOf total l) l.length l.length) ((ordOf total l).take (tOf total l))
instance (total : Int) (l : List Int) : Decidable (goodW total l) := by unfold goodW; infer_instance
def share_Split.f (a0 : Int) (l0 : List Int) : Option (List Int × Int) := if goodW a0 l0 then some (splitL a0 l0, 0) else none
theorem rfill {total : Int} {l : List Int} (h : goodW total l) (i : Nat) : 0 ≤ (fillTo (rOf total l) l.length l.length).getD i 0 ∧ (fillTo (rOf total l) l.length l.length).getD i 0 ≤ 1125899906842624 := by
  have hq := qr_eq h i
  by_cases c : i < l.length
  · rw [fillTo_at _ _ _ _ c c]
    refine ⟨hq.2.2.1, ?_⟩
    rcases hq.2.2.2.1 with z | z
    · have : rOf total l i = 0 := by unfold rOf; rw [if_pos z]
      omega
    · have := h.2.2.2.2.2.1; omega
  · rw [List.getD_eq_getElem?_getD, List.getElem?_eq_none (by rw [fillTo_len]; omega)]; simp
theorem share_Split.calls (a0 : Int) (A1 : Option Addr) (c1 : Nat) (l1 : List Int) (r1 : List Int) (r2 : Int) (w : World) (hr1 : Kd.C (Kd.int .i64) w A1 l1.length l1) (hc1 : l1.length ≤ c1) (h : share_Split.f a0 l1 = some (r1, r2)) :
    Calls Try.prog 21 #[.int .i64 a0, .slice A1 l1.length c1] w fun e w' => ∃ v0_ : Value, e = .returned (.tuple #[v0_, .int .i64 r2]) ∧ Kd.R (Kd.int .i64) 3 w' w.heap.size (fun _ => True) v0_ r1 ∧ Below w.heap.size w w' := by
  unfold share_Split.f at h
  by_cases hg : goodW a0 l1
  case neg => rw [if_neg hg] at h; cases h
  rw [if_pos hg] at h
  cases h
  obtain ⟨t1, t2, _, _⟩ := tOf_eq hg
  refine split_walk a0 A1 c1 l1 w hr1 hc1 hg (qOf a0 l1) (rOf a0 l1) (tOf a0 l1) t1 t2 (ordOf a0 l1) (fun m hm => ?_) (fun m hm => ?_) (fun i _ => (qr_eq hg i).2.2.2.2.2)
  · exact (srt_facts _ m (rfill hg)).1
  · obtain rfl : m = l1.length - 1 := by omega
    rfl

theorem incs_at (js : List Nat) : ∀ (p : List Int) (B : Int), js.Nodup → (∀ j ∈ js, j < p.length) → (∀ i, 0 ≤ p.getD i 0 ∧ p.getD i 0 ≤ B) → B + js.length ≤ 4611686018427387904 → ∀ i, (incs p js).getD i 0 = p.getD i 0 + (if i ∈ js then 1 else 0) := by
  induction js with
  | nil => intro p B _ _ _ _ i; simp [incs]
  | cons j js ih =>
    intro p B hn hl hb hB i
    obtain ⟨hn1, hn2⟩ := List.nodup_cons.1 hn
    have hj := hl j (by simp)
    have hbj := hb j
    simp only [List.length_cons] at hB
    unfold incs
    rw [sw64 (by omega) (by omega)]
    have key : ∀ i, (p.set j (p.getD j 0 + 1)).getD i 0 = if i = j then p.getD j 0 + 1 else p.getD i 0 := by
      intro i
      by_cases c : i = j
      · subst c; rw [if_pos rfl]; simp [List.getD_eq_getElem?_getD, hj]
      · rw [if_neg c]; simp [List.getD_eq_getElem?_getD, List.getElem?_set, show ¬ j = i from fun e => c e.symm]
    rw [ih (p.set j (p.getD j 0 + 1)) (B + 1) hn2 (fun x hx => by rw [List.length_set]; exact hl x (by simp [hx])) (fun i => by rw [key]; have := hb i; split <;> omega) (by omega) i, key]
    by_cases c : i = j
    · subst c; rw [if_pos rfl, if_neg hn1, if_pos (by simp)]; omega
    · rw [if_neg c]
      by_cases d : i ∈ js
      · rw [if_pos d, if_pos (by simp [d])]
      · rw [if_neg d, if_neg (by simp [c, d])]

theorem set_sum : ∀ (p : List Int) (j : Nat) (x : Int), j < p.length → (p.set j x).sum = p.sum - p.getD j 0 + x
  | [], j, x, h => by simp at h
  | y :: p, 0, x, h => by simp only [List.set_cons_zero, List.sum_cons, List.getD_cons_zero]; omega
  | y :: p, j + 1, x, h => by
    have := set_sum p j x (by simpa using h)
    simp only [List.set_cons_succ, List.sum_cons, List.getD_cons_succ, this]; omega
theorem incs_sum (js : List Nat) : ∀ (p : List Int) (B : Int), (∀ j ∈ js, j < p.length) → (∀ i, 0 ≤ p.getD i 0 ∧ p.getD i 0 ≤ B) → B + js.length ≤ 4611686018427387904 → (incs p js).sum = p.sum + js.length := by
  induction js with
  | nil => intro p B _ _ _; simp [incs]
  | cons j js ih =>
    intro p B hl hb hB
    have hj := hl j (by simp)
    have hbj := hb j
    simp only [List.length_cons] at hB ⊢
    unfold incs
    rw [sw64 (by omega) (by omega)]
    have key : ∀ i, (p.set j (p.getD j 0 + 1)).getD i 0 = if i = j then p.getD j 0 + 1 else p.getD i 0 := by
      intro i
      by_cases c : i = j
      · subst c; rw [if_pos rfl]; simp [List.getD_eq_getElem?_getD, hj]
      · rw [if_neg c]; simp [List.getD_eq_getElem?_getD, List.getElem?_set, show ¬ j = i from fun e => c e.symm]
    rw [ih (p.set j (p.getD j 0 + 1)) (B + 1) (fun x hx => by rw [List.length_set]; exact hl x (by simp [hx])) (fun i => by rw [key]; have := hb i; split <;> omega) (by omega), set_sum p j _ hj]
    omega
theorem ord_perm {total : Int} {l : List Int} (h : goodW total l) : (ordOf total l).Perm (List.range l.length) := by
  have hn := h.2.2.1
  have := (srt_facts _ (l.length - 1) (rfill h)).2.1
  exact this.trans (List.Perm.of_eq (congrArg List.range (show l.length - 1 + 1 = l.length by omega)))
theorem ord_falls {total : Int} {l : List Int} (h : goodW total l) (i j : Nat) (hij : i < j) (hj : j < l.length) : rOf total l ((ordOf total l).getD j 0) ≤ rOf total l ((ordOf total l).getD i 0) := by
  have hn := h.2.2.1
  have := (srt_facts _ (l.length - 1) (rfill h)).2.2 i j hij (by omega)
  have hp := ord_perm h
  have hlen : (ordOf total l).length = l.length := by rw [hp.length_eq, List.length_range]
  have lt : ∀ k, k < l.length → (ordOf total l).getD k 0 < l.length := fun k hk => by
    have : (ordOf total l).getD k 0 ∈ ordOf total l := by rw [List.getD_eq_getElem?_getD, List.getElem?_eq_getElem (by omega)]; simp
    exact List.mem_range.1 (hp.mem_iff.1 this)
  have e : ∀ k, k < l.length → (fillTo (rOf total l) l.length l.length).getD ((ordOf total l).getD k 0) 0 = rOf total l ((ordOf total l).getD k 0) := fun k hk => fillTo_at _ _ _ _ (lt k hk) (lt k hk)
  rw [← e j hj, ← e i (by omega)]
  exact this
theorem qfill {total : Int} {l : List Int} (h : goodW total l) (i : Nat) : 0 ≤ (fillTo (qOf total l) l.length l.length).getD i 0 ∧ (fillTo (qOf total l) l.length l.length).getD i 0 ≤ 1125899906842624 := by
  have hq := qr_eq h i
  have := h.2.1
  by_cases c : i < l.length
  · rw [fillTo_at _ _ _ _ c c]; omega
  · rw [List.getD_eq_getElem?_getD, List.getElem?_eq_none (by rw [fillTo_len]; omega)]; simp
theorem take_lt {total : Int} {l : List Int} (h : goodW total l) : ∀ j ∈ (ordOf total l).take (tOf total l), j < l.length := fun j hj =>
  List.mem_range.1 ((ord_perm h).mem_iff.1 (List.mem_of_mem_take hj))
theorem split_len {total : Int} {l : List Int} : (splitL total l).length = l.length := by unfold splitL; rw [incs_len, fillTo_len]
theorem split_sum {total : Int} {l : List Int} (h : goodW total l) : (splitL total l).sum = total := by
  obtain ⟨_, t2, t3, _⟩ := tOf_eq h
  have hn := h.2.2.2.1
  have hlen : ((ordOf total l).take (tOf total l)).length = tOf total l := by rw [List.length_take, (ord_perm h).length_eq, List.length_range]; omega
  unfold splitL
  rw [incs_sum _ _ 1125899906842624 (fun j hj => by rw [fillTo_len]; exact take_lt h j hj) (qfill h) (by omega), hlen, fillTo_full, sumN_range]
  exact t3
theorem split_at {total : Int} {l : List Int} (h : goodW total l) (i : Nat) (hi : i < l.length) : (splitL total l).getD i 0 = qOf total l i + (if i ∈ (ordOf total l).take (tOf total l) then 1 else 0) := by
  have hn := h.2.2.2.1
  have t2 := (tOf_eq h).2.1
  have hnd : ((ordOf total l).take (tOf total l)).Nodup := ((ord_perm h).nodup_iff.2 List.nodup_range).sublist (List.take_sublist _ _)
  have hlen : ((ordOf total l).take (tOf total l)).length ≤ l.length := by rw [List.length_take]; omega
  unfold splitL
  rw [incs_at _ _ 1125899906842624 hnd (fun j hj => by rw [fillTo_len]; exact take_lt h j hj) (qfill h) (by omega) i, fillTo_at _ _ _ _ hi hi]
theorem split_nonneg {total : Int} {l : List Int} (h : goodW total l) (i : Nat) : 0 ≤ (splitL total l).getD i 0 := by
  by_cases c : i < l.length
  · rw [split_at h i c]; have := (qr_eq h i).1; split <;> omega
  · rw [List.getD_eq_getElem?_getD, List.getElem?_eq_none (by rw [split_len]; omega)]; simp

theorem perm_map_sum (f : Nat → Int) {a b : List Nat} (h : a.Perm b) : (a.map f).sum = (b.map f).sum := perm_sum (h.map f)
theorem sum_take_drop (l : List Int) (k : Nat) : l.sum = (l.take k).sum + (l.drop k).sum := by
  conv => lhs; rw [← List.take_append_drop k l]
  rw [List.sum_append]
theorem sum_le_all (B : Int) : ∀ l : List Int, (∀ x ∈ l, x ≤ B) → l.sum ≤ l.length * B
  | [], _ => by simp
  | x :: l, h => by
    have := sum_le_all B l (fun y hy => h y (by simp [hy])); have := h x (by simp)
    simp only [List.sum_cons, List.length_cons]
    rw [Int.natCast_add, Int.add_mul, Int.natCast_one, Int.one_mul]; omega
theorem split_le {total : Int} {l : List Int} (h : goodW total l) (ht : total ≤ l.sum) (i : Nat) (hi : i < l.length) : (splitL total l).getD i 0 ≤ l.getD i 0 := by
  rw [split_at h i hi]
  have hq := qr_eq h i
  have hw := good_at h i
  obtain ⟨h1, h2, h3, h4, h5, h6, h7⟩ := id h
  have hs := sum_nonneg l (fun x hx => (h5 x hx).1)
  generalize hW : l.getD i 0 = W at *
  by_cases c : l.sum = 0
  · -- nothing is given out
    have ht2 : tOf total l = 0 := by
      have := (tOf_eq h).2.2.1
      have hz : ∀ n, sumN (qOf total l) n = 0 := by
        intro n
        induction n with
        | zero => rfl
        | succ n ih => simp only [sumN, ih]; unfold qOf; rw [if_pos c]; omega
      have e0 := h7 c
      rw [hz] at this
      omega
    rw [ht2, List.take_zero, if_neg (by simp)]
    have : qOf total l i = 0 := by unfold qOf; rw [if_pos c]
    omega
  · have hc : 0 < l.sum := by omega
    have hr := hq.2.2.2.1
    have hle : total * W ≤ l.sum * W := Int.mul_le_mul_of_nonneg_right ht hw.1
    have hqW : qOf total l i ≤ W := by
      rcases Int.lt_or_le W (qOf total l i) with g | g
      · have := Int.mul_le_mul_of_nonneg_left (show W + 1 ≤ qOf total l i by omega) (Int.le_of_lt hc)
        rw [Int.mul_add, Int.mul_one] at this; omega
      · exact g
    by_cases d : i ∈ (ordOf total l).take (tOf total l)
    · rw [if_pos d]
      -- a place that is given one more has a remainder
      have hpos : 0 < rOf total l i := by
        rcases Int.lt_or_le 0 (rOf total l i) with g | g
        · exact g
        · exfalso
          have hp := ord_perm h
          have hlen : (ordOf total l).length = l.length := by rw [hp.length_eq, List.length_range]
          have htl := (tOf_eq h).2.1
          have hsum := (tOf_eq h).2.2.2
          obtain ⟨k, hk, hki⟩ := List.mem_iff_getElem.1 d
          rw [List.length_take, hlen] at hk
          rw [List.getElem_take] at hki
          have hki' : (ordOf total l).getD k 0 = i := by rw [List.getD_eq_getElem?_getD, List.getElem?_eq_getElem (by omega)]; simpa using hki
          rw [← sumN_range, ← perm_map_sum (rOf total l) hp, sum_take_drop ((ordOf total l).map (rOf total l)) k] at hsum
          have s1 := sum_le_all (l.sum - 1) (((ordOf total l).map (rOf total l)).take k) (fun x hx => by
            obtain ⟨y, _, rfl⟩ := List.mem_map.1 (List.mem_of_mem_take hx)
            have := (qr_eq h y).2.2.2.1; omega)
          have s2 := sum_le_all 0 (((ordOf total l).map (rOf total l)).drop k) (fun x hx => by
            obtain ⟨j, hj, rfl⟩ := List.mem_iff_getElem.1 hx
            rw [List.length_drop, List.length_map, hlen] at hj
            rw [List.getElem_drop, List.getElem_map]
            have e : (ordOf total l)[k + j] = (ordOf total l).getD (k + j) 0 := by rw [List.getD_eq_getElem?_getD, List.getElem?_eq_getElem (by omega)]; simp
            rw [e]
            by_cases j0 : j = 0
            · subst j0; rw [Nat.add_zero, hki']; exact g
            · have := ord_falls h k (k + j) (by omega) (by omega); rw [hki'] at this; omega)
          rw [List.length_take, List.length_map, hlen, Nat.min_eq_left (by omega)] at s1
          have m1 := Int.mul_le_mul_of_nonneg_left (show (k : Int) + 1 ≤ (tOf total l : Int) by omega) (Int.le_of_lt hc)
          rw [Int.mul_add, Int.mul_one] at m1
          rw [Int.mul_sub, Int.mul_one, Int.mul_comm] at s1
          omega
      rcases Int.lt_or_le (qOf total l i) W with g | g
      · omega
      · exfalso
        have : qOf total l i = W := by omega
        rw [this] at hq
        omega
    · rw [if_neg d]; omega
end Go.Proofs.Ytgbjlcaanagfnaa.P

namespace Go.Proofs.Ytgbjlcaanagfnaa.P
open Go.RowKit Go.Proofs.YtgbjlcaanagfnaaW.PrintWords Go.Proofs.YtgbjlcaanagfnaaW.PrintLast Go.Proofs.YtgbjlcaanagfnaaW.PrintMore
set_option linter.unusedVariables false
set_option linter.unusedSimpArgs false

def lvL (left plug : List Int) : Nat → List Int
 | 0 => left
 | i + 1 => (lvL left plug i).set i (wrap64 (rd (lvL left plug i) (i : Int) + rd plug (i : Int)))
def lvM (mis : Int) (plug : List Int) : Nat → Int
 | 0 => mis
 | i + 1 => wrap64 (lvM mis plug i - rd plug (i : Int))
theorem lvL_len (left plug : List Int) : ∀ i, (lvL left plug i).length = left.length
 | 0 => rfl
 | i + 1 => by simp [lvL, lvL_len left plug i]

/-- What the closure may change. -/
def lvS (g10 gl : Nat) (k : Nat) : Prop := k = g10 ∨ k = gl

theorem kept_set {w W : World} {S : Nat → Prop} (h : Kept w W S) {g : Nat} (hg : S g) (i : Nat) (v : Value) : Kept w (W.setCell ⟨g, i, none⟩ v) S :=
 ⟨by have := h.1; simpa using this, fun k hk hS => (Below.heap_setCell W ⟨g, i, none⟩ v k (fun e => hS (by rw [show k = g from e]; exact hg))).trans (h.2 k hk hS)⟩

set_option maxHeartbeats 1000000 in
set_option maxRecDepth 100000 in
theorem leave_calls (g10 g12 gl n cap : Nat) (left : List Int) (mis : Int) (A : Option Addr) (c : Nat) (plug : List Int) (w0 w : World) (hB : Below w0.heap.size w0 w) (k10 : w.heap[g10]? = some (.cells #[.int .i64 mis] 3 (0, 0))) (k12 : w.heap[g12]? = some (.cells #[.slice (some ⟨gl, 0, none⟩) n cap] 22 (0, 0)))
  (hl : Kd.R (Kd.int .i64) 3 w w0.heap.size (fun k => k = gl) (.slice (some ⟨gl, 0, none⟩) n cap) left) (hn : left.length = n) (hp : plug.length ≤ n) (hn2 : n ≤ 1000) (h10 : w0.heap.size ≤ g10) (hgl : w0.heap.size ≤ gl) (hne : gl ≠ g10)
  (hread : ∀ W, Kept w W (lvS g10 gl) → Kd.C (Kd.int .i64) W A plug.length plug) :
  Calls Try.prog 66 (#[.slice A plug.length c] ++ #[.pointer (some ⟨g12, 0, none⟩), .pointer (some ⟨g10, 0, none⟩)]) w fun e w' => e = .returned (.tuple #[]) ∧ Below w0.heap.size w0 w' ∧ Kept w w' (lvS g10 gl) ∧ w'.heap[g10]? = some (.cells #[.int .i64 (lvM mis plug plug.length)] 3 (0, 0)) ∧ Kd.R (Kd.int .i64) 3 w' w0.heap.size (fun k => k = gl) (.slice (some ⟨gl, 0, none⟩) n cap) (lvL left plug plug.length) := by
 have N12 := Aside0.mk (show g12 ≠ g10 ∧ g12 ≠ gl from ⟨blk_ne k12 k10 (by decide), fun e => by
  obtain ⟨cells, hc⟩ := Kd.R_typed hl gl rfl
  subst e
  rw [k12] at hc
  injection hc with hc
  injection hc with _ hc
  exact absurd hc (by decide)⟩)
 have HD := Aside0.mk hread
 have HN := Aside0.mk hn
 have HB := Aside0.mk hB
 have HL := Aside0.mk hl
 have K10 := Aside0.mk k10
 have K12 := Aside0.mk k12
 have HK := Aside0.mk (Kept.refl w (lvS g10 gl))
 clear hread hB hl k10 k12 hn
 go_enter Try.func66, Try.ntmps66
 go_wp2
 go_loopg [8] plug.length (fun kx s8 wr => ∃ (i : Nat), s8 = .int .i64 i ∧ i ≤ plug.length ∧ plug.length - i ≤ kx ∧ Aside0 (Below w0.heap.size w0 wr) ∧ Aside0 (Kept w wr (lvS g10 gl)) ∧ Aside0 (wr.heap[g10]? = some (.cells #[.int .i64 (lvM mis plug i)] 3 (0, 0))) ∧ Aside0 (Kd.R (Kd.int .i64) 3 wr w0.heap.size (fun k => k = gl) (.slice (some ⟨gl, 0, none⟩) n cap) (lvL left plug i)))
 case atStart => exact ⟨0, rfl, Nat.zero_le _, by omega, HB, HK, K10, HL⟩
 case round =>
  clear HB HK K10 HL
  obtain ⟨i, rfl, hi, hg, HB, HK, K10, HL⟩ := hrel
  by_cases hlt : i < plug.length
  ·obtain ⟨ad, ea, hx⟩ := Kd.at_int (HD.out wr HK.out) (i : Int) (by omega) (by omega)
   subst ea
   rw [Int.toNat_natCast] at hx
   have k12r := blk_kept K12.out HK.out (fun h => h.elim N12.out.1 N12.out.2)
   have c12 : wr.cell? ⟨g12, 0, none⟩ = some (.slice (some ⟨gl, 0, none⟩) n cap) := (blk_cell k12r 0).trans rfl
   have c10 : wr.cell? ⟨g10, 0, none⟩ = some (.int .i64 (lvM mis plug i)) := (blk_cell K10.out 0).trans rfl
   have hin : (i : Int) < (n : Int) := by omega
   obtain ⟨hxL, hfL⟩ := Kd.R_celln 0 HL.out (i : Int) (by omega) hin
   rw [Int.toNat_natCast] at hxL hfL
   replace hxL : wr.cell? ⟨gl, i, none⟩ = some (.int .i64 (rd (lvL left plug i) (i : Int))) := hxL
   have HPL := Aside0.mk (show Kd.R (Kd.int .i64) 3 (wr.setCell ⟨gl, i, none⟩ (.int .i64 (wrap64 (rd (lvL left plug i) (i : Int) + rd plug (i : Int))))) w0.heap.size (fun k => k = gl) (.slice (some ⟨gl, 0, none⟩) n cap) (lvL left plug (i + 1)) from Kd.R_putn HL.out (i : Int) _)
   have hlm : lvM mis plug (i + 1) = wrap64 (lvM mis plug i - rd plug (i : Int)) := rfl
   have HM := Aside0.mk hlm
   clear hlm
   generalize rd (lvL left plug i) (i : Int) = y at *
   generalize rd plug (i : Int) = x at *
   have p1 : (0 ≤ (i : Int)) = True := eq_true (by omega)
   have q1 : ((i : Int) < (plug.length : Int)) = True := eq_true (by omega)
   have q2 : ((i : Int) < (n : Int)) = True := eq_true hin
   have hw : IntKind.i64.wrap ((i : Int) + 1) = ((i + 1 : Nat) : Int) := by rw [IntKind.wrap_i64]; omega
   clear k12r hin
   go_wp2_with (first | ((with_reducible refine gate_store (t := 3) (p := 19) rfl ?_); refine store_event (t := 3) (p := 19) (v := ?vo_1) (w1 := (wr.setCell ⟨gl, i, none⟩ (.int .i64 (wrap64 (y + x))))) ?hg ?ho ?hn ?hr ?_; (case ho => rfl); (case hg => rfl); (case hn => rfl); (case hr => first | (go_simp; done) | (go_simp; rfl)); intro w5 hw5; have n0_ := Aside0.mk (show Kd.R (Kd.int .i64) 3 w5 w0.heap.size (fun k => k = gl) (.slice (some ⟨gl, 0, none⟩) n cap) (lvL left plug (i + 1)) from (by rw [hw5]; exact HPL.out)); have n1_ := Aside0.mk (show w5.heap[g10]? = some (.cells #[.int .i64 (lvM mis plug i)] 3 (0, 0)) from (by rw [hw5]; exact blk_far K10.out (Ne.symm hne) _)); have n2_ := Aside0.mk (show Below w0.heap.size w0 w5 from (by rw [hw5]; exact below_set HB.out hgl)); have n3_ := Aside0.mk (show Kept w w5 (lvS g10 gl) from (by rw [hw5]; exact kept_set HK.out (.inr rfl) i _)); clear HPL HL K10 HB HK hw5; have HL := n0_; have K10 := n1_; have HB := n2_; have HK := n3_; clear n0_ n1_ n2_ n3_; have c10 : w5.cell? ⟨g10, 0, none⟩ = some (.int .i64 (lvM mis plug i)) := (blk_cell K10.out 0).trans rfl; have f10 := blk_frozen K10.out 0) | ((with_reducible refine gate_store (t := 3) (p := 2) rfl ?_); refine store_event (t := 3) (p := 2) (v := ?vo_2) (w1 := (w5.setCell ⟨g10, 0, none⟩ (.int .i64 (wrap64 (lvM mis plug i - x))))) ?hg2 ?ho2 ?hn2 ?hr2 ?_; (case ho2 => rfl); (case hg2 => rfl); (case hn2 => rfl); (case hr2 => first | (go_simp; done) | (go_simp; rfl)); intro w6 hw6; have n0_ := Aside0.mk (show Kd.R (Kd.int .i64) 3 w6 w0.heap.size (fun k => k = gl) (.slice (some ⟨gl, 0, none⟩) n cap) (lvL left plug (i + 1)) from (by rw [hw6]; exact Kd.R_far (p := ⟨g10, 0, none⟩) HL.out (fun k hk => by subst hk; exact hne) _)); have n1_ := Aside0.mk (show w6.heap[g10]? = some (.cells #[.int .i64 (lvM mis plug (i + 1))] 3 (0, 0)) from (by rw [hw6, HM.out]; exact blk_put K10.out 0 _ rfl)); have n2_ := Aside0.mk (show Below w0.heap.size w0 w6 from (by rw [hw6]; exact below_set HB.out h10)); have n3_ := Aside0.mk (show Kept w w6 (lvS g10 gl) from (by rw [hw6]; exact kept_set HK.out (.inl rfl) 0 _)); clear HL K10 HB HK hw6; have HL := n0_; have K10 := n1_; have HB := n2_; have HK := n3_; clear n0_ n1_ n2_ n3_))
   go_roundg (plug.length - (i + 1))
   case measure => omega
   case rel => exact ⟨i + 1, by first | rfl | (rw [hw]; rfl) | simp, by omega, Nat.le_refl _, HB, HK, K10, HL⟩
  ·obtain rfl : i = plug.length := by omega
   go_wp2
   go_end0
   exact ⟨rfl, HB.out, HK.out, K10.out, HL.out⟩
end Go.Proofs.Ytgbjlcaanagfnaa.P
