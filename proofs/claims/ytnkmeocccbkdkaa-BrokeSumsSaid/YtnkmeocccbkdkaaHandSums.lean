/- broke.sums and broke.Sums: the sums of the masses of each kind; the walks. -/
import Derived.Test.YtnkmeocccbkdkaaBrokeSpec
import Derived.Deep.QuietTactic
import Derived.BigQuiet
import Derived.RegionTactic
import Derived.Deep.LoopGhost
import Derived.WalkKit
import Derived.Laws.Rows
import Derived.Laws.CopyOwn
namespace Go.Proofs.Ytnkmeocccbkdkaa.P
open Go.RowKit Go.Proofs.YtnkmeocccbkdkaaW.PrintWords Go.Proofs.YtnkmeocccbkdkaaW.PrintLast Go.Proofs.YtnkmeocccbkdkaaW.PrintMore
set_option linter.unusedVariables false
set_option linter.unusedSimpArgs false

def enc7 (l : List Int) : Array Value := (l.map (Value.int .i64)).toArray

theorem enc7_get (l : List Int) (j : Nat) (h : j < l.length) : (enc7 l)[j]? = some (.int .i64 (l.getD j 0)) := by
  unfold enc7
  rw [List.getElem?_toArray, List.getElem?_map, List.getElem?_eq_getElem h, List.getD_eq_getElem?_getD, List.getElem?_eq_getElem h]; rfl

theorem enc7_set (l : List Int) (j : Nat) (x : Int) : (enc7 l).setIfInBounds j (.int .i64 x) = enc7 (l.set j x) := by
  unfold enc7
  rw [List.setIfInBounds_toArray, List.map_set]

/-- What the array holds behind i movements. -/
def Oks (i : Nat) (acc : List Int) : Prop := acc.length = 7 ∧ ∀ j, 0 ≤ acc.getD j 0 ∧ acc.getD j 0 ≤ (i : Int) * 1099511627776

theorem oks_step {i : Nat} {acc : List Int} {x : S63} (h : Oks i acc) (hx : chk1 x = 0) : Oks (i + 1) (stepS acc x) := by
  have hb := (chk1_zero x).1 hx
  refine ⟨by rw [stepS_len]; exact h.1, fun j => ?_⟩
  have h1 := h.2 j
  have h2 := h.2 (x.f1 - 1).toNat
  unfold stepS
  rw [List.getD_eq_getElem?_getD, List.getElem?_set]
  split
  · split
    · simp only [Option.getD_some]; omega
    · simp only [Option.getD_none]; omega
  · rw [← List.getD_eq_getElem?_getD]; omega

theorem sums_new (w : World) (o : Obj) (t : TypeId) : ((w.alloc o).alloc (.cells (enc7 (List.replicate 7 0)) t)).heap[w.heap.size + 1]? = some (.cells (enc7 (List.replicate 7 0)) t (0, 0)) := by
  have h := blk_new (w.alloc o) (.cells (enc7 (List.replicate 7 0)) t)
  rwa [show (w.alloc o).heap.size = w.heap.size + 1 by simp] at h

theorem sums_old (w : World) (o : Obj) (t : TypeId) : ((w.alloc (.cells (enc7 (List.replicate 7 0)) t)).alloc o).heap[w.heap.size]? = some (.cells (enc7 (List.replicate 7 0)) t (0, 0)) := blk_below (blk_new w (.cells (enc7 (List.replicate 7 0)) t)) (below_alloc (Below.refl _ _) o)

theorem info7 : (Try.prog.info? 60).map (·.size) = some 7 := by kernel_rfl

set_option maxHeartbeats 1000000 in
set_option maxRecDepth 100000 in
theorem sums_walk (A0 : Option Addr) (c0 : Nat) (l0 : List S63) (w : World) (hr0 : Kd.C k63 w A0 l0.length l0) (hc0 : l0.length ≤ c0) (hv : ∀ x ∈ l0, chk1 x = 0) (hl : l0.length ≤ 512) :
    Calls Try.prog 28 #[.slice A0 l0.length c0] w fun e w' => e = .returned (.agg (enc7 (sumsF l0))) ∧ Below w.heap.size w w' := by
  have HR := Aside0.mk hr0
  have HV := Aside0.mk hv
  clear hr0 hv
  have hu := Try.underlying63
  generalize hSF : sumsF l0 = SF
  unfold sumsF at hSF
  have HSF := Aside0.mk hSF
  clear hSF
  go_enter Try.func28, Try.ntmps28
  go_wp2
  go_loopg [7] l0.length (fun kx s7 wr => ∃ (i : Nat) (acc : List Int), s7 = .int .i64 i ∧ i + kx = l0.length ∧ Aside0 (Below w.heap.size w wr) ∧ Aside0 (wr.heap[w.heap.size + 1]? = some (.cells (enc7 acc) 60 (0, 0))) ∧ Aside0 (wr.heap[w.heap.size]? = some (.cells (enc7 (List.replicate 7 0)) 60 (0, 0)))
    ∧ Aside0 (Oks i acc) ∧ Aside0 ((l0.drop i).foldl stepS acc = SF))
  case atStart => exact ⟨0, List.replicate 7 0, rfl, by omega, ⟨below_alloc (below_alloc (Below.refl _ _) _) _⟩, ⟨sums_new w _ _⟩, ⟨sums_old w _ _⟩, ⟨⟨rfl, fun j => by rw [List.getD_eq_getElem?_getD, List.getElem?_replicate]; split <;> simp⟩⟩, HSF⟩
  case round =>
    obtain ⟨i, acc, rfl, hik, HB, BK, BZ, OK, HF⟩ := hrel
    by_cases hlt : i < l0.length
    · obtain ⟨m, hm⟩ : ∃ m, m = rd_T63 l0 (i : Int) := ⟨_, rfl⟩
      have hm2 : m = l0[i] := by rw [hm]; exact rdT_get l0 i hlt
      have hx := HV.out m (by rw [hm2]; exact List.getElem_mem _)
      obtain ⟨x1, x2, x3, x4, x5, x6, x7, x8⟩ := (chk1_zero m).1 hx
      have hd : l0.drop i = m :: l0.drop (i + 1) := by rw [hm2]; exact List.drop_eq_getElem_cons hlt
      obtain ⟨ad, rfl, hx0, hx1, hx2, hx3⟩ := at_T63 (Kd.C_below HR.out HB.out) (i : Int) (by omega) (by omega)
      rw [← hm] at hx0 hx1 hx2 hx3
      rw [Int.toNat_natCast] at hx0 hx1 hx2 hx3
      have HX := Aside0.mk hx
      have HD := Aside0.mk hd
      clear hm hm2 hd hx hx0 hx3
      obtain ⟨j, hj⟩ := Int.eq_ofNat_of_zero_le (show 0 ≤ m.f1 - 1 by omega)
      have hj7 : j < 7 := by omega
      have hjn : (m.f1 - 1).toNat = j := by omega
      have HJ := Aside0.mk hjn
      have hw1 : wrap64 (m.f1 - 1) = (j : Int) := by unfold wrap64; omega
      have hw2 : IntKind.i64.wrap (m.f1 - 1) = (j : Int) := by rw [IntKind.wrap_i64]; omega
      obtain ⟨o1, o2⟩ := OK.out
      have oj := o2 j
      generalize hcv : acc.getD j 0 = v at oj
      have cell : wr.cell? ⟨w.heap.size + 1, j, none⟩ = some (.int .i64 v) := by rw [blk_cell BK.out, enc7_get acc j (by omega), hcv]
      have fro := blk_frozen BK.out j
      have HCV := Aside0.mk hcv
      have hw3 : wrap64 (v + m.f2) = v + m.f2 := by unfold wrap64; omega
      have hw4 : IntKind.i64.wrap (v + m.f2) = v + m.f2 := by rw [IntKind.wrap_i64]; omega
      clear hcv hjn o2
      have hSS : stepS acc m = acc.set j (v + m.f2) := by
        unfold stepS
        rw [HJ.out, HCV.out]
      have HSS := Aside0.mk hSS
      clear hSS
      go_wp2
      go_region
      all_goals go_wp2
      go_roundg (l0.length - (i + 1))
      case measure => omega
      case rel =>
        refine ⟨i + 1, stepS acc m, by rw [show ((i + 1 : Nat) : Int) = (i : Int) + 1 by omega], by omega, ⟨below_drew (below_set HB.out (show w.heap.size ≤ w.heap.size + 1 by omega))⟩, ⟨?_⟩, ⟨blk_drew (blk_far BZ.out (show w.heap.size ≠ w.heap.size + 1 by omega) _)⟩, ⟨oks_step OK.out HX.out⟩, ⟨?_⟩⟩
        · rw [HSS.out, ← enc7_set]
          exact blk_drew (blk_set BK.out j _)
        · have := HF.out
          rw [HD.out, List.foldl_cons] at this
          exact this
    · obtain rfl : i = l0.length := by omega
      have hF := HF.out
      rw [List.drop_length] at hF
      have hF2 : acc = SF := hF
      have hlen := OK.out.1
      obtain ⟨v0, v1, v2, v3, v4, v5, v6, h7⟩ : ∃ v0 v1 v2 v3 v4 v5 v6 : Int, acc = [v0, v1, v2, v3, v4, v5, v6] := by
        match acc, hlen with
        | [y0, y1, y2, y3, y4, y5, y6], _ => exact ⟨y0, y1, y2, y3, y4, y5, y6, rfl⟩
      subst h7
      have HF2 := Aside0.mk hF2
      clear hF hF2 HF hlen OK
      have z0 : wr.cell? ⟨w.heap.size, 0, none⟩ = some (.int .i64 0) := (blk_cell BZ.out 0).trans rfl
      have z1 : wr.cell? ⟨w.heap.size, 1, none⟩ = some (.int .i64 0) := (blk_cell BZ.out 1).trans rfl
      have z2 : wr.cell? ⟨w.heap.size, 2, none⟩ = some (.int .i64 0) := (blk_cell BZ.out 2).trans rfl
      have z3 : wr.cell? ⟨w.heap.size, 3, none⟩ = some (.int .i64 0) := (blk_cell BZ.out 3).trans rfl
      have z4 : wr.cell? ⟨w.heap.size, 4, none⟩ = some (.int .i64 0) := (blk_cell BZ.out 4).trans rfl
      have z5 : wr.cell? ⟨w.heap.size, 5, none⟩ = some (.int .i64 0) := (blk_cell BZ.out 5).trans rfl
      have z6 : wr.cell? ⟨w.heap.size, 6, none⟩ = some (.int .i64 0) := (blk_cell BZ.out 6).trans rfl
      have y0 := blk_frozen BZ.out 0
      have y1 := blk_frozen BZ.out 1
      have y2 := blk_frozen BZ.out 2
      have y3 := blk_frozen BZ.out 3
      have y4 := blk_frozen BZ.out 4
      have y5 := blk_frozen BZ.out 5
      have y6 := blk_frozen BZ.out 6
      have BK2 := Aside0.mk (show wr.heap[w.heap.size + 1]? = some (.cells #[.int .i64 v0, .int .i64 v1, .int .i64 v2, .int .i64 v3, .int .i64 v4, .int .i64 v5, .int .i64 v6] 60 (0, 0)) from BK.out)
      clear BK
      go_wp2_with (with_reducible refine wpList_load_row rfl _ _ rfl (w.heap.size + 1) rfl 60 _ (0, 0) _ BK2.out Try.underlying60 rfl (by kernel_rfl) ?_)
      have hW := blk_set (blk_set (blk_set (blk_set (blk_set (blk_set (blk_set BZ.out 0 (.int .i64 v0)) 1 (.int .i64 v1)) 2 (.int .i64 v2)) 3 (.int .i64 v3)) 4 (.int .i64 v4)) 5 (.int .i64 v5)) 6 (.int .i64 v6)
      have hcs : (((((((enc7 (List.replicate 7 0)).setIfInBounds 0 (.int .i64 v0)).setIfInBounds 1 (.int .i64 v1)).setIfInBounds 2 (.int .i64 v2)).setIfInBounds 3 (.int .i64 v3)).setIfInBounds 4 (.int .i64 v4)).setIfInBounds 5 (.int .i64 v5)).setIfInBounds 6 (.int .i64 v6) = enc7 SF := by rw [← HF2.out]; rfl
      rw [hcs] at hW
      refine bodyPost_ret (v := .agg (enc7 SF)) (results_cell_row Try.results28 _ _ w.heap.size 60 _ (0, 0) _ rfl hW Try.underlying60 rfl ?_) rfl ⟨rfl, ?_⟩
      · exact info7.trans (by rw [← HF2.out]; rfl)
      · have le := Nat.le_refl w.heap.size
        exact below_set (below_set (below_set (below_set (below_set (below_set (below_set HB.out le) le) le) le) le) le) le

set_option maxHeartbeats 1000000 in
set_option maxRecDepth 100000 in
theorem bsums_bad (A0 : Option Addr) (c0 : Nat) (l0 : List S63) (a1 r : Int) (w : World) (hr0 : Kd.C k63 w A0 l0.length l0) (hc0 : l0.length ≤ c0) (h : broke_Check.f 3000 l0 a1 = some r) (hr : r ≠ 0) :
    Calls Try.prog 9 #[.slice A0 l0.length c0, .int .i64 a1] w fun e w' => e = .returned (.tuple #[.slice none 0 0, .int .i64 r]) ∧ Below w.heap.size w w' := by
  have H := Aside0.mk h
  have HR := Aside0.mk hr0
  have hb0 : (r == 0) = false := beq_eq_false_iff_ne.mpr hr
  have hb1 : (r != 0) = true := bne_iff_ne.mpr hr
  clear h hr0 hr
  go_enter Try.func9, Try.ntmps9
  go_wp2_with (go_at_call 27; (with_reducible refine (broke_Check.calls 3000 A0 c0 l0 a1 r _ HR.out hc0 H.out).mono ?_); rintro e w' ⟨rfl, hb⟩)
  go_ret2
  exact ⟨rfl, hb⟩

theorem make7 (W : World) : (Instr.makeSlice 24 (.int .i64 7) (.int .i64 7)).run Try.prog W = .ok (.slice (some ⟨W.heap.size, 0, none⟩) 7 7) (W.alloc (.cells #[.int .i64 0, .int .i64 0, .int .i64 0, .int .i64 0, .int .i64 0, .int .i64 0, .int .i64 0] 3)) := by kernel_rfl

theorem two_blocks (W : World) (a b : Array Value) (ta tb : TypeId) : ((W.alloc (.cells a ta)).alloc (.cells b tb)).heap[W.heap.size]? = some (.cells a ta (0, 0)) ∧ ((W.alloc (.cells a ta)).alloc (.cells b tb)).heap[W.heap.size + 1]? = some (.cells b tb (0, 0)) :=
  ⟨blk_below (blk_new W (.cells a ta)) (below_alloc (Below.refl _ _) _), by
    have h := blk_new (W.alloc (.cells a ta)) (.cells b tb)
    rwa [show (W.alloc (.cells a ta)).heap.size = W.heap.size + 1 by simp] at h⟩

theorem src7 {W : World} {g : Nat} {t : TypeId} {cs : List Value} (h : W.heap[g]? = some (.cells cs.toArray t (0, 0))) (j : Nat) (v : Value) (hj : cs[j]? = some v) : W.cell? ((⟨g, 0, none⟩ : Addr).add j) = some v := by
  have h1 : (⟨g, 0, none⟩ : Addr).add j = ⟨g, j, none⟩ := by unfold Addr.add; split <;> simp_all
  rw [h1, blk_cell h, List.getElem?_toArray, hj]

theorem copy7 (W : World) (v0 v1 v2 v3 v4 v5 v6 : Int) : (Builtin.copy_ #[24, 24] 3 #[.slice (some ⟨W.heap.size + 1, 0, none⟩) 7 7, .slice (some ⟨W.heap.size, 0, none⟩) 7 7]).run Try.prog ((W.alloc (.cells #[.int .i64 v0, .int .i64 v1, .int .i64 v2, .int .i64 v3, .int .i64 v4, .int .i64 v5, .int .i64 v6] 60)).alloc (.cells #[.int .i64 0, .int .i64 0, .int .i64 0, .int .i64 0, .int .i64 0, .int .i64 0, .int .i64 0] 3)) =
    .ok (goInt 7) (((W.alloc (.cells #[.int .i64 v0, .int .i64 v1, .int .i64 v2, .int .i64 v3, .int .i64 v4, .int .i64 v5, .int .i64 v6] 60)).alloc (.cells #[.int .i64 0, .int .i64 0, .int .i64 0, .int .i64 0, .int .i64 0, .int .i64 0, .int .i64 0] 3)).setRow (W.heap.size + 1) #[.int .i64 v0, .int .i64 v1, .int .i64 v2, .int .i64 v3, .int .i64 v4, .int .i64 v5, .int .i64 v6]) :=
  run_copy_row (P := Try.prog) _ 24 24 3 3 (W.heap.size + 1) 0 7 7 ⟨W.heap.size, 0, none⟩ 7 7 _ 3 [.int .i64 v0, .int .i64 v1, .int .i64 v2, .int .i64 v3, .int .i64 v4, .int .i64 v5, .int .i64 v6] Try.underlying24 (by kernel_rfl) (two_blocks W _ _ _ _).2 rfl (src7 (two_blocks W _ _ _ _).1) (Nat.le_refl 7) (by simp [Value.oneCell'])

theorem row7 {w W : World} (hb : Below w.heap.size w W) (v0 v1 v2 v3 v4 v5 v6 : Int) :
    (((W.alloc (.cells #[.int .i64 v0, .int .i64 v1, .int .i64 v2, .int .i64 v3, .int .i64 v4, .int .i64 v5, .int .i64 v6] 60)).alloc (.cells #[.int .i64 0, .int .i64 0, .int .i64 0, .int .i64 0, .int .i64 0, .int .i64 0, .int .i64 0] 3)).setRow (W.heap.size + 1) #[.int .i64 v0, .int .i64 v1, .int .i64 v2, .int .i64 v3, .int .i64 v4, .int .i64 v5, .int .i64 v6]).heap[W.heap.size + 1]? = some (.cells #[.int .i64 v0, .int .i64 v1, .int .i64 v2, .int .i64 v3, .int .i64 v4, .int .i64 v5, .int .i64 v6] 3 (0, 0)) ∧
    Below w.heap.size w (((W.alloc (.cells #[.int .i64 v0, .int .i64 v1, .int .i64 v2, .int .i64 v3, .int .i64 v4, .int .i64 v5, .int .i64 v6] 60)).alloc (.cells #[.int .i64 0, .int .i64 0, .int .i64 0, .int .i64 0, .int .i64 0, .int .i64 0, .int .i64 0] 3)).setRow (W.heap.size + 1) #[.int .i64 v0, .int .i64 v1, .int .i64 v2, .int .i64 v3, .int .i64 v4, .int .i64 v5, .int .i64 v6]) :=
  ⟨setRow_heap _ (W.heap.size + 1) _ _ 3 _ (two_blocks W _ _ _ _).2, below_setRow (below_alloc (below_alloc hb _) _) (Nat.le_trans hb.size (Nat.le_succ _)) _⟩

theorem own7 {W : World} {base g : Nat} {xs : List Value} (h : W.heap[g]? = some (.cells xs.toArray 3 (0, 0))) (hl : xs.length = 7) (hg : base ≤ g) : W.ownsRow base 3 1 (.slice (some ⟨g, 0, none⟩) 7 7) 7 xs :=
  ⟨hl, .inr ⟨g, 7, xs.toArray, rfl, hg, h, Nat.le_refl _, by unfold maxLen; omega, by simpa using hl, by simpa using List.take_of_length_le (by omega)⟩⟩

set_option maxHeartbeats 1000000 in
set_option maxRecDepth 100000 in
theorem bsums_good (A0 : Option Addr) (c0 : Nat) (l0 : List S63) (a1 : Int) (w : World) (hr0 : Kd.C k63 w A0 l0.length l0) (hc0 : l0.length ≤ c0) (h : broke_Check.f 3000 l0 a1 = some 0) (hv : ∀ x ∈ l0, chk1 x = 0) (hl : l0.length ≤ 512) :
    Calls Try.prog 9 #[.slice A0 l0.length c0, .int .i64 a1] w fun e w' => ∃ v0_ : Value, e = .returned (.tuple #[v0_, .int .i64 0]) ∧ Kd.R (Kd.int .i64) 3 w' w.heap.size (fun _ => True) v0_ (sumsF l0) ∧ Below w.heap.size w w' := by
  have H := Aside0.mk h
  have HR := Aside0.mk hr0
  have hS := fun (W : World) (hb : Below w.heap.size w W) => sums_walk A0 c0 l0 W (Kd.C_below hr0 hb) hc0 hv hl
  have hlen := sumsF_len l0
  clear h hr0 hv
  generalize sumsF l0 = SF at *
  obtain ⟨v0, v1, v2, v3, v4, v5, v6, h7⟩ : ∃ v0 v1 v2 v3 v4 v5 v6 : Int, SF = [v0, v1, v2, v3, v4, v5, v6] := by
    match SF, hlen with
    | [y0, y1, y2, y3, y4, y5, y6], _ => exact ⟨y0, y1, y2, y3, y4, y5, y6, rfl⟩
  subst h7
  have hS2 : ∀ W : World, Below w.heap.size w W → Calls Try.prog 28 #[.slice A0 l0.length c0] W fun e w' => e = .returned (.agg #[.int .i64 v0, .int .i64 v1, .int .i64 v2, .int .i64 v3, .int .i64 v4, .int .i64 v5, .int .i64 v6]) ∧ Below W.heap.size W w' := hS
  have HS := Aside0.mk hS2
  clear hS hS2 hlen
  have hmk := make7
  go_enter Try.func9, Try.ntmps9
  go_wp2_with (first
    | (go_at_call 27; (with_reducible refine (broke_Check.calls 3000 A0 c0 l0 a1 0 _ HR.out hc0 H.out).mono ?_); rintro e w1 ⟨rfl, hb⟩; have HB1 := Aside0.mk hb; clear hb)
    | (go_at_call 28; (with_reducible refine (HS.out _ HB1.out).mono ?_); rintro e w2 ⟨rfl, hb⟩; have HB2 := Aside0.mk (below_step HB1.out hb); clear hb))
  rw [copy7 w2 v0 v1 v2 v3 v4 v5 v6]
  obtain ⟨hg3, hb3⟩ := row7 HB2.out v0 v1 v2 v3 v4 v5 v6
  have HG3 := Aside0.mk hg3
  have HB3 := Aside0.mk hb3
  clear hg3 hb3
  generalize (World.setRow _ (w2.heap.size + 1) _) = w3 at HG3 HB3 ⊢
  go_wp2
  go_ret2
  exact ⟨_, rfl, Kd.R_of_own (own7 (xs := [.int .i64 v0, .int .i64 v1, .int .i64 v2, .int .i64 v3, .int .i64 v4, .int .i64 v5, .int .i64 v6]) HG3.out rfl (Nat.le_trans HB2.out.size (Nat.le_succ _))) (fun _ _ => trivial), HB3.out⟩

/-- What Sums answers. -/
def broke_Sums.f (l0 : List S63) (a1 : Int) : Option (List Int × Int) := some (if chk l0 a1 = 0 then (sumsF l0, 0) else ([], chk l0 a1))

theorem broke_Sums.calls (A0 : Option Addr) (c0 : Nat) (l0 : List S63) (a1 : Int) (r1 : List Int) (r2 : Int) (w : World) (hr0 : Kd.C k63 w A0 l0.length l0) (hc0 : l0.length ≤ c0) (h : broke_Sums.f l0 a1 = some (r1, r2)) :
    Calls Try.prog 9 #[.slice A0 l0.length c0, .int .i64 a1] w fun e w' => ∃ v0_ : Value, e = .returned (.tuple #[v0_, .int .i64 r2]) ∧ Kd.R (Kd.int .i64) 3 w' w.heap.size (fun _ => True) v0_ r1 ∧ Below w.heap.size w w' := by
  have hc := check_eq l0 a1 3000 (by omega)
  unfold broke_Sums.f at h
  injection h with h
  by_cases hz : chk l0 a1 = 0
  · rw [if_pos hz] at h
    rw [hz] at hc
    cases h
    obtain ⟨_, _, hl, hv, _⟩ := chk_zero l0 a1 hz
    exact bsums_good A0 c0 l0 a1 w hr0 hc0 hc hv hl
  · rw [if_neg hz] at h
    cases h
    refine (bsums_bad A0 c0 l0 a1 _ w hr0 hc0 hc hz).mono fun e w' hh => ?_
    exact ⟨_, hh.1, Kd.R_nil _ _ _ _ _, hh.2⟩
end Go.Proofs.Ytnkmeocccbkdkaa.P
