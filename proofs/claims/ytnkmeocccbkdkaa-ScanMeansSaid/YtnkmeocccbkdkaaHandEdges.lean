/- sort.Search over a closure that may lay memory: the least place at which it says yes, if it stays at yes. scan.Edges: where the boxes begin, by sort.Search over closures in a loop. -/
import Derived.Test.YtnkmeocccbkdkaaPx0
import Derived.Test.YtnkmeocccbkdkaaBits
import Derived.WalkKit
import Derived.Deep.LoopGhost
import Derived.Test.YtnkmeocccbkdkaaScanSpec0
import Derived.Deep.QuietTactic
import Derived.BigQuiet
import Derived.Shelf.Abstract
namespace Go.Proofs.Ytnkmeocccbkdkaa.P
open Go.RowKit Go.Proofs.YtnkmeocccbkdkaaW.PrintWords Go.Proofs.YtnkmeocccbkdkaaW.PrintLast Go.Proofs.YtnkmeocccbkdkaaW.PrintMore Go.Proofs.Ytnkmeocccbkdkaa.First
set_option linter.unusedVariables false

set_option maxHeartbeats 4000000 in
set_option maxRecDepth 100000 in
theorem sort_Search_calls (g : Nat) (cb : Array Value) (n : Nat) (p : Nat → Bool) (w : World) (eg : ∀ args w, (callFunc g args).run Try.prog w = .ok (.enter g args) w) (hsz : n < 4611686018427387904)
    (hf : ∀ (W : World) (i : Nat), Below w.heap.size w W → i < n → Calls Try.prog g (#[.int .i64 i] ++ cb) W fun e w' => e = .returned (.bool (p i)) ∧ Below W.heap.size W w')
    (hmono : ∀ a b, a ≤ b → b < n → p a = true → p b = true) :
    Calls Try.prog 43 #[.int .i64 n, .func (.func g) #[] cb] w fun e w' => e = .returned (.int .i64 (first p n : Nat)) ∧ Below w.heap.size w w' := by
  have HF := Aside0.mk hf
  have M := Aside0.mk hmono
  clear hf hmono
  generalize hcnt : first p n = cnt
  have CN := Aside0.mk hcnt
  clear hcnt
  go_enter Try.func43, Try.ntmps43
  go_wp2
  go_loopg [5, 6] n (fun kx s5 s6 wr => ∃ (lo hi : Nat), s5 = .int .i64 lo ∧ s6 = .int .i64 hi ∧ lo ≤ hi ∧ hi ≤ n ∧ hi - lo ≤ kx ∧ Aside0 (Below w.heap.size w wr) ∧
    Aside0 ((∀ t, t < lo → p t = false) ∧ (∀ t, hi ≤ t → t < n → p t = true)))
  case atStart => exact ⟨0, n, rfl, rfl, Nat.zero_le _, Nat.le_refl _, by omega, ⟨Below.refl _ _⟩, ⟨fun t ht => absurd ht (Nat.not_lt_zero _), fun t h1 h2 => by omega⟩⟩
  case round =>
    obtain ⟨lo, hi, rfl, rfl, hlh, hin, hg, HB, I⟩ := hrel
    by_cases hlt : lo < hi
    · have hc := HF.out wr ((lo + hi) / 2) HB.out (by omega)
      rw [show (((lo + hi) / 2 : Nat) : Int) = ((lo : Int) + (hi : Int)) / 2 by omega] at hc
      cases hp : p ((lo + hi) / 2) <;> rw [hp] at hc
      · have HP := Aside0.mk hp
        clear hp
        go_wp2_with fail
        refine hc.mono ?_
        rintro e w' ⟨rfl, hb⟩
        clear hc eg
        go_wp2
        go_roundg (hi - ((lo + hi) / 2 + 1))
        case measure => omega
        case rel =>
          have I2 : Aside0 ((∀ t, t < (lo + hi) / 2 + 1 → p t = false) ∧ (∀ t, hi ≤ t → t < n → p t = true)) := ⟨fun t ht => (by
            cases h : p t with
            | false => rfl
            | true => have := M.out t ((lo + hi) / 2) (by omega) (by omega) h; rw [HP.out] at this; cases this), I.out.2⟩
          exact ⟨(lo + hi) / 2 + 1, hi, by rw [show ((lo : Int) + (hi : Int)) / 2 + 1 = (((lo + hi) / 2 + 1 : Nat) : Int) by omega], rfl, by omega, hin, Nat.le_refl _, ⟨below_then HB.out HB.out.size hb⟩, I2⟩
      · have HP := Aside0.mk hp
        clear hp
        go_wp2_with fail
        refine hc.mono ?_
        rintro e w' ⟨rfl, hb⟩
        clear hc eg
        go_wp2
        go_roundg ((lo + hi) / 2 - lo)
        case measure => omega
        case rel =>
          have I2 : Aside0 ((∀ t, t < lo → p t = false) ∧ (∀ t, (lo + hi) / 2 ≤ t → t < n → p t = true)) := ⟨I.out.1, fun t ht htn => M.out ((lo + hi) / 2) t ht htn HP.out⟩
          exact ⟨lo, (lo + hi) / 2, rfl, by rw [show ((lo : Int) + (hi : Int)) / 2 = (((lo + hi) / 2 : Nat) : Int) by omega], by omega, by omega, Nat.le_refl _, ⟨below_then HB.out HB.out.size hb⟩, I2⟩
    · obtain rfl : hi = lo := by omega
      have ecnt : cnt = hi := by
        rw [← CN.out]
        exact first_unique p n hi hin I.out.1 (fun hr => I.out.2 hi (Nat.le_refl _) hr)
      subst ecnt
      go_wp2
      go_ret
      exact ⟨rfl, HB.out⟩
end Go.Proofs.Ytnkmeocccbkdkaa.P

namespace Go.Proofs.Ytnkmeocccbkdkaa.P
open Go.RowKit Go.Proofs.YtnkmeocccbkdkaaW.PrintWords Go.Proofs.YtnkmeocccbkdkaaW.PrintLast Go.Proofs.YtnkmeocccbkdkaaW.PrintMore Go.Proofs.Ytnkmeocccbkdkaa.First
set_option linter.unusedVariables false
set_option linter.unusedSimpArgs false

/-- The least place of box k, or the width. -/
def edgeAt (wd bx : Int) (k : Int) : Nat := first (fun x => decide (k * wd ≤ (x : Int) * bx)) wd.toNat

/-- Where the boxes begin, and the width. -/
def edgesSpec (wd bx : Int) : List Int := (List.range (bx.toNat + 1)).map fun (k : Nat) => ((edgeAt wd bx (k : Int) : Nat) : Int)

set_option maxHeartbeats 2000000 in
set_option maxRecDepth 100000 in
theorem edges_inner (wd bx k : Int) (x : Nat) (bs bk : Nat) (W : World) (h1 : 0 ≤ wd) (h2 : wd ≤ 12000) (h3 : 0 ≤ bx) (h4 : bx ≤ 64) (h5 : 0 ≤ k) (h6 : k ≤ 64) (h7 : x ≤ 12000)
    (c1 : W.cell? ⟨bs, 0, none⟩ = some (.int .i64 wd)) (c2 : W.cell? ⟨bs, 1, none⟩ = some (.int .i64 bx)) (c3 : W.cell? ⟨bk, 0, none⟩ = some (.int .i64 k)) :
    Calls Try.prog 44 (#[.int .i64 x] ++ #[.pointer (some ⟨bs, 0, none⟩), .pointer (some ⟨bk, 0, none⟩)]) W fun e w' => e = .returned (.bool (decide (k * wd ≤ (x : Int) * bx))) ∧ Below W.heap.size W w' := by
  have b1 : 0 ≤ k * wd ∧ k * wd ≤ 768000 := ⟨Int.mul_nonneg h5 h1, Int.le_trans (Int.mul_le_mul_of_nonneg_right h6 h1) (by omega)⟩
  have b2 : 0 ≤ (x : Int) * bx ∧ (x : Int) * bx ≤ 768000 := ⟨Int.mul_nonneg (by omega) h3, Int.le_trans (Int.mul_le_mul_of_nonneg_right (show (x : Int) ≤ 12000 by omega) h3) (by omega)⟩
  have e1 : IntKind.i64.wrap (k * wd) = k * wd := by rw [IntKind.wrap_i64]; omega
  have e2 : IntKind.i64.wrap ((x : Int) * bx) = (x : Int) * bx := by rw [IntKind.wrap_i64]; omega
  have e3 : wrap64 (k * wd) = k * wd := by unfold wrap64; omega
  have e4 : wrap64 ((x : Int) * bx) = (x : Int) * bx := by unfold wrap64; omega
  go_enter Try.func44, Try.ntmps44
  go_wp2
  go_ret
  exact ⟨by first | rfl | simp, by repeat (first | exact Below.refl _ _ | apply below_alloc | apply pw_below_drewN)⟩

theorem snew (w : World) (v : Value) (t : TypeId) : (w.alloc (.cells #[v] t)).cell? ⟨w.heap.size, 0, none⟩ = some v := by
  rw [World.cell?_alloc_at _ _ _ _ (by simp)]; rfl
theorem scells {w : World} {o : Obj} {a : Addr} {v : Value} (h : w.cell? a = some v) : (w.alloc o).cell? a = some v := pw_cell_below (below_alloc (Below.refl _ _) o) h

set_option maxHeartbeats 2000000 in
set_option maxRecDepth 100000 in
theorem edges_begin (wd bx k : Int) (bs : Nat) (W : World) (h1 : 0 ≤ wd) (h2 : wd ≤ 12000) (h3 : 0 ≤ bx) (h4 : bx ≤ 64) (h5 : 0 ≤ k) (h6 : k ≤ 64)
    (c1 : W.cell? ⟨bs, 0, none⟩ = some (.int .i64 wd)) (c2 : W.cell? ⟨bs, 1, none⟩ = some (.int .i64 bx)) :
    Calls Try.prog 42 (#[.int .i64 k] ++ #[.pointer (some ⟨bs, 0, none⟩)]) W fun e w' => e = .returned (.int .i64 (edgeAt wd bx k : Nat)) ∧ Below W.heap.size W w' := by
  have eg : ∀ args w, (callFunc 44 args).run Try.prog w = .ok (.enter 44 args) w := Go.Proofs.enters_of Try.func44 (by kernel_rfl) rfl
  obtain ⟨N, rfl⟩ := Int.eq_ofNat_of_zero_le h1
  have hS := fun (W' : World) (c1 : W'.cell? ⟨bs, 0, none⟩ = some (.int .i64 N)) (c2 : W'.cell? ⟨bs, 1, none⟩ = some (.int .i64 bx)) (c3 : W'.cell? ⟨W.heap.size, 0, none⟩ = some (.int .i64 k)) =>
    sort_Search_calls 44 #[.pointer (some ⟨bs, 0, none⟩), .pointer (some ⟨W.heap.size, 0, none⟩)] N (fun x => decide (k * (N : Int) ≤ (x : Int) * bx)) W' eg (by omega)
      (fun W'' i hb hi => edges_inner N bx k i _ _ W'' (by omega) h2 h3 h4 h5 h6 (by omega) (pw_cell_below hb c1) (pw_cell_below hb c2) (pw_cell_below hb c3))
      (fun x y hxy hy hx => decide_eq_true (Int.le_trans (of_decide_eq_true hx) (Int.mul_le_mul_of_nonneg_right (by omega) h3)))
  have HS := Aside0.mk hS
  clear hS eg
  have hN : edgeAt (N : Int) bx k = first (fun x => decide (k * (N : Int) ≤ (x : Int) * bx)) N := rfl
  rw [hN]
  clear hN
  generalize hm : first (fun x => decide (k * (N : Int) ≤ (x : Int) * bx)) N = m at HS ⊢
  clear hm
  have hbs : bs < W.heap.size := World.block_lt_of_cell? W _ c1
  go_enter Try.func42, Try.ntmps42
  go_wp2_with fail
  refine (HS.out _ ?c1 ?c2 ?c3).mono ?_
  case c1 => exact pw_cell_below (by repeat (first | exact Below.refl _ _ | apply below_alloc | apply pw_below_drewN)) c1
  case c2 => exact pw_cell_below (by repeat (first | exact Below.refl _ _ | apply below_alloc | apply pw_below_drewN)) c2
  case c3 => first | exact snew _ _ _ | (go_simp; done)
  rintro e w5 ⟨rfl, hb⟩
  have HBB := Aside0.mk (below_then (B := W.heap.size) (w := W) (by repeat (first | exact Below.refl _ _ | apply below_alloc | apply pw_below_drewN)) (by first | (go_simp; done) | (go_simp; omega)) hb)
  clear hb HS
  go_wp2
  go_ret
  exact ⟨rfl, HBB.out⟩

/-- The row of numbers that the call has made. -/
def Nums (W : World) (base : Nat) (v : Value) (l : List Int) : Prop := Kd.R (Kd.int .i64) 3 W base (fun _ => True) v l

theorem seat_set (l : List Int) (f : Nat → Int) (n i : Nat) (h : l = (List.range i).map f ++ List.replicate (n - i) 0) (hi : i < n) : l.set i (f i) = (List.range (i + 1)).map f ++ List.replicate (n - (i + 1)) 0 := by
  subst h
  have e : n - i = (n - (i + 1)) + 1 := by omega
  rw [e, List.replicate_succ, List.set_append_right _ _ (by simp), List.range_succ, List.map_append]
  simp

set_option maxHeartbeats 4000000 in
set_option maxRecDepth 100000 in
theorem edges_bad (a0 a1 a2 : Int) (w : World) (h : scan_Check.f a0 a1 a2 = some 1) :
    Calls Try.prog 22 #[.agg #[.int .i64 a0, .int .i64 a1, .int .i64 a2]] w fun e w' => e = .returned (.tuple #[.slice none 0 0, .int .i64 1]) ∧ Below w.heap.size w w' := by
  have H := Aside0.mk h
  clear h
  have hu := Try.underlying45
  go_enter Try.func22, Try.ntmps22
  go_wp2_with (go_at_call 41; (with_reducible refine (scan_Check.calls a0 a1 a2 1 _ H.out).mono ?_); rintro e w' ⟨rfl, hb⟩)
  go_ret2
  exact ⟨rfl, below_then (below_alloc (Below.refl _ _) _) (by first | (go_simp; done) | (go_simp; omega)) hb⟩

theorem scell3 (w : World) (a b c : Value) (t : TypeId) (i : Nat) (v : Value) (h : (#[a, b, c] : Array Value)[i]? = some v) : (w.alloc (.cells #[a, b, c] t)).cell? ⟨w.heap.size, i, none⟩ = some v := by
  rw [World.cell?_alloc_at _ _ _ _ rfl]; exact h

theorem edges_row {w w' w1 : World} {v1 : Value} {n : Nat} (ho : (Kd.int .i64).R 3 w1 w'.heap.size (fun _ => True) v1 (List.replicate n 0)) (hn : 0 < n) (hw : w.heap.size ≤ w'.heap.size) :
    ∃ g cap, v1 = .slice (some ⟨g, 0, none⟩) n cap ∧ w'.heap.size ≤ g ∧ w1.ownsRow w.heap.size 3 1 (.slice (some ⟨g, 0, none⟩) n cap) n (encs (.int .i64) (List.replicate n (0 : Int))) := by
  obtain ⟨g, cap, e1, hge, hglt, cells, hcells⟩ := Kd.R_form ho (by simpa using hn)
  subst e1
  have h := own_less (base := w.heap.size) (Kd.own_of_R ho) hw
  rw [List.length_replicate] at h
  exact ⟨g, cap, by rw [List.length_replicate], hge, h⟩

def enc64 (l : List Int) : List Value := encs (Value.int .i64) l

set_option maxHeartbeats 4000000 in
set_option maxRecDepth 100000 in
theorem edges_good (a0 a1 a2 : Int) (w : World) (h : scan_Check.f a0 a1 a2 = some 0) (h0 : 2 ≤ a0) (h1 : a0 ≤ 12000) (h2 : 1 ≤ a1) (h3 : a1 ≤ 64) :
    Calls Try.prog 22 #[.agg #[.int .i64 a0, .int .i64 a1, .int .i64 a2]] w fun e w' => ∃ v0_ : Value, e = .returned (.tuple #[v0_, .int .i64 0]) ∧ Kd.R (Kd.int .i64) 3 w' w.heap.size (fun _ => True) v0_ (edgesSpec a0 a1) ∧ Below w.heap.size w w' := by
  have H := Aside0.mk h
  clear h
  obtain ⟨B, rfl⟩ := Int.eq_ofNat_of_zero_le (show 0 ≤ a1 by omega)
  have hu := Try.underlying45
  have wB : wrap64 ((B : Int) + 1) = (B : Int) + 1 := by unfold wrap64; omega
  have wB2 : IntKind.i64.wrap ((B : Int) + 1) = (B : Int) + 1 := by rw [IntKind.wrap_i64]; omega
  go_enter Try.func22, Try.ntmps22
  go_wp2_with (first
    | (go_at_call 41; (with_reducible refine (scan_Check.calls a0 B a2 0 _ H.out).mono ?_); rintro e w' ⟨rfl, hb⟩
       have BK := Aside0.mk (blk_below (g := w.heap.size) (o := .cells #[.int .i64 a0, .int .i64 (B : Int), .int .i64 a2] 45 (0, 0)) (blk_new w _) hb)
       have cz0 : w'.cell? ⟨w.heap.size, 0, none⟩ = some (.int .i64 a0) := pw_cell_below hb (scell3 w _ _ _ _ 0 _ rfl)
       have cz1 : w'.cell? ⟨w.heap.size, 1, none⟩ = some (.int .i64 B) := pw_cell_below hb (scell3 w _ _ _ _ 1 _ rfl)
       have HB := Aside0.mk (below_then (B := w.heap.size) (below_alloc (Below.refl w.heap.size w) _) (by first | (go_simp; done) | (go_simp; omega)) hb)
       clear hb)
    | ((with_reducible refine gate_dst (N := 17) rfl ?_); refine Kd.R_make (Kd.int .i64) _ 3 rfl (N := 17) rfl 24 _ _ rfl ((B : Int) + 1) (by first | rfl | rw [wB] | rw [wB2]) (by first | rfl | rw [wB] | rw [wB2]) Try.underlying24 (.int .i64 0) 8 info3 rfl (by decide) (by omega) 0 (ok := fun _ => True) (okp := fun _ => True) rfl (fun _ hk => hk) trivial (by omega) (by omega) (Below.refl _ _) (Nat.le_refl _) ?_
       intro v1 w1 ho hbm hg_ hnew_
       rw [show ((B : Int) + 1).toNat = B + 1 by omega] at ho
       obtain ⟨g, cap, e1, hge, how⟩ := edges_row (w := w) ho (by omega) HB.out.size
       subst e1
       have OW := Aside0.mk how
       have hgw : w.heap.size < g := Nat.lt_of_lt_of_le (blk_lt BK.out) hge
       have BK1 := Aside0.mk (blk_below BK.out hbm)
       have HB1 := Aside0.mk (below_step HB.out hbm)
       clear BK HB cz0 cz1 how hbm hg_ hnew_ ho hge))
  go_loopg [20] (B + 1) (fun kx s20 wr => ∃ (i : Nat), s20 = .int .i64 i ∧ i + kx = B + 1 ∧ Aside0 (Below w.heap.size w wr) ∧ Aside0 (wr.heap[w.heap.size]? = some (.cells #[.int .i64 a0, .int .i64 (B : Int), .int .i64 a2] 45 (0, 0)))
    ∧ Aside0 (wr.ownsRow w.heap.size 3 1 (.slice (some ⟨g, 0, none⟩) (B + 1) cap) (B + 1) (encs (.int .i64) ((List.range i).map (fun (j : Nat) => ((edgeAt a0 B (j : Int) : Nat) : Int)) ++ List.replicate (B + 1 - i) 0))))
  case atStart => exact ⟨0, rfl, by omega, HB1, BK1, ⟨by simpa using OW.out⟩⟩
  case round =>
    clear OW BK1 HB1
    obtain ⟨i, rfl, hik, HB, BK, OW⟩ := hrel
    by_cases hlt : i < B + 1
    · have hE := edges_begin a0 B i w.heap.size wr (by omega) h1 (by omega) h3 (by omega) (by omega) ((blk_cell BK.out 0).trans rfl) ((blk_cell BK.out 1).trans rfl)
      have eg : ∀ args w, (callFunc 42 args).run Try.prog w = .ok (.enter 42 args) w := Go.Proofs.enters_of Try.func42 (by kernel_rfl) rfl
      generalize hm : edgeAt a0 B i = m at hE
      have HM := Aside0.mk hm
      clear hm
      go_wp2_with fail
      refine hE.mono ?_
      rintro e w5 ⟨rfl, hb⟩
      clear hE eg
      have OW5 := Aside0.mk (pw_own_below OW.out hb)
      have BK5 := Aside0.mk (blk_below BK.out hb)
      have HB5 := Aside0.mk (below_step HB.out hb)
      clear hb OW BK HB
      obtain ⟨hx1, hx2⟩ := own_at_of (d := (0 : Int)) OW5.out (i : Int) (by omega) (by omega)
      rw [Int.toNat_natCast] at hx1 hx2
      go_wp2
      go_roundg (B + 1 - (i + 1))
      case measure => omega
      case rel =>
        have hst := (own_store_of (enc := Value.int .i64) OW5.out (i : Int) ((m : Nat) : Int)).1
        rw [Int.toNat_natCast, ← HM.out, seat_set _ (fun (j : Nat) => ((edgeAt a0 B (j : Int) : Nat) : Int)) (B + 1) i rfl hlt, HM.out] at hst
        exact ⟨i + 1, by rw [show ((i + 1 : Nat) : Int) = (i : Int) + 1 by omega], by omega, ⟨below_set HB5.out (Nat.le_of_lt hgw)⟩, ⟨blk_far BK5.out (show w.heap.size ≠ g by omega) _⟩, ⟨hst⟩⟩
    · obtain rfl : i = B + 1 := by omega
      have HF : (Kd.int .i64).R 3 wr w.heap.size (fun _ => True) (.slice (some ⟨g, 0, none⟩) (B + 1) cap) (edgesSpec a0 B) := by
        have ho := OW.out
        rw [Nat.sub_self, List.replicate_zero, List.append_nil] at ho
        have hl : (edgesSpec a0 B).length = B + 1 := by unfold edgesSpec; simp
        refine Kd.R_of_own ?_ (fun _ _ => trivial)
        rw [hl]
        exact ho
      have HF0 := Aside0.mk HF
      clear HF OW
      go_wp2
      go_ret2
      exact ⟨_, rfl, HF0.out, HB.out⟩

/-- What Edges answers. -/
def scan_Edges.f (a0 a1 a2 : Int) : Option ((List Int) × Int) := some (if okS a0 a1 a2 then (edgesSpec a0 a1, 0) else ([], 1))

theorem scan_Edges.calls (a0_0 : Int) (a0_1 : Int) (a0_2 : Int) (r1 : List Int) (r2 : Int) (w : World) (h : scan_Edges.f a0_0 a0_1 a0_2 = some (r1, r2)) :
    Calls Try.prog 22 #[.agg #[.int .i64 a0_0, .int .i64 a0_1, .int .i64 a0_2]] w fun e w' => ∃ v0_ : Value, e = .returned (.tuple #[v0_, .int .i64 r2]) ∧ Kd.R (Kd.int .i64) 3 w' w.heap.size (fun _ => True) v0_ r1 ∧ Below w.heap.size w w' := by
  have hc := scheck_eq a0_0 a0_1 a0_2
  unfold scan_Edges.f at h
  by_cases hs : okS a0_0 a0_1 a0_2
  · rw [if_pos hs] at h hc
    have hs' := hs
    unfold okS at hs'
    cases h
    exact edges_good a0_0 a0_1 a0_2 w hc (by omega) (by omega) (by omega) (by omega)
  · rw [if_neg hs] at h hc
    cases h
    refine (edges_bad a0_0 a0_1 a0_2 w hc).mono fun e w' hh => ?_
    exact ⟨_, hh.1, Kd.R_nil _ _ _ _ _, hh.2⟩
end Go.Proofs.Ytnkmeocccbkdkaa.P
