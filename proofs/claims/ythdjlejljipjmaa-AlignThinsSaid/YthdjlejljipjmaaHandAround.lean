/- sort.Search over a closure that may lay memory: the least place at which it says yes, if it stays at yes. align.around: the marks about a place, by sort.Search over a closure that calls a closure. -/
import Derived.Test.YthdjlejljipjmaaPx0
import Derived.Test.YthdjlejljipjmaaBits
import Derived.WalkKit
import Derived.Deep.LoopGhost
import Derived.Test.YthdjlejljipjmaaAlignSpec0
import Derived.Deep.QuietTactic
import Derived.BigQuiet
import Derived.RegionTactic
import Derived.Deep.RegionWith
import Derived.Shelf.Abstract
import Derived.Laws.EntriesVeiled
import Derived.Laws.Rows
namespace Go.Proofs.Ythdjlejljipjmaa.P
open Go.RowKit Go.Proofs.YthdjlejljipjmaaW.PrintWords Go.Proofs.YthdjlejljipjmaaW.PrintLast Go.Proofs.YthdjlejljipjmaaW.PrintMore Go.Proofs.Ythdjlejljipjmaa.First
set_option linter.unusedVariables false

set_option maxHeartbeats 4000000 in
set_option maxRecDepth 100000 in
theorem sort_Search_calls (g : Nat) (cb : Array Value) (n : Nat) (p : Nat → Bool) (w : World) (eg : ∀ args w, (callFunc g args).run Try.prog w = .ok (.enter g args) w) (hsz : n < 4611686018427387904)
    (hf : ∀ (W : World) (i : Nat), Below w.heap.size w W → i < n → Calls Try.prog g (#[.int .i64 i] ++ cb) W fun e w' => e = .returned (.bool (p i)) ∧ Below W.heap.size W w')
    (hmono : ∀ a b, a ≤ b → b < n → p a = true → p b = true) :
    Calls Try.prog 37 #[.int .i64 n, .func (.func g) #[] cb] w fun e w' => e = .returned (.int .i64 (first p n : Nat)) ∧ Below w.heap.size w w' := by
  have HF := Aside0.mk hf
  have M := Aside0.mk hmono
  clear hf hmono
  generalize hcnt : first p n = cnt
  have CN := Aside0.mk hcnt
  clear hcnt
  go_enter Try.func37, Try.ntmps37
  go_wp2
  go_loopg [5, 6] n (fun kx s5 s6 wr => ∃ (lo hi : Nat), s5 = .int .i64 lo ∧ s6 = .int .i64 hi ∧ lo ≤ hi ∧ hi ≤ n ∧ hi - lo ≤ kx ∧ Aside0 (Below w.heap.size w wr) ∧
    Aside0 ((∀ t, t < lo → p t = false) ∧ (∀ t, hi ≤ t → t < n → p t = true)))
  case atStart => exact ⟨0, n, rfl, rfl, Nat.zero_le _, Nat.le_refl _, by omega, ⟨Below.refl _ _⟩, ⟨fun t ht => absurd ht (Nat.not_lt_zero _), fun t h1 h2 => by omega⟩⟩
  case round =>
    obtain ⟨lo, hi, rfl, rfl, hlh, hin, hg, HB, I⟩ := hrel
    by_cases hlt : lo < hi
    · have hc := HF.out wr ((lo + hi) / 2) HB.out (by omega)
      rw [show (((lo + hi) / 2 : Nat) : Int) = ((lo : Int) + (hi : Int)) / 2 by omega] at hc
      cases hp : p ((lo + hi) / 2) <;> rw [hp] at hc
      · have HP := Aside0.mk hp
        clear hp
        go_wp2_with fail
        refine hc.mono ?_
        rintro e w' ⟨rfl, hb⟩
        clear hc eg
        go_wp2
        go_roundg (hi - ((lo + hi) / 2 + 1))
        case measure => omega
        case rel =>
          have I2 : Aside0 ((∀ t, t < (lo + hi) / 2 + 1 → p t = false) ∧ (∀ t, hi ≤ t → t < n → p t = true)) := ⟨fun t ht => (by
            cases h : p t with
            | false => rfl
            | true => have := M.out t ((lo + hi) / 2) (by omega) (by omega) h; rw [HP.out] at this; cases this), I.out.2⟩
          exact ⟨(lo + hi) / 2 + 1, hi, by rw [show ((lo : Int) + (hi : Int)) / 2 + 1 = (((lo + hi) / 2 + 1 : Nat) : Int) by omega], rfl, by omega, hin, Nat.le_refl _, ⟨below_then HB.out HB.out.size hb⟩, I2⟩
      · have HP := Aside0.mk hp
        clear hp
        go_wp2_with fail
        refine hc.mono ?_
        rintro e w' ⟨rfl, hb⟩
        clear hc eg
        go_wp2
        go_roundg ((lo + hi) / 2 - lo)
        case measure => omega
        case rel =>
          have I2 : Aside0 ((∀ t, t < lo → p t = false) ∧ (∀ t, (lo + hi) / 2 ≤ t → t < n → p t = true)) := ⟨I.out.1, fun t ht htn => M.out ((lo + hi) / 2) t ht htn HP.out⟩
          exact ⟨lo, (lo + hi) / 2, rfl, by rw [show ((lo : Int) + (hi : Int)) / 2 = (((lo + hi) / 2 : Nat) : Int) by omega], by omega, by omega, Nat.le_refl _, ⟨below_then HB.out HB.out.size hb⟩, I2⟩
    · obtain rfl : hi = lo := by omega
      have ecnt : cnt = hi := by
        rw [← CN.out]
        exact first_unique p n hi hin I.out.1 (fun hr => I.out.2 hi (Nat.le_refl _) hr)
      subst ecnt
      go_wp2
      go_ret
      exact ⟨rfl, HB.out⟩
end Go.Proofs.Ythdjlejljipjmaa.P

namespace Go.Proofs.Ythdjlejljipjmaa.P
open Go.RowKit Go.Proofs.YthdjlejljipjmaaW.PrintWords Go.Proofs.YthdjlejljipjmaaW.PrintLast Go.Proofs.YthdjlejljipjmaaW.PrintMore Go.Proofs.Ythdjlejljipjmaa.First Go.Proofs.Ythdjlejljipjmaa.Math
set_option linter.unusedVariables false
set_option linter.unusedSimpArgs false

set_option maxHeartbeats 1000000 in
set_option maxRecDepth 100000 in
theorem fwd_inner (y0 y1 x : Int) (bx : Nat) (W : World) (c1 : W.cell? ⟨bx, 0, none⟩ = some (.int .i64 x)) :
    Calls Try.prog 36 (#[.agg #[.int .i64 y0, .int .i64 y1]] ++ #[.pointer (some ⟨bx, 0, none⟩)]) W fun e w' => e = .returned (.bool (decide (y0 < x))) ∧ Below W.heap.size W w' := by
  have hb : bx < W.heap.size := World.block_lt_of_cell? W _ c1
  go_enter Try.func36, Try.ntmps36
  go_wp2
  go_ret
  exact ⟨by first | rfl | simp, by repeat (first | exact Below.refl _ _ | apply below_alloc | apply pw_below_drewN)⟩

set_option maxHeartbeats 1000000 in
set_option maxRecDepth 100000 in
theorem bck_inner (y0 y1 x : Int) (bx : Nat) (W : World) (c1 : W.cell? ⟨bx, 0, none⟩ = some (.int .i64 x)) :
    Calls Try.prog 32 (#[.agg #[.int .i64 y0, .int .i64 y1]] ++ #[.pointer (some ⟨bx, 0, none⟩)]) W fun e w' => e = .returned (.bool (decide (y1 < x))) ∧ Below W.heap.size W w' := by
  have hb : bx < W.heap.size := World.block_lt_of_cell? W _ c1
  go_enter Try.func32, Try.ntmps32
  go_wp2
  go_ret
  exact ⟨by first | rfl | simp, by repeat (first | exact Below.refl _ _ | apply below_alloc | apply pw_below_drewN)⟩

/-- A test of a mark: a closure g over a number in a cell. -/
def Test (g : Nat) (fld : Mk → Int) (x : Int) (bx : Nat) : Prop := ∀ (W : World) (y : Mk), W.cell? ⟨bx, 0, none⟩ = some (.int .i64 x) →
  Calls Try.prog g (#[.agg #[.int .i64 y.f0, .int .i64 y.f1]] ++ #[.pointer (some ⟨bx, 0, none⟩)]) W fun e w' => e = .returned (.bool (decide (fld y < x))) ∧ Below W.heap.size W w'

set_option maxHeartbeats 2000000 in
set_option maxRecDepth 100000 in
theorem around_inner (g : Nat) (fld : Mk → Int) (x : Int) (bx bb bl : Nat) (l : List Mk) (A0 : Option Addr) (c : Nat) (i : Nat) (W : World) (hT : Test g fld x bx) (eg : ∀ args w, (callFunc g args).run Try.prog w = .ok (.enter g args) w)
    (hr : Kd.C k41 W A0 l.length l) (hl : l.length ≤ 64) (hi : i + 1 < l.length) (c1 : W.cell? ⟨bb, 0, none⟩ = some (.func (.func g) #[] #[.pointer (some ⟨bx, 0, none⟩)])) (c2 : W.cell? ⟨bl, 0, none⟩ = some (.slice A0 l.length c)) (c3 : W.cell? ⟨bx, 0, none⟩ = some (.int .i64 x)) :
    Calls Try.prog 38 (#[.int .i64 i] ++ #[.pointer (some ⟨bb, 0, none⟩), .pointer (some ⟨bl, 0, none⟩)]) W fun e w' => e = .returned (.bool (bef fld l x i)) ∧ Below W.heap.size W w' := by
  obtain ⟨y, hy⟩ : ∃ y, y = rd_T41 l ((i : Int) + 1) := ⟨_, rfl⟩
  have hb : bef fld l x i = !decide (fld y < x) := by unfold bef; rw [hy]
  rw [hb]
  generalize hd : decide (fld y < x) = d
  have hT2 : ∀ W' : World, W'.cell? ⟨bx, 0, none⟩ = some (.int .i64 x) → Calls Try.prog g #[.agg #[.int .i64 y.f0, .int .i64 y.f1], .pointer (some ⟨bx, 0, none⟩)] W' fun e w' => e = .returned (.bool d) ∧ Below W'.heap.size W' w' := fun W' h => by
    have := hT W' y h
    rwa [hd] at this
  have HC := Aside0.mk hT2
  obtain ⟨ad, rfl, hx0, hx1⟩ := at_T41 hr ((i : Int) + 1) (by omega) (by omega)
  rw [← hy] at hx0 hx1
  rw [show ((i : Int) + 1).toNat = i + 1 by omega] at hx0 hx1
  have hu := Try.underlying41
  have w1 : wrap64 ((i : Int) + 1) = (i : Int) + 1 := by unfold wrap64; omega
  have w2 : IntKind.i64.wrap ((i : Int) + 1) = (i : Int) + 1 := by rw [IntKind.wrap_i64]; omega
  have w3 : ((i : Int) + 1).toNat = i + 1 := by omega
  have w4 : 0 ≤ (i : Int) + 1 := by omega
  have w5 : (i : Int) + 1 < (l.length : Int) := by omega
  clear hd hb hy hr hT hT2
  go_enter Try.func38, Try.ntmps38
  go_wp2
  go_region_with (((with_reducible refine (HC.out _ ?s1).mono ?_); (case s1 => first | exact c3 | exact pw_cell_below (pw_below_drewN (Below.refl _ _) _) c3); rintro e w5 ⟨rfl, hb⟩; have HBB := Aside0.mk (below_then (B := W.heap.size) (w := W) (by repeat (first | exact Below.refl _ _ | apply pw_below_drewN | apply below_drew)) (by first | exact Nat.le_refl _ | (go_simp; done)) hb); clear hb))
  all_goals (try go_wp2)
  all_goals (go_ret; exact ⟨by first | rfl | simp, by repeat (first | exact HBB.out | apply pw_below_drewN | apply below_drew)⟩)

/-- The cells of a function value and of a slice that the call has made, and the world behind them. -/
theorem acell2 (w : World) (a b : Value) (ta tb : TypeId) : ((w.alloc (.cells #[a] ta)).alloc (.cells #[b] tb)).cell? ⟨w.heap.size, 0, none⟩ = some a ∧ ((w.alloc (.cells #[a] ta)).alloc (.cells #[b] tb)).cell? ⟨w.heap.size + 1, 0, none⟩ = some b :=
  ⟨pw_cell_below (below_alloc (Below.refl _ _) _) (by rw [World.cell?_alloc_at _ _ _ _ (by simp)]; rfl), by rw [World.cell?_alloc_at _ _ _ _ (by simp)]; rfl⟩

theorem around_cells (w w5 : World) (a b c d : Obj) (hb : Below ((((w.alloc a).alloc b).alloc c).alloc d).heap.size ((((w.alloc a).alloc b).alloc c).alloc d) w5) :
    (∀ o, a = o → w5.heap[w.heap.size]? = some o) ∧ w5.heap[w.heap.size + 1 + 1]? = some c ∧ w5.heap[w.heap.size + 1 + 1 + 1]? = some d ∧ Below w.heap.size w w5 := by
  refine ⟨fun o h => ?_, ?_, ?_, ?_⟩
  · subst h
    exact blk_below (blk_alloc (blk_alloc (blk_alloc (blk_new w a) b) c) d) hb
  · have h := blk_alloc (blk_new ((w.alloc a).alloc b) c) d
    rw [show ((w.alloc a).alloc b).heap.size = w.heap.size + 1 + 1 by simp] at h
    exact blk_below h hb
  · have h := blk_new (((w.alloc a).alloc b).alloc c) d
    rw [show (((w.alloc a).alloc b).alloc c).heap.size = w.heap.size + 1 + 1 + 1 by simp] at h
    exact blk_below h hb
  · exact below_step (below_alloc (below_alloc (below_alloc (below_alloc (Below.refl _ _) a) b) c) d) hb

set_option maxHeartbeats 2000000 in
set_option maxRecDepth 100000 in
theorem around_calls (g : Nat) (fld : Mk → Int) (x : Int) (bx : Nat) (l : List Mk) (A0 : Option Addr) (c : Nat) (w : World) (hT : Test g fld x bx) (eg : ∀ args w, (callFunc g args).run Try.prog w = .ok (.enter g args) w)
    (hr : Kd.C k41 w A0 l.length l) (hc : l.length ≤ c) (hok : okM l) (hmono : ∀ a b, a ≤ b → b < l.length - 2 → bef fld l x a = true → bef fld l x b = true) (c3 : w.cell? ⟨bx, 0, none⟩ = some (.int .i64 x)) :
    Calls Try.prog 31 #[.slice A0 l.length c, .func (.func g) #[] #[.pointer (some ⟨bx, 0, none⟩)]] w fun e w' => e = .returned (.tuple #[.agg #[.int .i64 (mA l (seg fld l x)), .int .i64 (mB l (seg fld l x))], .agg #[.int .i64 (mA l (seg fld l x + 1)), .int .i64 (mB l (seg fld l x + 1))]]) ∧ Below w.heap.size w w' := by
  have h2 := hok.1
  have h64 := hok.2.1
  have hk := seg_le fld l x
  have eg38 : ∀ args w, (callFunc 38 args).run Try.prog w = .ok (.enter 38 args) w := Go.Proofs.enters_of Try.func38 (by kernel_rfl) rfl
  have hS := fun (W : World) (hb : Below w.heap.size w W) (b1 : W.cell? ⟨w.heap.size, 0, none⟩ = some (.slice A0 l.length c)) (b2 : W.cell? ⟨w.heap.size + 1, 0, none⟩ = some (.func (.func g) #[] #[.pointer (some ⟨bx, 0, none⟩)])) =>
    sort_Search_calls 38 #[.pointer (some ⟨w.heap.size + 1, 0, none⟩), .pointer (some ⟨w.heap.size, 0, none⟩)] (l.length - 2) (bef fld l x) W eg38 (by omega)
      (fun W2 i hb2 hi => around_inner g fld x bx (w.heap.size + 1) w.heap.size l A0 c i W2 hT eg (Kd.C_below (Kd.C_below hr hb) (by exact hb2)) h64 (by omega) (pw_cell_below hb2 b2) (pw_cell_below hb2 b1) (pw_cell_below hb2 (pw_cell_below hb c3)))
      hmono
  have hS2 : ∀ W : World, Below w.heap.size w W → W.cell? ⟨w.heap.size, 0, none⟩ = some (.slice A0 l.length c) → W.cell? ⟨w.heap.size + 1, 0, none⟩ = some (.func (.func g) #[] #[.pointer (some ⟨bx, 0, none⟩)]) →
    Calls Try.prog 37 #[.int .i64 ((l.length - 2 : Nat) : Int), .func (.func 38) #[] #[.pointer (some ⟨w.heap.size + 1, 0, none⟩), .pointer (some ⟨w.heap.size, 0, none⟩)]] W fun e w' => e = .returned (.int .i64 ((seg fld l x : Nat) : Int)) ∧ Below W.heap.size W w' := hS
  have HS := Aside0.mk hS2
  clear hS hS2 eg eg38 hT hmono
  generalize seg fld l x = k at *
  have e2 : wrap64 ((l.length : Int) - 2) = ((l.length - 2 : Nat) : Int) := by unfold wrap64; omega
  have e3 : IntKind.i64.wrap ((l.length : Int) - 2) = ((l.length - 2 : Nat) : Int) := by rw [IntKind.wrap_i64]; omega
  have e4 : ((l.length : Int) - 2) = ((l.length - 2 : Nat) : Int) := by omega
  have HR := Aside0.mk hr
  clear hr hok
  generalize hA0 : mA l k = a0
  generalize hA1 : mB l k = a1
  generalize hB0 : mA l (k + 1) = b0
  generalize hB1 : mB l (k + 1) = b1
  have HA0 := Aside0.mk hA0
  have HA1 := Aside0.mk hA1
  have HB0 := Aside0.mk hB0
  have HB1 := Aside0.mk hB1
  clear hA0 hA1 hB0 hB1
  have hu := Try.underlying41
  go_enter Try.func31, Try.ntmps31
  go_wp2_with fail
  refine (HS.out _ ?b0 ?b1 ?b2).mono ?_
  case b0 => exact below_alloc (below_alloc (below_alloc (below_alloc (Below.refl _ _) _) _) _) _
  case b1 => exact pw_cell_below (below_alloc (below_alloc (Below.refl _ _) _) _) (acell2 w _ _ _ _).1
  case b2 => exact pw_cell_below (below_alloc (below_alloc (Below.refl _ _) _) _) (acell2 w _ _ _ _).2
  rintro e w5 ⟨rfl, hb⟩
  obtain ⟨q1, q2, q3, q4⟩ := around_cells w w5 _ _ _ _ hb
  have q1b := q1 _ rfl
  have cl : w5.cell? ⟨w.heap.size, 0, none⟩ = some (.slice A0 l.length c) := (blk_cell q1b 0).trans rfl
  have B4 := Aside0.mk q4
  have Z2 := Aside0.mk q2
  have Z3 := Aside0.mk q3
  have m20 : w5.cell? ⟨w.heap.size + 1 + 1, 0, none⟩ = some (.int .i64 0) := (blk_cell q2 0).trans rfl
  have m21 : w5.cell? ⟨w.heap.size + 1 + 1, 1, none⟩ = some (.int .i64 0) := (blk_cell q2 1).trans rfl
  have m30 : w5.cell? ⟨w.heap.size + 1 + 1 + 1, 0, none⟩ = some (.int .i64 0) := (blk_cell q3 0).trans rfl
  have m31 : w5.cell? ⟨w.heap.size + 1 + 1 + 1, 1, none⟩ = some (.int .i64 0) := (blk_cell q3 1).trans rfl
  have f20 := blk_frozen q2 0
  have f21 := blk_frozen q2 1
  have f30 := blk_frozen q3 0
  have f31 := blk_frozen q3 1
  obtain ⟨ad, ea, hx0, hx1⟩ := at_T41 (Kd.C_below HR.out B4.out) ((k : Nat) : Int) (by omega) (by omega)
  obtain ⟨adz, eaz, z0, _⟩ := at_T41 HR.out ((k : Nat) : Int) (by omega) (by omega)
  obtain ⟨adz', eaz', z1, _⟩ := at_T41 HR.out ((k + 1 : Nat) : Int) (by omega) (by omega)
  obtain ⟨ad', ea', hy0, hy1⟩ := at_T41 (Kd.C_below HR.out B4.out) ((k + 1 : Nat) : Int) (by omega) (by omega)
  subst ea
  injection ea' with ea'
  subst ea'
  injection eaz with eaz
  subst eaz
  injection eaz' with eaz'
  subst eaz'
  rw [Int.toNat_natCast] at hx0 hx1 hy0 hy1 z0 z1
  have p0 : (rd_T41 l ((k : Nat) : Int)).f0 = a0 := HA0.out
  have p1 : (rd_T41 l ((k : Nat) : Int)).f1 = a1 := HA1.out
  have p2 : (rd_T41 l ((k + 1 : Nat) : Int)).f0 = b0 := HB0.out
  have p3 : (rd_T41 l ((k + 1 : Nat) : Int)).f1 = b1 := HB1.out
  rw [p0] at hx0
  rw [p1] at hx1
  rw [p2] at hy0
  rw [p3] at hy1
  clear p0 p1 p2 p3 hb q1 q1b q2 q3 q4 HS e2 e3 e4
  have w1 : wrap64 ((k : Int) + 1) = (k : Int) + 1 := by unfold wrap64; omega
  have w2 : IntKind.i64.wrap ((k : Int) + 1) = (k : Int) + 1 := by rw [IntKind.wrap_i64]; omega
  have w3 : ((k : Int) + 1).toNat = k + 1 := by omega
  have w4 : 0 ≤ (k : Int) + 1 := by omega
  have w5' : (k : Int) + 1 < (l.length : Int) := by omega
  have w6 : (k : Int) < (l.length : Int) := by omega
  have lt0 : (ad.add (k * 2)).block < w.heap.size := World.block_lt_of_cell? w _ z0
  have lt1 : (ad.add ((k + 1) * 2)).block < w.heap.size := World.block_lt_of_cell? w _ z1
  have n1 : (ad.add (k * 2)).block ≠ w.heap.size + 1 + 1 := by omega
  have n2 : (ad.add (k * 2)).block ≠ w.heap.size + 1 + 1 + 1 := by omega
  have n3 : (ad.add ((k + 1) * 2)).block ≠ w.heap.size + 1 + 1 := by omega
  have n4 : (ad.add ((k + 1) * 2)).block ≠ w.heap.size + 1 + 1 + 1 := by omega
  have x0 : ∀ (o : Nat) (v : Value) (W : World), (W.setCell ⟨w.heap.size + 1 + 1, o, none⟩ v).cell? (ad.add (k * 2)) = W.cell? (ad.add (k * 2)) := fun o v W => World.cell?_setCell_other _ _ _ _ (fun e => n1 (by rw [← e]))
  have x1 : ∀ (o : Nat) (v : Value) (W : World), (W.setCell ⟨w.heap.size + 1 + 1 + 1, o, none⟩ v).cell? (ad.add (k * 2)) = W.cell? (ad.add (k * 2)) := fun o v W => World.cell?_setCell_other _ _ _ _ (fun e => n2 (by rw [← e]))
  have x2 : ∀ (o : Nat) (v : Value) (W : World), (W.setCell ⟨w.heap.size + 1 + 1, o, none⟩ v).cell? (ad.add ((k + 1) * 2)) = W.cell? (ad.add ((k + 1) * 2)) := fun o v W => World.cell?_setCell_other _ _ _ _ (fun e => n3 (by rw [← e]))
  have x3 : ∀ (o : Nat) (v : Value) (W : World), (W.setCell ⟨w.heap.size + 1 + 1 + 1, o, none⟩ v).cell? (ad.add ((k + 1) * 2)) = W.cell? (ad.add ((k + 1) * 2)) := fun o v W => World.cell?_setCell_other _ _ _ _ (fun e => n4 (by rw [← e]))
  go_wp2
  go_region
  all_goals (try go_wp2)
  have hne : w.heap.size + 1 + 1 ≠ w.heap.size + 1 + 1 + 1 := by omega
  have le1 : w.heap.size ≤ w.heap.size + 1 + 1 := by omega
  have le2 : w.heap.size ≤ w.heap.size + 1 + 1 + 1 := by omega
  have hB4 := B4.out
  refine bodyPost_ret (v := .tuple #[.agg #[.int .i64 a0, .int .i64 a1], .agg #[.int .i64 b0, .int .i64 b1]]) (results_cc Try.results31 _ _ (w.heap.size + 1 + 1) (w.heap.size + 1 + 1 + 1) 41 41 _ _ (0, 0) (0, 0) _ _ rfl ?h2 Try.underlying41 rfl (by kernel_rfl) rfl ?h3 Try.underlying41 rfl (by kernel_rfl)) rfl ⟨rfl, ?hb⟩
  case h2 => exact blk_drew (blk_far (blk_far (blk_put (blk_put Z2.out 0 _ rfl) 1 _ rfl) hne _) hne _)
  case h3 => exact blk_drew (blk_put (blk_put (blk_far (blk_far Z3.out hne.symm _) hne.symm _) 0 _ rfl) 1 _ rfl)
  case hb => exact below_drew (below_set (below_set (below_set (below_set hB4 le1) le1) le2) le2)
end Go.Proofs.Ythdjlejljipjmaa.P
