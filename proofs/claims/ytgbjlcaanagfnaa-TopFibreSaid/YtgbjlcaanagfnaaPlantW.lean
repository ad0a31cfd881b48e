/- The plant in the world: its block, its chests, its pipe, what was fed and made. slices.IndexFunc and slices.ContainsFunc of whole numbers over any closure that lays memory of its own at most. fibre.all over any closure that lays memory of its own at most, and fibre.within: whether all elements lie from 0 to a bound. pipe.copied: a copy of a list. slices.Clone of whole numbers: a copy. slices.Clone of chests and of pumps: copies. chest.changed: a chest whose parts are changed by some masses, times a sign. -/
import Derived.Test.YtgbjlcaanagfnaaPx0
import Derived.Deep.QuietTactic
import Derived.BigQuiet
import Derived.WalkKit
import Derived.Deep.LoopGhost
import Derived.Shelf.Abstract
import Derived.Laws.Rows
import Derived.Laws.CopyOwn
import Derived.Lib.LazyBuf
import Derived.RegionTactic
namespace Go.Proofs.Ytgbjlcaanagfnaa.P
open Go.RowKit Go.Proofs.YtgbjlcaanagfnaaW.PrintWords Go.Proofs.YtgbjlcaanagfnaaW.PrintLast Go.Proofs.YtgbjlcaanagfnaaW.PrintMore
set_option linter.unusedVariables false
set_option linter.unusedSimpArgs false

abbrev kP : Kd (Int × Int × Int) := Kd.pair (Kd.int .i64) (Kd.pair (Kd.int .i64) (Kd.int .i64))
theorem infoPump : (Try.prog.info? 35).map (fun i => (i.zero, i.size, i.bytes)) = some (some (.agg #[.int .i64 0, .int .i64 0, .int .i64 0]), 3, 24) := by kernel_rfl
theorem infoChest : (Try.prog.info? 56).map (fun i => (i.zero, i.size, i.bytes)) = some (some (.agg #[.int .i64 0, .slice none 0 0]), 2, 32) := by kernel_rfl

/-- The plant's content. -/
structure Pl where
 kinds : Int
 hold : Int
 pumps : List (Int × Int × Int)
 chests : List S56
 plugs : List (List Int)
 fed : List Int
 made : List Int
/-- Where it lies. -/
structure PX where
 gx : Nat
 gc : Nat
 cc : Nat
 gf : Nat
 cf : Nat
 gm : Nat
 cm : Nat
 CA : Option Addr
 cn : Nat
 ck : Nat
 PA : Option Addr
 pc : Nat
 QA : Option Addr
 qc : Nat
def PX.mu (g : PX) (k : Nat) : Prop := k = g.gx ∨ k = g.gc ∨ k = g.gf ∨ k = g.gm
def PX.cells (g : PX) (s : Pl) : Array Value := #[.int .i64 s.kinds, .slice g.CA g.cn g.ck, .slice g.PA s.pumps.length g.pc, .int .i64 s.hold, .slice (some ⟨g.gc, 0, none⟩) s.chests.length g.cc, .int .i64 s.hold, .slice g.QA s.plugs.length g.qc, .slice (some ⟨g.gf, 0, none⟩) s.fed.length g.cf, .slice (some ⟨g.gm, 0, none⟩) s.made.length g.cm]
structure PAt (W : World) (b : Nat) (ex : Nat → Prop) (g : PX) (s : Pl) : Prop where
 kx : W.heap[g.gx]? = some (.cells (g.cells s) 53 (0, 0))
 hp : Kd.F kP W (fun k => ¬ g.mu k ∧ ¬ ex k) g.PA s.pumps.length s.pumps
 pc : s.pumps.length ≤ g.pc
 pa : ∃ gp, g.PA = some ⟨gp, 0, none⟩
 hc : Kd.N k56 56 W b (fun k => (k ≠ g.gx ∧ k ≠ g.gf ∧ k ≠ g.gm) ∧ ¬ ex k) (.slice (some ⟨g.gc, 0, none⟩) s.chests.length g.cc) s.chests
 hq : Kd.F (Kd.slice 3 (Kd.int .i64)) W (fun k => ¬ g.mu k ∧ ¬ ex k) g.QA s.plugs.length s.plugs
 qc : s.plugs.length ≤ g.qc
 hf : Kd.R (Kd.int .i64) 3 W b (fun k => k = g.gf) (.slice (some ⟨g.gf, 0, none⟩) s.fed.length g.cf) s.fed
 hm : Kd.R (Kd.int .i64) 3 W b (fun k => k = g.gm) (.slice (some ⟨g.gm, 0, none⟩) s.made.length g.cm) s.made
 bx : b ≤ g.gx
 nfm : g.gf ≠ g.gm
 nex : ∀ k, ex k → ¬ g.mu k
 exb : ∀ k, ex k → k < W.heap.size
section
variable {W W' : World} {b : Nat} {ex ex' S : Nat → Prop} {g : PX} {s : Pl}
theorem PAt.lt_x (h : PAt W b ex g s) : g.gx < W.heap.size := blk_lt h.kx
theorem PAt.lt_c (h : PAt W b ex g s) : g.gc < W.heap.size := Kd.N_lt h.hc g.gc rfl
theorem PAt.lt_f (h : PAt W b ex g s) : g.gf < W.heap.size := Kd.R_lt h.hf g.gf rfl
theorem PAt.lt_m (h : PAt W b ex g s) : g.gm < W.heap.size := Kd.R_lt h.hm g.gm rfl
theorem PAt.bc (h : PAt W b ex g s) : b ≤ g.gc := Kd.N_base h.hc g.gc rfl
theorem PAt.bf (h : PAt W b ex g s) : b ≤ g.gf := Kd.R_base h.hf g.gf rfl
theorem PAt.bm (h : PAt W b ex g s) : b ≤ g.gm := Kd.R_base h.hm g.gm rfl
theorem PAt.lt_mu (h : PAt W b ex g s) (k : Nat) (hk : g.mu k) : k < W.heap.size := by
 rcases hk with e | e | e | e <;> rw [e]
 ·exact h.lt_x
 ·exact h.lt_c
 ·exact h.lt_f
 ·exact h.lt_m
theorem PAt.b_mu (h : PAt W b ex g s) (k : Nat) (hk : g.mu k) : b ≤ k := by
 rcases hk with e | e | e | e <;> rw [e]
 ·exact h.bx
 ·exact h.bc
 ·exact h.bf
 ·exact h.bm
theorem blk_type {k : Nat} {c c' : Array Value} {t t' : Nat} (h : W.heap[k]? = some (.cells c t (0, 0))) (h' : W.heap[k]? = some (.cells c' t' (0, 0))) : t = t' := by
 rw [h] at h'
 injection h' with h'
 injection h' with _ h'
theorem PAt.nxc (h : PAt W b ex g s) : g.gx ≠ g.gc := fun e => by
 obtain ⟨cells, hc⟩ := Kd.N_typed h.hc g.gc rfl
 exact absurd (blk_type (e ▸ h.kx) hc) (by decide)
theorem PAt.nxf (h : PAt W b ex g s) : g.gx ≠ g.gf := fun e => by
 obtain ⟨cells, hc⟩ := Kd.R_typed h.hf g.gf rfl
 exact absurd (blk_type (e ▸ h.kx) hc) (by decide)
theorem PAt.nxm (h : PAt W b ex g s) : g.gx ≠ g.gm := fun e => by
 obtain ⟨cells, hc⟩ := Kd.R_typed h.hm g.gm rfl
 exact absurd (blk_type (e ▸ h.kx) hc) (by decide)
theorem PAt.ncf (h : PAt W b ex g s) : g.gc ≠ g.gf := fun e => by
 obtain ⟨cells, hc⟩ := Kd.R_typed h.hf g.gf rfl
 obtain ⟨cells', hc'⟩ := Kd.N_typed h.hc g.gc rfl
 exact absurd (blk_type (e ▸ hc') hc) (by decide)
theorem PAt.ncm (h : PAt W b ex g s) : g.gc ≠ g.gm := fun e => by
 obtain ⟨cells, hc⟩ := Kd.R_typed h.hm g.gm rfl
 obtain ⟨cells', hc'⟩ := Kd.N_typed h.hc g.gc rfl
 exact absurd (blk_type (e ▸ hc') hc) (by decide)
/-- Where only what is set apart, or is new, was written. -/
theorem PAt.kept (h : PAt W b ex g s) (hk : Kept W W' S) (hS : ∀ k, S k → ex k ∨ W.heap.size ≤ k) : PAt W' b ex g s := by
 have hmu : ∀ k, g.mu k → ¬ S k := fun k hm hs => (hS k hs).elim (fun e => h.nex k e hm) (fun hl => by have := h.lt_mu k hm; omega)
 exact {
  kx := blk_kept h.kx hk (hmu _ (.inl rfl))
  hp := Kd.F_mono (Kd.F_kept (Kd.F_bound h.hp) hk (fun k hk hs => (hS k hs).elim hk.1.2 (fun hl => by have := hk.2; omega))) (fun k hk => hk.1)
  pc := h.pc
  pa := h.pa
  hc := Kd.N_mono (Kd.N_kept (Kd.N_bound h.hc) hk (fun k hk hs => (hS k hs).elim hk.1.2 (fun hl => by have := hk.2; omega))) (fun k hk => hk.1)
  hq := Kd.F_mono (Kd.F_kept (Kd.F_bound h.hq) hk (fun k hk hs => (hS k hs).elim hk.1.2 (fun hl => by have := hk.2; omega))) (fun k hk => hk.1)
  qc := h.qc
  hf := Kd.R_kept h.hf hk (fun k he => he ▸ hmu _ (.inr (.inr (.inl rfl))))
  hm := Kd.R_kept h.hm hk (fun k he => he ▸ hmu _ (.inr (.inr (.inr rfl))))
  bx := h.bx
  nfm := h.nfm
  nex := h.nex
  exb := fun k hx => Nat.lt_of_lt_of_le (h.exb k hx) hk.1 }
theorem PAt.below (h : PAt W b ex g s) (hb : Below W.heap.size W W') : PAt W' b ex g s := h.kept (Kept.of_below hb (fun _ => False)) (fun _ hk => hk.elim)
theorem PAt.drew (h : PAt W b ex g s) : PAt W.drew b ex g s := h.below (below_drew (Below.refl _ _))
theorem PAt.drewN (h : PAt W b ex g s) (m : Nat) : PAt (W.drewN m) b ex g s := h.below (pw_below_drewN (Below.refl _ _) m)
/-- What is set apart besides may be what is new. -/
theorem PAt.widen (h : PAt W b ex g s) (hb : Below W.heap.size W W') (hx : ∀ k, ex' k → ex k ∨ W.heap.size ≤ k) (hl : ∀ k, ex' k → k < W'.heap.size) : PAt W' b ex' g s := by
 have h' := h.below hb
 exact {
  kx := h'.kx
  hp := Kd.F_mono (Kd.F_below (Kd.F_bound h.hp) hb) fun k hk => ⟨hk.1.1, fun he => (hx k he).elim hk.1.2 (fun hl => by have := hk.2; omega)⟩
  pc := h.pc
  pa := h.pa
  hc := Kd.N_mono (Kd.N_below (Kd.N_bound h.hc) hb) fun k hk => ⟨hk.1.1, fun he => (hx k he).elim hk.1.2 (fun hl => by have := hk.2; omega)⟩
  hq := Kd.F_mono (Kd.F_below (Kd.F_bound h.hq) hb) fun k hk => ⟨hk.1.1, fun he => (hx k he).elim hk.1.2 (fun hl => by have := hk.2; omega)⟩
  qc := h.qc
  hf := h'.hf
  hm := h'.hm
  bx := h.bx
  nfm := h.nfm
  nex := fun k he hm => (hx k he).elim (fun e => h.nex k e hm) (fun hl => by have := h.lt_mu k hm; omega)
  exb := hl }
/-- A chest is another one. -/
theorem PAt.chest (h : PAt W b ex g s) {cs : List S56} (hl : cs.length = s.chests.length) (hg : W.grownBy W' (some g.gc))
  (hN : Kd.N k56 56 W' b (fun k => (k ≠ g.gx ∧ k ≠ g.gf ∧ k ≠ g.gm) ∧ ¬ ex k) (.slice (some ⟨g.gc, 0, none⟩) s.chests.length g.cc) cs) : PAt W' b ex g { s with chests := cs } where
 kx := by
  have := blk_grown h.kx hg (fun e => h.nxc (Option.some.inj e))
  rw [this]; unfold PX.cells; simp only [hl]
 hp := Kd.F_grown h.hp hg (fun k hk e => hk.1 (.inr (.inl (Option.some.inj e))))
 pc := h.pc
 pa := h.pa
 hc := by
  show Kd.N k56 _ _ _ _ (.slice _ cs.length _) cs
  rw [hl]; exact hN
 hq := Kd.F_grown h.hq hg (fun k hk e => hk.1 (.inr (.inl (Option.some.inj e))))
 qc := h.qc
 hf := Kd.R_grown h.hf hg (fun k hk e => h.ncf (by rw [← hk]; exact (Option.some.inj e).symm))
 hm := Kd.R_grown h.hm hg (fun k hk e => h.ncm (by rw [← hk]; exact (Option.some.inj e).symm))
 bx := h.bx
 nfm := h.nfm
 nex := h.nex
 exb := fun k hx => Nat.lt_of_lt_of_le (h.exb k hx) hg.size
/-- More was made. -/
theorem PAt.make (h : PAt W b ex g s) {l : List Int} (hl : l.length = s.made.length) (hk : Kept W W' (fun k => k = g.gm))
  (hR : Kd.R (Kd.int .i64) 3 W' b (fun k => k = g.gm) (.slice (some ⟨g.gm, 0, none⟩) s.made.length g.cm) l) : PAt W' b ex g { s with made := l } where
 kx := by
  have := blk_kept h.kx hk (fun e => h.nxm e)
  rw [this]; unfold PX.cells; simp only [hl]
 hp := Kd.F_kept h.hp hk (fun k hk e => hk.1 (.inr (.inr (.inr e))))
 pc := h.pc
 pa := h.pa
 hc := Kd.N_kept h.hc hk (fun k hk e => hk.1.2.2 e)
 hq := Kd.F_kept h.hq hk (fun k hk e => hk.1 (.inr (.inr (.inr e))))
 qc := h.qc
 hf := Kd.R_kept h.hf hk (fun k hk e => h.nfm (by rw [← hk]; exact e))
 hm := by
  show Kd.R _ _ _ _ _ (.slice _ l.length _) l
  rw [hl]; exact hR
 bx := h.bx
 nfm := h.nfm
 nex := h.nex
 exb := fun k hx => Nat.lt_of_lt_of_le (h.exb k hx) hk.1
/-- More was fed. -/
theorem PAt.feed (h : PAt W b ex g s) {l : List Int} (hl : l.length = s.fed.length) (hk : Kept W W' (fun k => k = g.gf))
  (hR : Kd.R (Kd.int .i64) 3 W' b (fun k => k = g.gf) (.slice (some ⟨g.gf, 0, none⟩) s.fed.length g.cf) l) : PAt W' b ex g { s with fed := l } where
 kx := by
  have := blk_kept h.kx hk (fun e => h.nxf e)
  rw [this]; unfold PX.cells; simp only [hl]
 hp := Kd.F_kept h.hp hk (fun k hk e => hk.1 (.inr (.inr (.inl e))))
 pc := h.pc
 pa := h.pa
 hc := Kd.N_kept h.hc hk (fun k hk e => hk.1.2.1 e)
 hq := Kd.F_kept h.hq hk (fun k hk e => hk.1 (.inr (.inr (.inl e))))
 qc := h.qc
 hf := by
  show Kd.R _ _ _ _ _ (.slice _ l.length _) l
  rw [hl]; exact hR
 hm := Kd.R_kept h.hm hk (fun k hk e => h.nfm (by rw [← hk]; exact e.symm))
 bx := h.bx
 nfm := h.nfm
 nex := h.nex
 exb := fun k hx => Nat.lt_of_lt_of_le (h.exb k hx) hk.1
/-- The pipe is another one: its two cells are written. -/
theorem PAt.pipe (h : PAt W b ex g s) {qs : List (List Int)} {QA : Option Addr} {qc : Nat} (hq : Kd.F (Kd.slice 3 (Kd.int .i64)) W (fun k => ¬ g.mu k ∧ ¬ ex k) QA qs.length qs) (hqc : qs.length ≤ qc) :
  PAt ((W.setCell ⟨g.gx, 5, none⟩ (.int .i64 s.hold)).setCell ⟨g.gx, 6, none⟩ (.slice QA qs.length qc)) b ex { g with QA := QA, qc := qc } { s with plugs := qs } where
 kx := by
  have := blk_put (blk_put h.kx 5 (.int .i64 s.hold) rfl) 6 (.slice QA qs.length qc) rfl
  rw [this]; rfl
 hp := Kd.F_far (p := ⟨g.gx, 6, none⟩) (Kd.F_far (p := ⟨g.gx, 5, none⟩) h.hp (fun k hk e => hk.1 (.inl e)) _) (fun k hk e => hk.1 (.inl e)) _
 pc := h.pc
 pa := h.pa
 hc := Kd.N_far (p := ⟨g.gx, 6, none⟩) (Kd.N_far (p := ⟨g.gx, 5, none⟩) h.hc (fun k hk e => hk.1.1 e) _) (fun k hk e => hk.1.1 e) _
 hq := Kd.F_far (p := ⟨g.gx, 6, none⟩) (Kd.F_far (p := ⟨g.gx, 5, none⟩) hq (fun k hk e => hk.1 (.inl e)) _) (fun k hk e => hk.1 (.inl e)) _
 qc := hqc
 hf := Kd.R_far (p := ⟨g.gx, 6, none⟩) (Kd.R_far (p := ⟨g.gx, 5, none⟩) h.hf (fun k hk e => h.nxf (by rw [← hk]; exact e.symm)) _) (fun k hk e => h.nxf (by rw [← hk]; exact e.symm)) _
 hm := Kd.R_far (p := ⟨g.gx, 6, none⟩) (Kd.R_far (p := ⟨g.gx, 5, none⟩) h.hm (fun k hk e => h.nxm (by rw [← hk]; exact e.symm)) _) (fun k hk e => h.nxm (by rw [← hk]; exact e.symm)) _
 bx := h.bx
 nfm := h.nfm
 nex := h.nex
 exb := fun k hx => by have := h.exb k hx; simpa [World.setCell] using this
theorem grown_set (W : World) (g : Nat) (i : Nat) (v : Value) : W.grownBy (W.setCell ⟨g, i, none⟩ v) (some g) := ⟨rfl, rfl, rfl, by simp [World.setCell], fun k hk hn => Below.heap_setCell W _ v k (fun e => hn (by rw [e]))⟩
/-- Chest i is written. -/
theorem PAt.setc (h : PAt W b ex g s) (i : Nat) (hi : i < s.chests.length) (x : S56) {v : Value} {okp : Nat → Prop} (hv : Kd.FK k56 W okp x [.int .i64 x.f0, v]) (hok : ∀ k, okp k → ¬ g.mu k ∧ ¬ ex k) :
  PAt ((W.setCell ⟨g.gc, i * 2, none⟩ (.int .i64 x.f0)).setCell ⟨g.gc, i * 2 + 1, none⟩ v) b ex g { s with chests := s.chests.set i x } := by
 obtain ⟨c, hcl, _, hcc, _⟩ := Kd.N_elem h.hc x (i : Int) (by omega) (by omega)
 have h2 := Kd.N_seg h.hc (i : Int) (by omega) (by omega) (c := c) (seg := [.int .i64 x.f0, v]) (j := 0) (x' := x) (okp := okp) hcl hcc (Nat.le_refl 2) (by
  rw [List.take_zero, List.nil_append, List.drop_eq_nil_of_le (by have : c.length = 2 := hcl; simp; omega), List.append_nil]; exact hv) (fun k hk => ⟨⟨⟨fun e => (hok k hk).1 (.inl e), fun e => (hok k hk).1 (.inr (.inr (.inl e))), fun e => (hok k hk).1 (.inr (.inr (.inr e)))⟩, (hok k hk).2⟩, fun e => (hok k hk).1 (.inr (.inl e))⟩)
 rw [Int.toNat_natCast] at h2
 exact h.chest (List.length_set ..) h2.2 h2.1
end
end Go.Proofs.Ytgbjlcaanagfnaa.P

namespace Go.Proofs.Ytgbjlcaanagfnaa.P
open Go.RowKit Go.Proofs.YtgbjlcaanagfnaaW.PrintWords Go.Proofs.YtgbjlcaanagfnaaW.PrintLast Go.Proofs.YtgbjlcaanagfnaaW.PrintMore
set_option linter.unusedVariables false
set_option linter.unusedSimpArgs false

/-- Where the first element lies of which p says yes; -1 if nowhere. -/
def idxOf (p : Int → Bool) : Nat → List Int → Int
 | _, [] => -1
 | i, x :: l => if p x = true then (i : Int) else idxOf p (i + 1) l
theorem idx_step (l : List Int) (p : Int → Bool) (i : Nat) (h : i < l.length) : idxOf p i (l.drop i) = if p (rd l (i : Int)) = true then (i : Int) else idxOf p (i + 1) (l.drop (i + 1)) := by
 have e : rd l (i : Int) = l[i] := by unfold rd; simp [h]
 rw [List.drop_eq_getElem_cons h, e]; rfl
theorem idx_any (p : Int → Bool) : ∀ (l : List Int) (i : Nat), decide (idxOf p i l ≥ 0) = l.any p
 | [], i => by simp [idxOf]
 | x :: l, i => by
  unfold idxOf
  by_cases c : p x = true
  ·rw [if_pos c, List.any_cons, c]; simp
  ·rw [if_neg c, List.any_cons, idx_any p l (i + 1)]; simp at c; simp [c]
theorem idx_bound (p : Int → Bool) : ∀ (l : List Int) (i : Nat), -1 ≤ idxOf p i l ∧ idxOf p i l ≤ i + l.length
 | [], i => by simp only [idxOf, List.length_nil]; omega
 | x :: l, i => by
  have := idx_bound p l (i + 1)
  unfold idxOf
  split <;> simp only [List.length_cons] <;> omega

set_option maxHeartbeats 4000000 in
set_option maxRecDepth 100000 in
theorem index_calls (g : Nat) (cb : Array Value) (A0 : Option Addr) (c0 : Nat) (l : List Int) (p : Int → Bool) (w : World) (eg : ∀ args w, (callFunc g args).run Try.prog w = .ok (.enter g args) w) (hr0 : Kd.C (Kd.int .i64) w A0 l.length l)
  (hf : ∀ (W : World) (x : Int), Below w.heap.size w W → Calls Try.prog g (#[.int .i64 x] ++ cb) W fun e w' => e = .returned (.bool (p x)) ∧ Below W.heap.size W w') :
  Calls Try.prog 47 #[.slice A0 l.length c0, .func (.func g) #[] cb] w fun e w' => e = .returned (.int .i64 (idxOf p 0 l)) ∧ Below w.heap.size w w' := by
 have HF := Aside0.mk hf
 have HR := Aside0.mk hr0
 have hmax : l.length ≤ 9223372036854775807 := hr0.2.1
 clear hf hr0
 generalize hcnt : idxOf p 0 l = cnt
 have CN := Aside0.mk hcnt
 clear hcnt
 go_enter Try.func47, Try.ntmps47
 go_wp2
 go_loopg [8] l.length (fun kx s9 wr => ∃ (i : Nat), s9 = .int .i64 i ∧ i ≤ l.length ∧ l.length - i ≤ kx ∧ Aside0 (Below w.heap.size w wr) ∧ Aside0 (cnt = idxOf p i (l.drop i)))
 case atStart => exact ⟨0, rfl, Nat.zero_le _, by omega, ⟨Below.refl _ _⟩, ⟨by rw [List.drop_zero]; exact CN.out.symm⟩⟩
 case round =>
  obtain ⟨i, rfl, hi, hg, HB, I⟩ := hrel
  by_cases hlt : i < l.length
  ·obtain ⟨ad, ea, hx⟩ := Kd.at_int HR.out (i : Int) (by omega) (by omega)
   subst ea
   replace hx := (HB.out.cell (World.block_lt_of_cell? w _ hx)).trans hx
   rw [Int.toNat_natCast] at hx
   have hc := HF.out wr (rd l (i : Int)) HB.out
   have hst := idx_step l p i hlt
   generalize rd l (i : Int) = x at *
   have p1 : (0 ≤ (i : Int)) = True := eq_true (by omega)
   have q1 : ((i : Int) < (l.length : Int)) = True := eq_true (by omega)
   cases hp : p x <;> rw [hp] at hc hst
   ·have HST := Aside0.mk (I.out.trans hst)
    clear hst hp
    go_wp2_with fail
    refine hc.mono ?_
    rintro e w' ⟨rfl, hb⟩
    clear hc eg
    have hw : IntKind.i64.wrap ((i : Int) + 1) = ((i + 1 : Nat) : Int) := by rw [IntKind.wrap_i64]; omega
    go_wp2
    go_roundg (l.length - (i + 1))
    case measure => omega
    case rel => exact ⟨i + 1, by first | rfl | (rw [hw]; rfl) | simp, by omega, Nat.le_refl _, ⟨below_then HB.out HB.out.size hb⟩, ⟨by rw [HST.out, if_neg (by simp)]⟩⟩
   ·have HST := Aside0.mk (I.out.trans hst)
    clear hst hp
    go_wp2_with fail
    refine hc.mono ?_
    rintro e w' ⟨rfl, hb⟩
    clear hc eg
    go_wp2
    go_ret
    exact ⟨by rw [HST.out]; first | rfl | (rw [if_pos trivial]; rfl) | simp, below_then HB.out HB.out.size hb⟩
  ·have HST := Aside0.mk (show cnt = -1 from by rw [I.out, List.drop_of_length_le (by omega)]; rfl)
   go_wp2
   go_ret
   exact ⟨by rw [HST.out]; rfl, HB.out⟩

set_option maxHeartbeats 1000000 in
set_option maxRecDepth 100000 in
theorem contains_calls (g : Nat) (cb : Array Value) (A0 : Option Addr) (c0 : Nat) (l : List Int) (p : Int → Bool) (w : World) (eg : ∀ args w, (callFunc g args).run Try.prog w = .ok (.enter g args) w) (hr0 : Kd.C (Kd.int .i64) w A0 l.length l)
  (hf : ∀ (W : World) (x : Int), Below w.heap.size w W → Calls Try.prog g (#[.int .i64 x] ++ cb) W fun e w' => e = .returned (.bool (p x)) ∧ Below W.heap.size W w') :
  Calls Try.prog 26 #[.slice A0 l.length c0, .func (.func g) #[] cb] w fun e w' => e = .returned (.bool (l.any p)) ∧ Below w.heap.size w w' := by
 have hc := index_calls g cb A0 c0 l p w eg hr0 hf
 have ha := idx_any p l 0
 generalize idxOf p 0 l = r at *
 generalize l.any p = b at *
 have HC := Aside0.mk hc
 have HA := Aside0.mk ha
 clear hc ha hf hr0
 go_enter Try.func26, Try.ntmps26
 go_wp2_with (first | (go_at_call 47; refine HC.out.mono ?_; rintro e w' ⟨rfl, hb⟩))
 go_ret
 exact ⟨by first | (rw [← HA.out]; rfl) | (simp [← HA.out]), hb⟩
end Go.Proofs.Ytgbjlcaanagfnaa.P

namespace Go.Proofs.Ytgbjlcaanagfnaa.P
open Go.RowKit Go.Proofs.YtgbjlcaanagfnaaW.PrintWords Go.Proofs.YtgbjlcaanagfnaaW.PrintLast Go.Proofs.YtgbjlcaanagfnaaW.PrintMore
set_option linter.unusedVariables false
set_option linter.unusedSimpArgs false

theorem all_step (l : List Int) (p : Int → Bool) (i : Nat) (h : i < l.length) : (l.drop i).all p = (p (rd l (i : Int)) && (l.drop (i + 1)).all p) := by
 rw [List.drop_eq_getElem_cons h, List.all_cons]; unfold rd; simp [h]

set_option maxHeartbeats 4000000 in
set_option maxRecDepth 100000 in
theorem all_calls (g : Nat) (cb : Array Value) (A0 : Option Addr) (c0 : Nat) (l : List Int) (p : Int → Bool) (w : World) (eg : ∀ args w, (callFunc g args).run Try.prog w = .ok (.enter g args) w) (hr0 : Kd.C (Kd.int .i64) w A0 l.length l)
  (hf : ∀ (W : World) (x : Int), Below w.heap.size w W → Calls Try.prog g (#[.int .i64 x] ++ cb) W fun e w' => e = .returned (.bool (p x)) ∧ Below W.heap.size W w') :
  Calls Try.prog 51 #[.slice A0 l.length c0, .func (.func g) #[] cb] w fun e w' => e = .returned (.bool (l.all p)) ∧ Below w.heap.size w w' := by
 have HF := Aside0.mk hf
 have HR := Aside0.mk hr0
 have hmax : l.length ≤ 9223372036854775807 := hr0.2.1
 clear hf hr0
 generalize hcnt : l.all p = cnt
 have CN := Aside0.mk hcnt
 clear hcnt
 go_enter Try.func51, Try.ntmps51
 go_wp2
 go_loopg [9] l.length (fun kx s9 wr => ∃ (i : Nat), s9 = .int .i64 i ∧ i ≤ l.length ∧ l.length - i ≤ kx ∧ Aside0 (Below w.heap.size w wr) ∧ Aside0 (cnt = (l.drop i).all p))
 case atStart => exact ⟨0, rfl, Nat.zero_le _, by omega, ⟨Below.refl _ _⟩, ⟨by rw [List.drop_zero]; exact CN.out.symm⟩⟩
 case round =>
  obtain ⟨i, rfl, hi, hg, HB, I⟩ := hrel
  by_cases hlt : i < l.length
  ·obtain ⟨ad, ea, hx⟩ := Kd.at_int HR.out (i : Int) (by omega) (by omega)
   subst ea
   replace hx := (HB.out.cell (World.block_lt_of_cell? w _ hx)).trans hx
   rw [Int.toNat_natCast] at hx
   have hc := HF.out wr (rd l (i : Int)) HB.out
   have hst := all_step l p i hlt
   generalize rd l (i : Int) = x at *
   have p1 : (0 ≤ (i : Int)) = True := eq_true (by omega)
   have q1 : ((i : Int) < (l.length : Int)) = True := eq_true (by omega)
   cases hp : p x <;> rw [hp] at hc hst
   ·have HST := Aside0.mk (I.out.trans hst)
    clear hst hp
    go_wp2_with fail
    refine hc.mono ?_
    rintro e w' ⟨rfl, hb⟩
    clear hc eg
    go_wp2
    go_ret
    exact ⟨by rw [HST.out]; rfl, below_then HB.out HB.out.size hb⟩
   ·have HST := Aside0.mk (I.out.trans hst)
    clear hst hp
    go_wp2_with fail
    refine hc.mono ?_
    rintro e w' ⟨rfl, hb⟩
    clear hc eg
    have hw : IntKind.i64.wrap ((i : Int) + 1) = ((i + 1 : Nat) : Int) := by rw [IntKind.wrap_i64]; omega
    go_wp2
    go_roundg (l.length - (i + 1))
    case measure => omega
    case rel => exact ⟨i + 1, by first | rfl | (rw [hw]; rfl) | simp, by omega, Nat.le_refl _, ⟨below_then HB.out HB.out.size hb⟩, ⟨by rw [HST.out, Bool.true_and]⟩⟩
  ·have HST := Aside0.mk (show cnt = true from by rw [I.out, List.drop_of_length_le (by omega)]; rfl)
   go_wp2
   go_ret
   exact ⟨by rw [HST.out]; rfl, HB.out⟩

theorem within_closure (m x : Int) (b : Nat) (W : World) (c1 : W.cell? ⟨b, 0, none⟩ = some (.int .i64 m)) :
  Calls Try.prog 52 (#[.int .i64 x] ++ #[.pointer (some ⟨b, 0, none⟩)]) W fun e w' => e = .returned (.bool (decide (0 ≤ x ∧ x ≤ m))) ∧ Below W.heap.size W w' := by
 by_cases h0 : 0 ≤ x
 ·have d0 : decide (x ≥ 0) = true := decide_eq_true h0
  have d0' : decide (0 ≤ x) = true := decide_eq_true h0
  go_enter Try.func52, Try.ntmps52
  go_wp2
  go_ret
  refine ⟨by simp [h0], ?_⟩
  first | exact Below.refl _ _ | exact pw_below_drewN (Below.refl _ _) _
 ·have d0 : decide (x ≥ 0) = false := decide_eq_false h0
  have d0' : decide (0 ≤ x) = false := decide_eq_false h0
  go_enter Try.func52, Try.ntmps52
  go_wp2
  go_ret
  refine ⟨by simp [h0], ?_⟩
  first | exact Below.refl _ _ | exact pw_below_drewN (Below.refl _ _) _

def fibre_within.f (l0 : List Int) (a1 : Int) : Option Bool := some (l0.all fun x => decide (0 ≤ x ∧ x ≤ a1))

theorem fcell_new (w : World) (v : Value) (t : TypeId) : (w.alloc (.cells #[v] t)).cell? ⟨w.heap.size, 0, none⟩ = some v := by
 rw [World.cell?_alloc_at _ _ _ _ (by simp)]; rfl

set_option maxHeartbeats 1000000 in
set_option maxRecDepth 100000 in
theorem fibre_within.calls (A0 : Option Addr) (c0 : Nat) (l0 : List Int) (a1 : Int) (r : Bool) (w : World) (hr0 : Kd.C (Kd.int .i64) w A0 l0.length l0) (hc0 : l0.length ≤ c0) (h : fibre_within.f l0 a1 = some r) :
  Calls Try.prog 31 #[.slice A0 l0.length c0, .int .i64 a1] w fun e w' => e = .returned (.bool r) ∧ Below w.heap.size w w' := by
 have hr := Option.some.inj h
 have HR := Aside0.mk hr0
 clear h hr0
 have hc := all_calls 52 #[.pointer (some ⟨w.heap.size, 0, none⟩)] A0 c0 l0 (fun x => decide (0 ≤ x ∧ x ≤ a1)) (w.alloc (.cells #[.int .i64 a1] 3)) (Go.Proofs.enters_of Try.func52 (by kernel_rfl) rfl)
  (Kd.C_alloc HR.out _) (fun W x hB => within_closure a1 x w.heap.size W (pw_cell_below hB (fcell_new _ _ _)))
 rw [hr] at hc
 have HC := Aside0.mk hc
 clear hc hr
 go_enter Try.func31, Try.ntmps31
 go_wp2_with (first | (go_at_call 51; refine HC.out.mono ?_; rintro e w' ⟨rfl, hb⟩))
 go_ret
 exact ⟨rfl, below_then (below_alloc (Below.refl _ _) _) (by simp) hb⟩
end Go.Proofs.Ytgbjlcaanagfnaa.P

namespace Go.Proofs.Ytgbjlcaanagfnaa.P
open Go.RowKit Go.Proofs.YtgbjlcaanagfnaaW.PrintWords Go.Proofs.YtgbjlcaanagfnaaW.PrintLast Go.Proofs.YtgbjlcaanagfnaaW.PrintMore
set_option linter.unusedVariables false
set_option linter.unusedSimpArgs false

def pipe_copied.f (l0 : List Int) : Option (List Int) := if l0.length ≤ 1000 then some l0 else none

theorem pad_copy {w1 : World} {g cap c0 : Nat} {ad : Addr} {l0 : List Int} {cur : Array Value} (hg : w1.heap[g]? = some (.cells cur 3 (0, 0))) (hsrc : ∀ j v, (encs (Value.int .i64) l0)[j]? = some v → w1.cell? (ad.add j) = some v) (hfit : l0.length ≤ cur.size) :
    (Builtin.copy_ #[22, 22] 3 #[.slice (some ⟨g, 0, none⟩) l0.length cap, .slice (some ad) l0.length c0]).run Try.prog w1 = .ok (goInt l0.length) (w1.setRow g (encs (Value.int .i64) l0 ++ cur.toList.drop l0.length).toArray) := by
  have hlen : (encs (Value.int .i64) l0).length = l0.length := by simp [encs]
  have h := run_copy_row (P := Try.prog) w1 22 22 3 3 g 0 l0.length cap ad l0.length c0 cur 3 (encs (Value.int .i64) l0) Try.underlying22 (by kernel_rfl) hg (by rw [hlen]; simp) hsrc (by rw [hlen]; omega) (by
    intro v hv
    simp [encs] at hv
    obtain ⟨x, _, rfl⟩ := hv
    rfl)
  rw [hlen] at h
  simpa using h

theorem pad_own {w1 : World} {g cap base : Nat} {l0 : List Int} {cur : Array Value} (hg : w1.heap[g]? = some (.cells cur 3 (0, 0))) (hb : base ≤ g) (h1 : l0.length ≤ cap) (h2 : cap ≤ maxLen) (h3 : cur.size = cap) :
    (w1.setRow g (encs (Value.int .i64) l0 ++ cur.toList.drop l0.length).toArray).ownsRow base 3 1 (.slice (some ⟨g, 0, none⟩) l0.length cap) l0.length (encs (Value.int .i64) l0) := by
  have hlen : (encs (Value.int .i64) l0).length = l0.length := by simp [encs]
  refine ⟨by rw [hlen, Nat.mul_one], .inr ⟨g, cap, _, rfl, hb, setRow_heap _ g _ _ 3 _ hg, h1, h2, ?_, ?_⟩⟩
  · simp only [List.size_toArray, List.length_append, List.length_drop, Array.length_toList, hlen]; omega
  · rw [Nat.mul_one, List.toList_toArray, List.take_append_of_le_length (by omega), List.take_of_length_le (by omega)]

set_option maxHeartbeats 1000000 in
set_option maxRecDepth 100000 in
theorem copied_none (A0 : Option Addr) (c0 : Nat) (l0 : List Int) (w : World) (hr0 : Kd.C (Kd.int .i64) w A0 l0.length l0) (hc0 : l0.length ≤ c0) (hl : l0.length = 0) :
    Calls Try.prog 33 #[.slice A0 l0.length c0] w fun e w' => ∃ v0_ : Value, e = .returned v0_ ∧ Kd.R (Kd.int .i64) 3 w' w.heap.size (fun _ => True) v0_ l0 ∧ Below w.heap.size w w' := by
  have HR := Aside0.mk hr0
  obtain rfl : l0 = [] := List.eq_nil_of_length_eq_zero hl
  clear hr0
  have hcp : ∀ (W : World) (A B : Option Addr) (c d : Nat), (Builtin.copy_ #[22, 22] 3 #[.slice A 0 c, .slice B 0 d]).run Try.prog W = .ok (goInt 0) W := fun W A B c d => run_copy_none (P := Try.prog) W 22 22 3 3 A B 0 c 0 d Try.underlying22 (by kernel_rfl) rfl
  go_enter Try.func33, Try.ntmps33
  go_wp2_with (first
    | ((with_reducible refine gate_dst (N := 6) rfl ?_); refine Kd.R_make (Kd.int .i64) _ 3 rfl (N := 6) rfl 22 _ _ rfl (0 : Int) rfl rfl Try.underlying22 (.int .i64 0) 8 info3 rfl (by decide) (by omega) 0 (ok := fun _ => True) (okp := fun _ => True) rfl (fun _ hk => hk) trivial (by omega) (by omega) (Below.refl _ _) (Nat.le_refl _) ?_
       intro v1 w1 ho hbm hg_ hnew_
       obtain ⟨A1, c1, ev⟩ := Kd.R_slice ho
       subst ev
       have HO := Aside0.mk ho
       have HB := Aside0.mk hbm
       clear ho hbm hg_ hnew_))
  go_ret
  exact ⟨_, rfl, HO.out, HB.out⟩

set_option maxHeartbeats 1000000 in
set_option maxRecDepth 100000 in
theorem copied_some (A0 : Option Addr) (c0 : Nat) (l0 : List Int) (w : World) (hr0 : Kd.C (Kd.int .i64) w A0 l0.length l0) (hc0 : l0.length ≤ c0) (hl : l0.length ≤ 1000) (hp : 0 < l0.length) :
    Calls Try.prog 33 #[.slice A0 l0.length c0] w fun e w' => ∃ v0_ : Value, e = .returned v0_ ∧ Kd.R (Kd.int .i64) 3 w' w.heap.size (fun _ => True) v0_ l0 ∧ Below w.heap.size w w' := by
  have HR := Aside0.mk hr0
  clear hr0
  go_enter Try.func33, Try.ntmps33
  go_wp2_with (first
    | ((with_reducible refine gate_dst (N := 6) rfl ?_); refine Kd.R_make (Kd.int .i64) _ 3 rfl (N := 6) rfl 22 _ _ rfl (l0.length : Int) rfl rfl Try.underlying22 (.int .i64 0) 8 info3 rfl (by decide) (by omega) 0 (ok := fun _ => True) (okp := fun _ => True) rfl (fun _ hk => hk) trivial (by omega) (by omega) (Below.refl _ _) (Nat.le_refl _) ?_
       intro v1 w1 ho hbm hg_ hnew_
       rw [Int.toNat_natCast] at ho
       have how := Kd.own_of_R ho
       rw [List.length_replicate] at how
       obtain ⟨hx1, hx2⟩ := how
       rcases hx2 with ⟨hh, h0⟩ | ⟨g, cap, cur, hv, hb, hh, hn, hm, hs, ht⟩
       · omega
       subst hv
       obtain ⟨ad, ea, hrd⟩ := (Kd.reads_of_C (enc := Value.int .i64) (d := (0 : Int)) (Kd.C_below HR.out hbm)).2.2 (by omega)
       subst ea
       have HB := Aside0.mk hbm
       have HG := Aside0.mk hh
       have hcopy := pad_copy (cap := cap) (c0 := c0) (ad := ad) (l0 := l0) hh (fun j v hj => by
         have hjl : j < l0.length := by
           have := (List.getElem?_eq_some_iff.1 hj).1
           simpa [encs] using this
         have := hrd j hjl
         rw [this]
         simp [encs, hjl] at hj
         rw [← hj]
         simp [List.getD_eq_getElem?_getD, hjl]) (by omega)
       have HC := Aside0.mk hcopy
       have HOW := Aside0.mk (pad_own (cap := cap) (l0 := l0) hh hb hn hm (by omega))
       have HBW := Aside0.mk (below_setRow (g := g) hbm hb (encs (Value.int .i64) l0 ++ cur.toList.drop l0.length).toArray)
       clear ho hbm hg_ hnew_ hh hcopy hrd hx1 ht))
  rw [HC.out]
  generalize (w1.setRow g (encs (Value.int .i64) l0 ++ cur.toList.drop l0.length).toArray) = w2 at HOW HBW ⊢
  go_wp2
  go_ret
  exact ⟨_, rfl, Kd.R_of_own HOW.out (fun _ _ => trivial), HBW.out⟩

theorem pipe_copied.calls (A0 : Option Addr) (c0 : Nat) (l0 : List Int) (r : List Int) (w : World) (hr0 : Kd.C (Kd.int .i64) w A0 l0.length l0) (hc0 : l0.length ≤ c0) (h : pipe_copied.f l0 = some r) :
    Calls Try.prog 33 #[.slice A0 l0.length c0] w fun e w' => ∃ v0_ : Value, e = .returned v0_ ∧ Kd.R (Kd.int .i64) 3 w' w.heap.size (fun _ => True) v0_ r ∧ Below w.heap.size w w' := by
  unfold pipe_copied.f at h
  split at h
  · rename_i hh
    have hl := hh
    cases h
    by_cases h0 : l0.length = 0
    · exact copied_none A0 c0 l0 w hr0 hc0 h0
    · exact copied_some A0 c0 l0 w hr0 hc0 hl (by omega)
  · cases h
end Go.Proofs.Ytgbjlcaanagfnaa.P

namespace Go.Proofs.Ytgbjlcaanagfnaa.P
open Go.RowKit Go.Proofs.YtgbjlcaanagfnaaW.PrintWords Go.Proofs.YtgbjlcaanagfnaaW.PrintLast Go.Proofs.YtgbjlcaanagfnaaW.PrintMore
set_option linter.unusedVariables false
set_option linter.unusedSimpArgs false

def slices_Clone.f (l0 : List Int) : Option (List Int) := if l0.length ≤ 100000 then some l0 else none

set_option maxHeartbeats 1000000 in
set_option maxRecDepth 100000 in
theorem slices_Clone.calls (A0 : Option Addr) (c0 : Nat) (l0 : List Int) (r : List Int) (w : World) (hr0 : Kd.C (Kd.int .i64) w A0 l0.length l0) (hc0 : l0.length ≤ c0) (h : slices_Clone.f l0 = some r) :
  Calls Try.prog 14 #[.slice A0 l0.length c0] w fun e w' => ∃ v0_ : Value, e = .returned v0_ ∧ Kd.R (Kd.int .i64) 3 w' w.heap.size (fun _ => True) v0_ r ∧ Below w.heap.size w w' := by
 unfold slices_Clone.f at h
 by_cases hl : l0.length ≤ 100000
 case neg => rw [if_neg hl] at h; cases h
 rw [if_pos hl] at h
 cases h
 have HR := Aside0.mk hr0
 cases A0 with
 | none =>
  have h0 : l0 = [] := by
   have := hr0.2.2
   rcases Nat.eq_zero_or_pos l0.length with z | z
   ·exact List.eq_nil_of_length_eq_zero z
   ·obtain ⟨ad, e, _⟩ := Kd.at_int hr0 0 (by omega) (by omega)
    cases e
  subst h0
  clear hr0
  have hq : ∀ W, (binOp .eql 22 (.slice none 0 c0) (.slice none 0 0)).run Try.prog W = .ok (.bool true) W := fun W => run_eql_slice_nil W _ _ none _ _ Try.underlying22
  go_enter Try.func14, Try.ntmps14
  go_wp2
  go_ret
  exact ⟨_, rfl, Kd.R_nil _ _ _ _ _, Below.refl _ _⟩
 | some ad =>
  clear hr0
  have HB := Aside0.mk (Below.refl w.heap.size w)
  have hq : ∀ W, (binOp .eql 22 (.slice (some ad) l0.length c0) (.slice none 0 0)).run Try.prog W = .ok (.bool false) W := fun W => run_eql_slice_nil W _ _ (some ad) _ _ Try.underlying22
  go_enter Try.func14, Try.ntmps14
  go_wp2_with (first | ((with_reducible refine gate_dst (N := 5) rfl ?_); refine Kd.R_lit (Kd.int .i64) _ 3 ?hg (N := 5) ?hd (xs := ([] : List Int)) (inner := []) (ok := fun _ => True) (okp := fun _ => True) ?hr ?hp (fun _ hk => hk) trivial (Below.refl _ _) (Nat.le_refl _) (by simp) ?_; (case hd => rfl); (case hg => rfl); (case hr => first | (go_simp; done) | (go_simp; rfl)); (case hp => exact (Reps.none _ _)); intro v298 w11 ho12 hb hg_ hnew_; have n0_ := Aside0.mk (Kd.R_lower ho12 (below_size HB.out)); have n1_ := Aside0.mk (below_step HB.out hb); clear HB hg_ hnew_ hb ho12; have HO := n0_; have HB := n1_; clear n0_ n1_) | ((with_reducible refine gate_builtin (b := .append) (xs := #[.tmp 5, .tmp 6]) rfl ?_); at_builtin; refine Kd.R_append_rows (Kd.int .i64) (w0 := w) w.heap.size rfl (.tmp 5) (.tmp 6) 22 3 (.int .i64 0) 8 rfl Try.underlying22 info3 rfl (by decide) (by omega) v298 [] l0 _ _ _ (fun _ => True) (fun _ => False) rfl rfl ?aO ?aR (fun _ _ h => h) (fun _ h => h.elim) ?aF ?aB ?aS ?aL ?_; (case aR => exact Kd.C_below HR.out HB.out); (case aB => exact HB.out); (case aF => exact (fun _ _ => trivial)); (case aO => exact HO.out); (case aS => exact below_size HB.out); (case aL => simp only [List.length_nil]; omega); intro v1 w12 ho hb hg hat; have n0_ := Aside0.mk ho; have n1_ := Aside0.mk hb; clear HO HB ho hb hg hat; have HO := n0_; have HB := n1_; clear n0_ n1_))
  go_ret
  exact ⟨_, rfl, HO.out, HB.out⟩
end Go.Proofs.Ytgbjlcaanagfnaa.P

namespace Go.Proofs.Ytgbjlcaanagfnaa.P
open Go.RowKit Go.Proofs.YtgbjlcaanagfnaaW.PrintWords Go.Proofs.YtgbjlcaanagfnaaW.PrintLast Go.Proofs.YtgbjlcaanagfnaaW.PrintMore
set_option linter.unusedVariables false
set_option linter.unusedSimpArgs false

set_option maxHeartbeats 1000000 in
set_option maxRecDepth 100000 in
theorem clone_chests (ad : Addr) (c0 : Nat) (l : List S56) (okp : Nat → Prop) (w : World) (hr : Kd.F k56 w okp (some ad) l.length l) (hc0 : l.length ≤ c0) (hl : l.length ≤ 1000) :
  Calls Try.prog 42 #[.slice (some ad) l.length c0] w fun e w' => ∃ v0_ : Value, e = .returned v0_ ∧ Kd.N k56 56 w' w.heap.size (fun k => okp k ∨ w.heap.size ≤ k) v0_ l ∧ Below w.heap.size w w' := by
 have HR := Aside0.mk (Kd.F_bound hr)
 have HB := Aside0.mk (Below.refl w.heap.size w)
 clear hr
 have hq : ∀ W, (binOp .eql 49 (.slice (some ad) l.length c0) (.slice none 0 0)).run Try.prog W = .ok (.bool false) W := fun W => run_eql_slice_nil W _ _ (some ad) _ _ Try.underlying49
 go_enter Try.func42, Try.ntmps42
 go_wp2_with (first | ((with_reducible refine gate_dst (N := 5) rfl ?_); refine Kd.N_lit k56 _ 56 ?hg (N' := 5) ?hd (xs := ([] : List S56)) (inner := []) (ok := fun k => okp k ∨ w.heap.size ≤ k) (okp := fun _ => False) ?hr ?hp (fun _ hk => hk.elim) ?hf (Below.refl _ _) (Nat.le_refl _) (by simp) ?_; (case hd => rfl); (case hg => rfl); (case hr => first | (go_simp; done) | (go_simp; rfl)); (case hp => exact (Reps.none _ _)); (case hf => exact .inr (Nat.le_refl _)); intro v298 w11 ho12 hb hg_ hnew_; have n0_ := Aside0.mk ho12; have n1_ := Aside0.mk (below_step HB.out hb); clear HB hg_ hnew_ hb ho12; have HO := n0_; have HB := n1_; clear n0_ n1_) | ((with_reducible refine gate_builtin (b := .append) (xs := #[.tmp 5, .tmp 6]) rfl ?_); at_builtin; refine Kd.N_append_rows k56 (w0 := w) w.heap.size rfl (.tmp 5) (.tmp 6) 49 56 (.agg #[.int .i64 0, .slice none 0 0]) 32 rfl Try.underlying49 infoChest rfl (by decide) (by omega) v298 [] l _ _ _ (fun k => okp k ∨ w.heap.size ≤ k) (fun k => okp k ∧ k < w.heap.size) rfl rfl ?aO ?aR ?aK ?aF ?aB ?aS ?aL ?_; (case aR => exact Kd.F_below HR.out HB.out); (case aK => exact fun k hk => ⟨.inl hk.1, fun e => by have := Kd.N_base HO.out k e.symm; have := hk.2; omega⟩); (case aB => exact HB.out); (case aF => exact (fun k hk => .inr (Nat.le_trans (below_size HB.out) hk))); (case aO => exact HO.out); (case aS => exact below_size HB.out); (case aL => simp only [List.length_nil]; omega); intro v1 w12 ho hb hg hat; have n0_ := Aside0.mk ho; have n1_ := Aside0.mk hb; clear HO HB ho hb hg hat; have HO := n0_; have HB := n1_; clear n0_ n1_))
 go_ret
 exact ⟨_, rfl, HO.out, HB.out⟩

theorem kP_own {W : World} {b : Nat} {ok : Nat → Prop} (x : Int × Int × Int) (c : List Value) (h : kP.K W x c) : kP.M W b ok x c := h
set_option maxHeartbeats 1000000 in
set_option maxRecDepth 100000 in
theorem clone_pumps (ad : Addr) (c0 : Nat) (l : List (Int × Int × Int)) (w : World) (hr : Kd.C kP w (some ad) l.length l) (hc0 : l.length ≤ c0) (hl : l.length ≤ 1000) :
  Calls Try.prog 15 #[.slice (some ad) l.length c0] w fun e w' => ∃ v0_ : Value, e = .returned v0_ ∧ Kd.R kP 35 w' w.heap.size (fun _ => True) v0_ l ∧ Below w.heap.size w w' := by
 have HR := Aside0.mk hr
 have HB := Aside0.mk (Below.refl w.heap.size w)
 clear hr
 have hq : ∀ W, (binOp .eql 23 (.slice (some ad) l.length c0) (.slice none 0 0)).run Try.prog W = .ok (.bool false) W := fun W => run_eql_slice_nil W _ _ (some ad) _ _ Try.underlying23
 go_enter Try.func15, Try.ntmps15
 go_wp2_with (first | ((with_reducible refine gate_dst (N := 5) rfl ?_); refine Kd.R_lit kP _ 35 ?hg (N := 5) ?hd (xs := ([] : List (Int × Int × Int))) (inner := []) (ok := fun _ => True) (okp := fun _ => True) ?hr ?hp (fun _ hk => hk) trivial (Below.refl _ _) (Nat.le_refl _) (by simp) ?_; (case hd => rfl); (case hg => rfl); (case hr => first | (go_simp; done) | (go_simp; rfl)); (case hp => exact (Reps.none _ _)); intro v298 w11 ho12 hb hg_ hnew_; have n0_ := Aside0.mk (Kd.R_lower ho12 (below_size HB.out)); have n1_ := Aside0.mk (below_step HB.out hb); clear HB hg_ hnew_ hb ho12; have HO := n0_; have HB := n1_; clear n0_ n1_) | ((with_reducible refine gate_builtin (b := .append) (xs := #[.tmp 5, .tmp 6]) rfl ?_); at_builtin; refine Kd.R_append_rows kP (w0 := w) w.heap.size rfl (.tmp 5) (.tmp 6) 23 35 (.agg #[.int .i64 0, .int .i64 0, .int .i64 0]) 24 rfl Try.underlying23 infoPump rfl (by decide) (by omega) v298 [] l _ _ _ (fun _ => True) (fun _ => False) rfl rfl ?aO ?aR (fun _ _ h => h) (fun _ h => h.elim) ?aF ?aB ?aS ?aL ?_; (case aR => exact Kd.C_below HR.out HB.out); (case aB => exact HB.out); (case aF => exact (fun _ _ => trivial)); (case aO => exact HO.out); (case aS => exact below_size HB.out); (case aL => simp only [List.length_nil]; omega); intro v1 w12 ho hb hg hat; have n0_ := Aside0.mk ho; have n1_ := Aside0.mk hb; clear HO HB ho hb hg hat; have HO := n0_; have HB := n1_; clear n0_ n1_))
 go_ret
 exact ⟨_, rfl, HO.out, HB.out⟩
end Go.Proofs.Ytgbjlcaanagfnaa.P

namespace Go.Proofs.Ytgbjlcaanagfnaa.P
open Go.RowKit Go.Proofs.YtgbjlcaanagfnaaW.PrintWords Go.Proofs.YtgbjlcaanagfnaaW.PrintLast Go.Proofs.YtgbjlcaanagfnaaW.PrintMore
set_option linter.unusedVariables false
set_option linter.unusedSimpArgs false

/-- The first parts changed. -/
def chgTo (l m : List Int) (s : Int) : Nat → List Int
 | 0 => l
 | i + 1 => (chgTo l m s i).set i (wrap64 (rd (chgTo l m s i) i + wrap64 (s * rd m i)))
theorem chgTo_len (l m : List Int) (s : Int) : ∀ i, (chgTo l m s i).length = l.length
 | 0 => rfl
 | i + 1 => by simp [chgTo, chgTo_len l m s i]

theorem two_new (W : World) (a b : Array Value) (ta tb : TypeId) : ((W.alloc (.cells a ta)).alloc (.cells b tb)).drew.heap[W.heap.size]? = some (.cells a ta (0, 0)) ∧ ((W.alloc (.cells a ta)).alloc (.cells b tb)).drew.heap[W.heap.size + 1]? = some (.cells b tb (0, 0)) :=
 ⟨blk_drew (blk_alloc (blk_new W _) _), by
  have := blk_new (W.alloc (.cells a ta)) (.cells b tb)
  rw [show (W.alloc (.cells a ta)).heap.size = W.heap.size + 1 from by simp] at this
  exact blk_drew this⟩
theorem two_below {w W : World} (h : Below w.heap.size w W) (o o' : Obj) : Below w.heap.size w ((W.alloc o).alloc o').drew := below_drew (below_alloc (below_alloc h o) o')

set_option maxHeartbeats 1000000 in
set_option maxRecDepth 100000 in
theorem changed_walk (a0 : Int) (A0 : Option Addr) (c0 : Nat) (l0 : List Int) (A1 : Option Addr) (c1 : Nat) (l1 : List Int) (s : Int) (w : World) (hr0 : Kd.C (Kd.int .i64) w A0 l0.length l0) (hc0 : l0.length ≤ c0) (hr1 : Kd.C (Kd.int .i64) w A1 l1.length l1) (hc1 : l1.length ≤ c1) (hp : 0 < l0.length) (hl : l0.length ≤ 1000) (hm : l1.length ≤ l0.length) :
  Calls Try.prog 41 #[.agg #[.int .i64 a0, .slice A0 l0.length c0], .slice A1 l1.length c1, .int .i64 s] w fun e w' => ∃ v1_ : Value, e = .returned (.agg #[.int .i64 a0, v1_]) ∧ Kd.R (Kd.int .i64) 3 w' w.heap.size (fun _ => True) v1_ (chgTo l0 l1 s l1.length) ∧ Below w.heap.size w w' := by
 have HR0 := Aside0.mk hr0
 have HR1 := Aside0.mk hr1
 have HB := Aside0.mk (Below.refl w.heap.size w)
 clear hr0 hr1
 go_enter Try.func41, Try.ntmps41
 go_wp2_with (first | ((with_reducible refine gate_dst (N := 3) rfl ?_); refine box_event ?hg (N := 3) ?hd (cs := #[.int .i64 a0, .slice A0 l0.length c0]) (t := 56) ?hr ?_; (case hd => rfl); (case hg => rfl); (case hr => first | (go_simp; done) | (go_simp; rfl)); intro g3 hg w1 hbox hb; have n0_ := Aside0.mk (below_step HB.out hb); have n1_ := Aside0.mk hbox; have n2_ := Aside0.mk (show w.heap.size ≤ g3 by rw [hg]; exact Nat.le_refl _); clear HB; have HB := n0_; have BK3 := n1_; have GE3 := n2_; clear n0_ n1_ n2_ hb hbox hg) | ((with_reducible refine gate_dst (N := 6) rfl ?_); refine box_event ?hg (N := 6) ?hd (cs := #[.int .i64 0, .slice none 0 0]) (t := 56) ?hr ?_; (case hd => rfl); (case hg => rfl); (case hr => first | (go_simp; done) | (go_simp; rfl)); intro g6 hg w2 hbox hb; have n0_ := Aside0.mk (below_step HB.out hb); have n1_ := Aside0.mk hbox; have n2_ := Aside0.mk (blk_below (g := g3) (o := .cells #[.int .i64 a0, .slice A0 l0.length c0] 56 (0, 0)) BK3.out hb); have n3_ := Aside0.mk (show w.heap.size ≤ g6 by rw [hg]; exact below_size HB.out); clear HB BK3; have HB := n0_; have BK6 := n1_; have BK3 := n2_; have GE6 := n3_; clear n0_ n1_ n2_ n3_ hb hbox hg))
 have hc30 : w2.cell? ⟨g3, 0, none⟩ = some (.int .i64 a0) := (blk_cell BK3.out 0).trans rfl
 have hc31 : w2.cell? ⟨g3, 1, none⟩ = some (.slice A0 l0.length c0) := (blk_cell BK3.out 1).trans rfl
 have hmk : ∀ W : World, (Instr.makeSlice 22 (.int .i64 (l0.length : Int)) (.int .i64 (l0.length : Int))).run Try.prog W = .ok (.slice (some ⟨W.heap.size, 0, none⟩) l0.length l0.length) (W.alloc (.cells (madeCells #[.int .i64 0] l0.length) 3)) := fun W =>
  run_make_row' (P := Try.prog) 22 3 (.int .i64 0) 8 Try.underlying22 info3 rfl .i64 .i64 l0.length (by omega) (by omega) W
 have hA30 : ∀ o, (w2.alloc o).cell? ⟨g3, 0, none⟩ = some (.int .i64 a0) := fun o => pw_cell_below (below_alloc (Below.refl _ _) _) hc30
 have hA31 : ∀ o, (w2.alloc o).cell? ⟨g3, 1, none⟩ = some (.slice A0 l0.length c0) := fun o => pw_cell_below (below_alloc (Below.refl _ _) _) hc31
 have hA40 : ∀ o o', ((w2.alloc o).alloc o').cell? ⟨g3, 0, none⟩ = some (.int .i64 a0) := fun o o' => pw_cell_below (below_alloc (Below.refl _ _) _) (hA30 o)
 have hA41 : ∀ o o', ((w2.alloc o).alloc o').cell? ⟨g3, 1, none⟩ = some (.slice A0 l0.length c0) := fun o o' => pw_cell_below (below_alloc (Below.refl _ _) _) (hA31 o)
 have hms : (madeCells #[Value.int .i64 0] l0.length).size = l0.length := by simp [madeCells]
 generalize madeCells #[Value.int .i64 0] l0.length = mk at *
 rename_i K hK
 have fin : ∀ (g7 g : Nat) (W : World), Aside0 (Below w.heap.size w W) → Aside0 (W.heap[g6]? = some (.cells #[.int .i64 0, .slice none 0 0] 56 (0, 0))) → Aside0 (W.heap[g3]? = some (.cells #[.int .i64 a0, .slice A0 l0.length c0] 56 (0, 0))) →
   Aside0 (W.heap[g7]? = some (.cells #[.int .i64 a0, .slice (some ⟨g, 0, none⟩) l0.length l0.length] 56 (0, 0))) → Aside0 (W.heap[g]? = some (.cells mk 3 (0, 0))) → Aside0 (w.heap.size ≤ g7) → Aside0 (w.heap.size ≤ g) → Aside0 (g7 ≠ g6) →
   K ⟨#[.agg #[.int .i64 a0, .slice A0 l0.length c0], .slice A1 l1.length c1, .int .i64 s, .pointer (some ⟨g3, 0, none⟩), undef, undef, .pointer (some ⟨g6, 0, none⟩), .pointer (some ⟨g7, 0, none⟩), undef, undef, .pointer (some ⟨g3, 0, none⟩), .int .i64 a0, .pointer (some ⟨g3, 1, none⟩), .slice A0 l0.length c0, .int .i64 l0.length, .slice (some ⟨g, 0, none⟩) l0.length l0.length, .agg #[.int .i64 a0, .slice (some ⟨g, 0, none⟩) l0.length l0.length], undef, undef, undef, undef, undef, undef, undef, undef, undef, undef, undef, undef, undef, undef, undef, undef, undef, undef, undef, undef, undef, undef, undef, undef], []⟩ W := by
  clear hA30 hA31 hA40 hA41 hc30 hc31 hmk BK3 BK6 HB
  intro g7 g W HB BK6 BK3 BK7 BG GE7 GEG N76
  apply hK
  clear hK
  have hc30 : W.cell? ⟨g3, 0, none⟩ = some (.int .i64 a0) := (blk_cell BK3.out 0).trans rfl
  have hc31 : W.cell? ⟨g3, 1, none⟩ = some (.slice A0 l0.length c0) := (blk_cell BK3.out 1).trans rfl
  have hc70 : W.cell? ⟨g7, 0, none⟩ = some (.int .i64 a0) := (blk_cell BK7.out 0).trans rfl
  have hc71 : W.cell? ⟨g7, 1, none⟩ = some (.slice (some ⟨g, 0, none⟩) l0.length l0.length) := (blk_cell BK7.out 1).trans rfl
  obtain ⟨ad, ea, hrd⟩ := (Kd.reads_of_C (enc := Value.int .i64) (d := (0 : Int)) (Kd.C_below HR0.out HB.out)).2.2 hp
  subst ea
  have hcopy := pad_copy (w1 := W) (cap := l0.length) (c0 := c0) (ad := ad) (l0 := l0) BG.out (fun j v hj => by
     have hjl : j < l0.length := by
      have := (List.getElem?_eq_some_iff.1 hj).1
      simpa [encs] using this
     have := hrd j hjl
     rw [this]
     simp [encs, hjl] at hj
     rw [← hj]
     simp [List.getD_eq_getElem?_getD, hjl]) (by omega)
  have HC := Aside0.mk hcopy
  have HOW := pad_own (cap := l0.length) (l0 := l0) BG.out GEG.out (Nat.le_refl _) (by unfold maxLen; omega) (by omega)
  have HBW := below_setRow (g := g) HB.out GEG.out (encs (Value.int .i64) l0 ++ mk.toList.drop l0.length).toArray
  have NG7 := blk_ne BK7.out BG.out (by decide)
  have NG6 := blk_ne BK6.out BG.out (by decide)
  have BK7W := (setRow_other W g g7 (encs (Value.int .i64) l0 ++ mk.toList.drop l0.length).toArray NG7).trans BK7.out
  have BK6W := (setRow_other W g g6 (encs (Value.int .i64) l0 ++ mk.toList.drop l0.length).toArray NG6).trans BK6.out
  clear hcopy hrd
  go_wp2
  rw [HC.out]
  clear HC hc30 hc31 hc70 hc71 HB BK7 BK6 BK3
  generalize (W.setRow g (encs (Value.int .i64) l0 ++ mk.toList.drop l0.length).toArray) = W2 at *
  have HO := Aside0.mk (Kd.R_of_own (enc := Value.int .i64) (h1 := fun _ => rfl) (ok := fun _ => True) HOW (fun _ _ => trivial))
  have HB := Aside0.mk HBW
  have BK7 := Aside0.mk BK7W
  have BK6 := Aside0.mk BK6W
  have NG7' := Aside0.mk NG7
  have NG6' := Aside0.mk NG6
  clear HOW HBW BK7W BK6W NG7 NG6
  go_wp2
  go_loopg [24] l1.length (fun kx s24 wr => ∃ (i : Nat), s24 = .int .i64 i ∧ i ≤ l1.length ∧ l1.length - i ≤ kx ∧ Aside0 (Below w.heap.size w wr) ∧ Aside0 (Kd.R (Kd.int .i64) 3 wr w.heap.size (fun _ => True) (.slice (some ⟨g, 0, none⟩) l0.length l0.length) (chgTo l0 l1 s i)) ∧
   Aside0 (wr.heap[g7]? = some (.cells #[.int .i64 a0, .slice (some ⟨g, 0, none⟩) l0.length l0.length] 56 (0, 0))) ∧ Aside0 (wr.heap[g6]? = some (.cells #[.int .i64 0, .slice none 0 0] 56 (0, 0))))
  case atStart => exact ⟨0, rfl, Nat.zero_le _, by omega, HB, HO, BK7, BK6⟩
  case round =>
   clear HB HO BK7 BK6
   obtain ⟨i, rfl, hi, hg, HB, HO, BK7, BK6⟩ := hrel
   have hc70 : wr.cell? ⟨g7, 0, none⟩ = some (.int .i64 a0) := (blk_cell BK7.out 0).trans rfl
   have hc71 : wr.cell? ⟨g7, 1, none⟩ = some (.slice (some ⟨g, 0, none⟩) l0.length l0.length) := (blk_cell BK7.out 1).trans rfl
   by_cases hlt : i < l1.length
   ·obtain ⟨ad1, e1, hx1⟩ := Kd.at_int HR1.out (i : Int) (by omega) (by omega)
    subst e1
    replace hx1 := (HB.out.cell (World.block_lt_of_cell? w _ hx1)).trans hx1
    rw [Int.toNat_natCast] at hx1
    have p1 : (0 ≤ (i : Int)) = True := eq_true (by omega)
    have q1 : ((i : Int) < (l1.length : Int)) = True := eq_true (by omega)
    have q2 : ((i : Int) < (l0.length : Int)) = True := eq_true (by omega)
    obtain ⟨hxO, hfO⟩ := Kd.R_celln 0 HO.out (i : Int) (by omega) (by omega)
    have HPO := Kd.R_putg HO.out (i : Int) (wrap64 (rd (chgTo l0 l1 s i) (i : Int) + wrap64 (s * rd l1 (i : Int))))
    rw [show chgTo l0 l1 s i = chgTo l0 l1 s i from rfl, Int.toNat_natCast] at HPO
    rw [Int.toNat_natCast] at hxO hfO
    replace hxO : wr.cell? ⟨g, i, none⟩ = some (.int .i64 (rd (chgTo l0 l1 s i) (i : Int))) := hxO
    have hst : (chgTo l0 l1 s i).set i (wrap64 (rd (chgTo l0 l1 s i) (i : Int) + wrap64 (s * rd l1 (i : Int)))) = chgTo l0 l1 s (i + 1) := rfl
    rw [hst] at HPO
    clear hst
    have HST := Aside0.mk HPO
    clear HPO
    generalize rd (chgTo l0 l1 s i) (i : Int) = y at *
    generalize rd l1 (i : Int) = x at *
    have hw : IntKind.i64.wrap ((i : Int) + 1) = ((i + 1 : Nat) : Int) := by rw [IntKind.wrap_i64]; omega
    go_wp2_with (first | ((with_reducible refine gate_store (t := 3) (p := 38) rfl ?_); refine store_event (t := 3) (p := 38) (v := ?vo_w14) (w1 := (wr.setCell ⟨g, i, none⟩ (.int .i64 (wrap64 (y + wrap64 (s * x)))))) ?hg ?ho ?hn ?hr ?_; (case ho => rfl); (case hg => rfl); (case hn => rfl); (case hr => first | (go_simp; done) | (go_simp; rfl)); intro w14 hw14; have n0_ := Aside0.mk (show Kd.R (Kd.int .i64) 3 w14 w.heap.size (fun _ => True) (.slice (some ⟨g, 0, none⟩) l0.length l0.length) (chgTo l0 l1 s (i + 1)) from (by rw [hw14]; exact HST.out.1)); have n1_ := Aside0.mk ((by rw [hw14]; exact below_set (HB.out) GEG.out : Below w.heap.size w w14)); have n2_ := Aside0.mk (show w14.heap[g7]? = some (.cells #[.int .i64 a0, .slice (some ⟨g, 0, none⟩) l0.length l0.length] 56 (0, 0)) from (by rw [hw14]; exact blk_far BK7.out NG7'.out _)); have n3_ := Aside0.mk (show w14.heap[g6]? = some (.cells #[.int .i64 0, .slice none 0 0] 56 (0, 0)) from (by rw [hw14]; exact blk_far BK6.out NG6'.out _)); clear HO HB BK7 BK6 HST; have HO := n0_; have HB := n1_; have BK7 := n2_; have BK6 := n3_; clear n0_ n1_ n2_ n3_ hw14))
    go_roundg (l1.length - (i + 1))
    case measure => omega
    case rel => exact ⟨i + 1, by first | rfl | (rw [hw]; rfl) | simp, by omega, Nat.le_refl _, HB, HO, BK7, BK6⟩
   ·obtain rfl : i = l1.length := by omega
    have hc60 : wr.cell? ⟨g6, 0, none⟩ = some (.int .i64 0) := (blk_cell BK6.out 0).trans rfl
    have hc61 : wr.cell? ⟨g6, 1, none⟩ = some (.slice none 0 0) := (blk_cell BK6.out 1).trans rfl
    have hf60 := blk_frozen BK6.out 0
    have hf61 := blk_frozen BK6.out 1
    go_wp2
    have HT := Kd.R_types HO.out BK6.out (by intro q hq; rw [show (Kd.int .i64).E = [] from rfl, List.mem_singleton] at hq; subst hq; decide)
    refine bodyPost_ret (results_cell_row rfl _ _ g6 56 #[.int .i64 a0, .slice (some ⟨g, 0, none⟩) l0.length l0.length] (0, 0) _ rfl (by refine blk_put (cs := #[.int .i64 a0, .slice none 0 0]) ?_ 1 _ rfl; refine blk_put (cs := #[.int .i64 0, .slice none 0 0]) ?_ 0 _ rfl; exact BK6.out) Try.underlying56 rfl (by kernel_rfl)) rfl ?_
    exact ⟨_, rfl, Kd.R_mono (Kd.R_far (p := ⟨g6, 1, none⟩) (Kd.R_far (p := ⟨g6, 0, none⟩) HT (fun _ hk => hk.2) _) (fun _ hk => hk.2) _) (fun _ _ => trivial), below_set (below_set HB.out GE6.out) GE6.out⟩
 clear hK
 have E0 := below_size HB.out
 have L6 := blk_lt BK6.out
 have f1 := fin (w2.heap.size + 1) w2.heap.size ((w2.alloc (.cells mk 3)).alloc (.cells #[.int .i64 a0, .slice (some ⟨w2.heap.size, 0, none⟩) l0.length l0.length] 56)).drew ⟨two_below HB.out _ _⟩ ⟨blk_drew (blk_alloc (blk_alloc BK6.out _) _)⟩ ⟨blk_drew (blk_alloc (blk_alloc BK3.out _) _)⟩ ⟨(two_new w2 _ _ _ _).2⟩ ⟨(two_new w2 _ _ _ _).1⟩ ⟨by omega⟩ ⟨E0⟩ ⟨by omega⟩
 have f2 := fin w2.heap.size (w2.heap.size + 1) ((w2.alloc (.cells #[.int .i64 a0, .slice (some ⟨w2.heap.size + 1, 0, none⟩) l0.length l0.length] 56)).alloc (.cells mk 3)).drew ⟨two_below HB.out _ _⟩ ⟨blk_drew (blk_alloc (blk_alloc BK6.out _) _)⟩ ⟨blk_drew (blk_alloc (blk_alloc BK3.out _) _)⟩ ⟨(two_new w2 _ _ _ _).1⟩ ⟨(two_new w2 _ _ _ _).2⟩ ⟨E0⟩ ⟨by omega⟩ ⟨by omega⟩
 have F1 := Aside0.mk f1
 have F2 := Aside0.mk f2
 clear f1 f2 fin
 go_region
 all_goals first | exact F1.out | exact F2.out

def chest_changed.f (a0 : Int) (l0 l1 : List Int) (s : Int) : Option (Int × List Int) := if 0 < l0.length ∧ l0.length ≤ 1000 ∧ l1.length ≤ l0.length then some (a0, chgTo l0 l1 s l1.length) else none
theorem chest_changed.calls (a0 : Int) (A0 : Option Addr) (c0 : Nat) (l0 : List Int) (A1 : Option Addr) (c1 : Nat) (l1 : List Int) (s : Int) (r1 : Int) (r2 : List Int) (w : World) (hr0 : Kd.C (Kd.int .i64) w A0 l0.length l0) (hc0 : l0.length ≤ c0) (hr1 : Kd.C (Kd.int .i64) w A1 l1.length l1) (hc1 : l1.length ≤ c1) (h : chest_changed.f a0 l0 l1 s = some (r1, r2)) :
  Calls Try.prog 41 #[.agg #[.int .i64 a0, .slice A0 l0.length c0], .slice A1 l1.length c1, .int .i64 s] w fun e w' => ∃ v1_ : Value, e = .returned (.agg #[.int .i64 r1, v1_]) ∧ Kd.R (Kd.int .i64) 3 w' w.heap.size (fun _ => True) v1_ r2 ∧ Below w.heap.size w w' := by
 unfold chest_changed.f at h
 split at h
 ·rename_i c
  cases h
  exact changed_walk a0 A0 c0 l0 A1 c1 l1 s w hr0 hc0 hr1 hc1 c.1 c.2.1 c.2.2
 ·cases h
end Go.Proofs.Ytgbjlcaanagfnaa.P
