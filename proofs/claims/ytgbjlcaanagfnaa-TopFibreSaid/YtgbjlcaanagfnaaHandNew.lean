/- prep.New: a plant is made, if its description and its contents are in order. -/
import Derived.Test.YtgbjlcaanagfnaaHandChecks
import Derived.Test.YtgbjlcaanagfnaaPlainA
import Derived.Test.YtgbjlcaanagfnaaPlantW
import Derived.Test.YtgbjlcaanagfnaaPx3
import Derived.Deep.QuietTactic
import Derived.BigQuiet
import Derived.RegionTactic
import Derived.WalkKit
import Derived.Deep.LoopGhost
namespace Go.Proofs.Ytgbjlcaanagfnaa.P
open Go.RowKit Go.Proofs.YtgbjlcaanagfnaaW.PrintWords Go.Proofs.YtgbjlcaanagfnaaW.PrintLast Go.Proofs.YtgbjlcaanagfnaaW.PrintMore
open List (setIfInBounds_toArray set_cons_zero set_cons_succ)
set_option linter.unusedVariables false
set_option linter.unusedSimpArgs false

/-- Row j of the contents is in order. -/
def rowOk (kinds hold : Int) (caps : List Int) (start : List (List Int)) (j : Nat) : Prop := partsOk (start.getD j []) kinds ∧ (j < caps.length → (start.getD j []).sum ≤ caps.getD j 0) ∧ (¬ j < caps.length → (start.getD j []).sum = hold)
def newOk (kinds hold : Int) (caps : List Int) (l : List (Int × Int × Int)) (start : List (List Int)) : Prop := checkOk kinds caps l hold ∧ start.length = caps.length + 1 ∧ ∀ j, j < start.length → rowOk kinds hold caps start j
/-- The chests after i rows. -/
def chestsTo (caps : List Int) (start : List (List Int)) (i : Nat) : List S56 := ((caps.zip start).take i).map fun p => (⟨p.1, p.2⟩ : S56)
/-- What was fed after i rows. -/
def fedTo (kinds : Int) (start : List (List Int)) (i : Nat) : List Int := (start.take i).foldl vadd (List.replicate kinds.toNat 0)
def plantNew (kinds hold : Int) (caps : List Int) (l : List (Int × Int × Int)) (start : List (List Int)) : Pl := ⟨kinds, hold, l, chestsTo caps start start.length, [start.getD caps.length []], fedTo kinds start start.length, List.replicate kinds.toNat 0⟩
theorem chestsTo_step (caps : List Int) (start : List (List Int)) (i : Nat) (hi : i < caps.length) (hl : caps.length < start.length) : chestsTo caps start (i + 1) = chestsTo caps start i ++ [⟨caps[i], start[i]'(by omega)⟩] := by
 unfold chestsTo
 have hz : i < (caps.zip start).length := by simp; omega
 rw [List.take_succ_eq_append_getElem hz, List.map_append]; simp
theorem chestsTo_over (caps : List Int) (start : List (List Int)) (i : Nat) (hi : caps.length ≤ i) (hl : caps.length < start.length) : chestsTo caps start (i + 1) = chestsTo caps start i := by
 unfold chestsTo
 rw [List.take_of_length_le (by simp; omega), List.take_of_length_le (by simp; omega)]
theorem chestsTo_len (caps : List Int) (start : List (List Int)) (i : Nat) (hl : caps.length < start.length) : (chestsTo caps start i).length = min i caps.length := by
 unfold chestsTo; simp; omega
theorem fedTo_step (kinds : Int) (start : List (List Int)) (i : Nat) (hi : i < start.length) : fedTo kinds start (i + 1) = vadd (fedTo kinds start i) start[i] := by
 unfold fedTo; rw [List.take_succ_eq_append_getElem hi, List.foldl_append]; rfl
theorem fedTo_ok (kinds hold : Int) (caps : List Int) (start : List (List Int)) (hk : 1 ≤ kinds ∧ kinds ≤ 8) (hl : start.length ≤ 9) : ∀ i, i ≤ start.length → (∀ j, j < i → rowOk kinds hold caps start j) → ((fedTo kinds start i).length : Int) = kinds ∧ ∀ x ∈ fedTo kinds start i, 0 ≤ x ∧ x ≤ 1099511627776 * i := by
 intro i
 induction i with
 | zero =>
  intro _ _
  unfold fedTo
  simp only [List.take_zero, List.foldl_nil, List.length_replicate]
  refine ⟨by omega, fun x hx => ?_⟩
  rw [List.eq_of_mem_replicate hx]; omega
 | succ i ih =>
  intro hi hr
  obtain ⟨h1, h2⟩ := ih (by omega) (fun j hj => hr j (by omega))
  have hlt : i < start.length := by omega
  have hp := (hr i (by omega)).1
  rw [List.getD_eq_getElem?_getD, List.getElem?_eq_getElem hlt] at hp
  have hp2 : partsOk start[i] kinds := hp
  have he : (fedTo kinds start i).length = start[i].length := by have := hp2.2.1; omega
  rw [fedTo_step kinds start i hlt]
  refine ⟨by rw [vadd_len he]; exact h1, fun x hx => ?_⟩
  obtain ⟨a, ha, hb, rfl⟩ := mem_zip hx
  have b1 := h2 _ (List.getElem_mem ha)
  have b2 := hp2.2.2 _ (List.getElem_mem hb)
  show 0 ≤ _ + _ ∧ _ + _ ≤ _
  rw [Int.natCast_add]
  omega

/-- The blocks of a plant in the making. -/
structure NG where
 g2 : Nat
 gx : Nat
 gf : Nat
 gm : Nat
 ga : Nat
 ck : Nat
 gp : Nat
 pc : Nat
def okN (w : World) (G : NG) (k : Nat) : Prop := w.heap.size ≤ k ∧ k ≠ G.g2 ∧ k ≠ G.gx ∧ k ≠ G.gf ∧ k ≠ G.gm ∧ k ≠ G.ga ∧ k ≠ G.gp
structure NInv (w W : World) (G : NG) (n : Nat) (hold : Int) (caps : List Int) (l : List (Int × Int × Int)) (vc : Value) (cs : List S56) (fed : List Int) (ok : Nat → Prop) : Prop where
 hb : Below w.heap.size w W
 k2 : W.heap[G.g2]? = some (.cells #[.int .i64 (n : Int), .slice (some ⟨G.ga, 0, none⟩) caps.length G.ck, .slice (some ⟨G.gp, 0, none⟩) l.length G.pc, .int .i64 hold] 25 (0, 0))
 kx : W.heap[G.gx]? = some (.cells #[.int .i64 (n : Int), .slice (some ⟨G.ga, 0, none⟩) caps.length G.ck, .slice (some ⟨G.gp, 0, none⟩) l.length G.pc, .int .i64 hold, vc, .int .i64 0, .slice none 0 0, .slice (some ⟨G.gf, 0, none⟩) n n, .slice (some ⟨G.gm, 0, none⟩) n n] 53 (0, 0))
 ha : Kd.R (Kd.int .i64) 3 W w.heap.size (fun k => k = G.ga) (.slice (some ⟨G.ga, 0, none⟩) caps.length G.ck) caps
 hp : Kd.R kP 35 W w.heap.size (fun k => k = G.gp) (.slice (some ⟨G.gp, 0, none⟩) l.length G.pc) l
 hc : Kd.N k56 56 W w.heap.size ok vc cs
 hf : Kd.R (Kd.int .i64) 3 W w.heap.size (fun k => k = G.gf) (.slice (some ⟨G.gf, 0, none⟩) n n) fed
 hm : Kd.R (Kd.int .i64) 3 W w.heap.size (fun k => k = G.gm) (.slice (some ⟨G.gm, 0, none⟩) n n) (List.replicate n 0)
structure NNe (w : World) (G : NG) : Prop where
 e2 : w.heap.size ≤ G.g2
 ex : w.heap.size ≤ G.gx
 nfm : G.gf ≠ G.gm
 naf : G.ga ≠ G.gf
 nam : G.ga ≠ G.gm
section
variable {w W W' : World} {G : NG} {n : Nat} {hold : Int} {caps : List Int} {l : List (Int × Int × Int)} {vc : Value} {cs : List S56} {fed : List Int} {ok : Nat → Prop}
theorem NInv.below (h : NInv w W G n hold caps l vc cs fed ok) (hb : Below W.heap.size W W') : NInv w W' G n hold caps l vc cs fed ok :=
 ⟨below_step h.hb hb, blk_below h.k2 hb, blk_below h.kx hb, Kd.R_below h.ha hb, Kd.R_below h.hp hb, Kd.N_below h.hc hb, Kd.R_below h.hf hb, Kd.R_below h.hm hb⟩
theorem NInv.drew (h : NInv w W G n hold caps l vc cs fed ok) : NInv w W.drew G n hold caps l vc cs fed ok := h.below (below_drew (Below.refl _ _))
theorem NInv.apart (h : NInv w W G n hold caps l vc cs fed ok) {u : Value} (hu : ∀ k, u.ownBlock = some k → W.heap.size ≤ k) (hb : Below W.heap.size W W') : NInv w W' G n hold caps l vc cs fed (fun k => ok k ∧ some k ≠ u.ownBlock) :=
 ⟨below_step h.hb hb, blk_below h.k2 hb, blk_below h.kx hb, Kd.R_below h.ha hb, Kd.R_below h.hp hb, Kd.N_elder' h.hc hu hb, Kd.R_below h.hf hb, Kd.R_below h.hm hb⟩
theorem NInv.nf (h : NInv w W G n hold caps l vc cs fed ok) {g : Nat} {c : Array Value} {t : Nat} (hg : W.heap[g]? = some (.cells c t (0, 0))) (ht : t ≠ 3) : g ≠ G.gf := fun e => by
 obtain ⟨cells, hc⟩ := Kd.R_typed h.hf G.gf rfl
 exact absurd (blk_type (e ▸ hg) hc) ht
theorem NInv.na (h : NInv w W G n hold caps l vc cs fed ok) {g : Nat} {c : Array Value} {t : Nat} (hg : W.heap[g]? = some (.cells c t (0, 0))) (ht : t ≠ 3) : g ≠ G.ga := fun e => by
 obtain ⟨cells, hc⟩ := Kd.R_typed h.ha G.ga rfl
 exact absurd (blk_type (e ▸ hg) hc) ht
theorem NInv.nm (h : NInv w W G n hold caps l vc cs fed ok) {g : Nat} {c : Array Value} {t : Nat} (hg : W.heap[g]? = some (.cells c t (0, 0))) (ht : t ≠ 3) : g ≠ G.gm := fun e => by
 obtain ⟨cells, hc⟩ := Kd.R_typed h.hm G.gm rfl
 exact absurd (blk_type (e ▸ hg) hc) ht
theorem NInv.np (h : NInv w W G n hold caps l vc cs fed ok) {g : Nat} {c : Array Value} {t : Nat} (hg : W.heap[g]? = some (.cells c t (0, 0))) (ht : t ≠ 35) : g ≠ G.gp := fun e => by
 obtain ⟨cells, hc⟩ := Kd.R_typed h.hp G.gp rfl
 exact absurd (blk_type (e ▸ hg) hc) ht
theorem NInv.npf (h : NInv w W G n hold caps l vc cs fed ok) : G.gp ≠ G.gf := by
 obtain ⟨cells, hc⟩ := Kd.R_typed h.hp G.gp rfl
 exact h.nf hc (by decide)
theorem NInv.fresh (h : NInv w W G n hold caps l vc cs fed ok) (k : Nat) (hk : W.heap.size ≤ k) : okN w G k := by
 have l2 := blk_lt h.k2; have lx := blk_lt h.kx; have la := Kd.R_lt h.ha G.ga rfl; have lp := Kd.R_lt h.hp G.gp rfl; have lf := Kd.R_lt h.hf G.gf rfl; have lm := Kd.R_lt h.hm G.gm rfl
 have := h.hb.size
 exact ⟨by omega, by omega, by omega, by omega, by omega, by omega, by omega⟩
/-- More was fed. -/
theorem NInv.feed (h : NInv w W G n hold caps l vc cs fed ok) (ne : NNe w G) (hok : ∀ k, ok k → okN w G k) (hb : Below w.heap.size w W') (hk : Kept W W' (fun k => k = G.gf)) {fed' : List Int} (hf : Kd.R (Kd.int .i64) 3 W' w.heap.size (fun k => k = G.gf) (.slice (some ⟨G.gf, 0, none⟩) n n) fed') : NInv w W' G n hold caps l vc cs fed' ok :=
 ⟨hb, blk_kept h.k2 hk (h.nf h.k2 (by decide)), blk_kept h.kx hk (h.nf h.kx (by decide)), Kd.R_kept h.ha hk (fun k hk e => ne.naf (hk.symm.trans e)), Kd.R_kept h.hp hk (fun k hk e => h.npf (hk.symm.trans e)), Kd.N_kept h.hc hk (fun k hk e => (hok k hk).2.2.2.1 e), hf, Kd.R_kept h.hm hk (fun k hk e => ne.nfm (e.symm.trans hk))⟩
theorem NInv.grownx (h : NInv w W G n hold caps l vc cs fed ok) (hok : ∀ k, ok k → okN w G k) (hg : W.grownBy W' vc.ownBlock) : W'.heap[G.gx]? = some (.cells #[.int .i64 (n : Int), .slice (some ⟨G.ga, 0, none⟩) caps.length G.ck, .slice (some ⟨G.gp, 0, none⟩) l.length G.pc, .int .i64 hold, vc, .int .i64 0, .slice none 0 0, .slice (some ⟨G.gf, 0, none⟩) n n, .slice (some ⟨G.gm, 0, none⟩) n n] 53 (0, 0)) :=
 blk_grown h.kx hg (fun e => (hok _ (h.hc.1 _ e.symm)).2.2.1 rfl)
theorem NInv.grown2 (h : NInv w W G n hold caps l vc cs fed ok) (hok : ∀ k, ok k → okN w G k) (hg : W.grownBy W' vc.ownBlock) : W'.heap[G.g2]? = some (.cells #[.int .i64 (n : Int), .slice (some ⟨G.ga, 0, none⟩) caps.length G.ck, .slice (some ⟨G.gp, 0, none⟩) l.length G.pc, .int .i64 hold] 25 (0, 0)) :=
 blk_grown h.k2 hg (fun e => (hok _ (h.hc.1 _ e.symm)).2.1 rfl)
/-- A chest more. -/
theorem NInv.push (h : NInv w W G n hold caps l vc cs fed ok) (hok : ∀ k, ok k → okN w G k) (ne : NNe w G) {v1 : Value} {cs' : List S56} (hN : Kd.N k56 56 W' w.heap.size (okN w G) v1 cs') (hb : Below w.heap.size w W') (hg : W.grownBy W' vc.ownBlock) :
  NInv w (W'.setCell ⟨G.gx, 4, none⟩ v1) G n hold caps l v1 cs' fed (okN w G) := by
 have hv : ∀ k, vc.ownBlock = some k → okN w G k := fun k hk => hok k (h.hc.1 k hk)
 have kx' := h.grownx hok hg
 have k2' := h.grown2 hok hg
 exact ⟨below_set hb ne.ex, blk_far k2' (blk_ne k2' kx' (by decide)) _, blk_put kx' 4 _ rfl, Kd.R_far (p := ⟨G.gx, 4, none⟩) (Kd.R_grown h.ha hg (fun k hk e => (hv _ e.symm).2.2.2.2.2.1 hk)) (fun k hk => by rw [hk]; exact Ne.symm (h.na h.kx (by decide))) _, Kd.R_far (p := ⟨G.gx, 4, none⟩) (Kd.R_grown h.hp hg (fun k hk e => (hv _ e.symm).2.2.2.2.2.2 hk)) (fun k hk => by rw [hk]; exact Ne.symm (h.np h.kx (by decide))) _, Kd.N_far (p := ⟨G.gx, 4, none⟩) hN (fun k hk => hk.2.2.1) _,
  Kd.R_far (p := ⟨G.gx, 4, none⟩) (Kd.R_grown h.hf hg (fun k hk e => (hv _ e.symm).2.2.2.1 hk)) (fun k hk => by rw [hk]; exact Ne.symm (h.nf h.kx (by decide))) _, Kd.R_far (p := ⟨G.gx, 4, none⟩) (Kd.R_grown h.hm hg (fun k hk e => (hv _ e.symm).2.2.2.2.1 hk)) (fun k hk => by rw [hk]; exact Ne.symm (h.nm h.kx (by decide))) _⟩
theorem NInv.far12 (h : NInv w W G n hold caps l vc cs fed ok) {g : Nat} (hg : okN w G g) (hok : ∀ k, ok k → k ≠ g) (i : Nat) (v : Value) : NInv w (W.setCell ⟨g, i, none⟩ v) G n hold caps l vc cs fed ok :=
 ⟨below_set h.hb hg.1, blk_far h.k2 (Ne.symm hg.2.1) _, blk_far h.kx (Ne.symm hg.2.2.1) _, Kd.R_far (p := ⟨g, i, none⟩) h.ha (fun k hk => by rw [hk]; exact Ne.symm hg.2.2.2.2.2.1) _, Kd.R_far (p := ⟨g, i, none⟩) h.hp (fun k hk => by rw [hk]; exact Ne.symm hg.2.2.2.2.2.2) _, Kd.N_far (p := ⟨g, i, none⟩) h.hc hok _, Kd.R_far (p := ⟨g, i, none⟩) h.hf (fun k hk => by rw [hk]; exact Ne.symm hg.2.2.2.1) _, Kd.R_far (p := ⟨g, i, none⟩) h.hm (fun k hk => by rw [hk]; exact Ne.symm hg.2.2.2.2.1) _⟩
theorem NInv.npm (h : NInv w W G n hold caps l vc cs fed ok) : G.gp ≠ G.gm := by
 obtain ⟨cells, hc⟩ := Kd.R_typed h.hp G.gp rfl
 exact h.nm hc (by decide)
/-- The pipe is stored: the plant is there. -/
theorem NInv.done {gc cc : Nat} (h : NInv w W G n hold caps l (.slice (some ⟨gc, 0, none⟩) cs.length cc) cs fed (okN w G)) (ne : NNe w G) (hfl : fed.length = n) {qs : List (List Int)} {QA : Option Addr} {qc : Nat} (hq : Kd.F (Kd.slice 3 (Kd.int .i64)) W (fun k => okN w G k ∧ k ≠ gc) QA qs.length qs) (hqc : qs.length ≤ qc) :
  PAt ((W.setCell ⟨G.gx, 5, none⟩ (.int .i64 hold)).setCell ⟨G.gx, 6, none⟩ (.slice QA qs.length qc)) w.heap.size (fun _ => False) ⟨G.gx, gc, cc, G.gf, n, G.gm, n, some ⟨G.ga, 0, none⟩, caps.length, G.ck, some ⟨G.gp, 0, none⟩, G.pc, QA, qc⟩ ⟨n, hold, l, cs, qs, fed, List.replicate n 0⟩ where
 kx := by
  have := blk_put (blk_put h.kx 5 (.int .i64 hold) rfl) 6 (.slice QA qs.length qc) rfl
  rw [this]; unfold PX.cells; simp only [hfl, List.length_replicate]; rfl
 hp := Kd.F_mono (Kd.F_far (p := ⟨G.gx, 6, none⟩) (Kd.F_far (p := ⟨G.gx, 5, none⟩) (Kd.N_F (Kd.R_N h.hp)) (fun k hk e => h.np h.kx (by decide) (e.symm.trans hk)) _) (fun k hk e => h.np h.kx (by decide) (e.symm.trans hk)) _) (fun k hk => ⟨fun hm => by
  obtain rfl : k = G.gp := hk
  rcases hm with e | e | e | e
  ·exact h.np h.kx (by decide) e.symm
  ·obtain ⟨cells, hc⟩ := Kd.R_typed h.hp G.gp rfl
   obtain ⟨cells', hc'⟩ := Kd.N_typed h.hc gc rfl
   have e2 : G.gp = gc := e
   rw [e2] at hc
   exact absurd (blk_type hc hc') (by decide)
  ·exact h.npf e
  ·exact h.npm e, fun h => h⟩)
 pc := (Kd.R_reads' h.hp).2.1
 pa := ⟨G.gp, rfl⟩
 hc := Kd.N_mono (Kd.N_far (p := ⟨G.gx, 6, none⟩) (Kd.N_far (p := ⟨G.gx, 5, none⟩) h.hc (fun k hk => hk.2.2.1) _) (fun k hk => hk.2.2.1) _) (fun k hk => ⟨⟨hk.2.2.1, hk.2.2.2.1, hk.2.2.2.2.1⟩, fun h => h⟩)
 hq := Kd.F_mono (Kd.F_far (p := ⟨G.gx, 6, none⟩) (Kd.F_far (p := ⟨G.gx, 5, none⟩) hq (fun k hk => hk.1.2.2.1) _) (fun k hk => hk.1.2.2.1) _) (fun k hk => ⟨fun hm => by
  rcases hm with e | e | e | e
  ·exact hk.1.2.2.1 e
  ·exact hk.2 e
  ·exact hk.1.2.2.2.1 e
  ·exact hk.1.2.2.2.2.1 e, fun h => h⟩)
 qc := hqc
 hf := by
  show Kd.R _ _ _ _ _ (.slice _ fed.length n) fed
  rw [hfl]
  exact Kd.R_far (p := ⟨G.gx, 6, none⟩) (Kd.R_far (p := ⟨G.gx, 5, none⟩) h.hf (fun k hk e => h.nf h.kx (by decide) (e.symm.trans hk)) _) (fun k hk e => h.nf h.kx (by decide) (e.symm.trans hk)) _
 hm := by
  show Kd.R _ _ _ _ _ (.slice _ (List.replicate n (0 : Int)).length n) _
  rw [List.length_replicate]
  exact Kd.R_far (p := ⟨G.gx, 6, none⟩) (Kd.R_far (p := ⟨G.gx, 5, none⟩) h.hm (fun k hk e => h.nm h.kx (by decide) (e.symm.trans hk)) _) (fun k hk e => h.nm h.kx (by decide) (e.symm.trans hk)) _
 bx := ne.ex
 nfm := ne.nfm
 nex := fun _ h => h.elim
 exb := fun _ h => h.elim
end
theorem two_at (W : World) (a b : Array Value) (ta tb : TypeId) : ((W.alloc (.cells a ta)).alloc (.cells b tb)).heap[W.heap.size]? = some (.cells a ta (0, 0)) ∧ ((W.alloc (.cells a ta)).alloc (.cells b tb)).heap[W.heap.size + 1]? = some (.cells b tb (0, 0)) := two_new W a b ta tb

set_option maxHeartbeats 4000000 in
set_option maxRecDepth 100000 in
theorem new_calls (Kf : Nat) (hKf : 1000 ≤ Kf) (kinds hold : Int) (CA0 : Option Addr) (ck0 : Nat) (caps : List Int) (PA0 : Option Addr) (pc0 : Nat) (l : List (Int × Int × Int)) (SA : Option Addr) (sc : Nat) (start : List (List Int)) (w : World)
  (hcaps : Kd.C (Kd.int .i64) w CA0 caps.length caps) (hck : caps.length ≤ ck0) (hpu : Kd.C kP w PA0 l.length l) (hpc : l.length ≤ pc0) (hst : Kd.C (Kd.slice 3 (Kd.int .i64)) w SA start.length start) (hsc : start.length ≤ sc) :
  Calls Try.prog 5 #[.agg #[.int .i64 kinds, .slice CA0 caps.length ck0, .slice PA0 l.length pc0, .int .i64 hold], .slice SA start.length sc] w fun e w' => Below w.heap.size w w' ∧ ((¬ newOk kinds hold caps l start ∧ ∃ q : Int, q ≠ 0 ∧ e = .returned (.tuple #[.pointer none, .int .i64 q])) ∨ (newOk kinds hold caps l start ∧ ∃ g : PX, e = .returned (.tuple #[.pointer (some ⟨g.gx, 0, none⟩), .int .i64 0]) ∧ PAt w' w.heap.size (fun _ => False) g (plantNew kinds hold caps l start))) := by
 have HC := Aside0.mk hcaps
 have HPU := Aside0.mk hpu
 have HST := Aside0.mk hst
 clear hcaps hpu hst
 go_enter Try.func5, Try.ntmps5
 go_upto_region 1 with (first | ((with_reducible refine gate_dst (N := 2) rfl ?_); refine box_event ?hg (N := 2) ?hd (cs := #[.int .i64 kinds, .slice CA0 caps.length ck0, .slice PA0 l.length pc0, .int .i64 hold]) (t := 25) ?hr ?_; (case hd => rfl); (case hg => rfl); (case hr => first | (go_simp; done) | (go_simp; rfl)); intro g2 hg w1 hbox hb; have K2 := Aside0.mk hbox; have G2 := Aside0.mk (show w.heap.size ≤ g2 by rw [hg]; exact Nat.le_refl _); have HB := Aside0.mk hb; clear hb hbox hg; have c20 : w1.cell? ⟨g2, 0, none⟩ = some (.int .i64 kinds) := (blk_cell K2.out 0).trans rfl; have c21 : w1.cell? ⟨g2, 1, none⟩ = some (.slice CA0 caps.length ck0) := (blk_cell K2.out 1).trans rfl; have c22 : w1.cell? ⟨g2, 2, none⟩ = some (.slice PA0 l.length pc0) := (blk_cell K2.out 2).trans rfl; have c23 : w1.cell? ⟨g2, 3, none⟩ = some (.int .i64 hold) := (blk_cell K2.out 3).trans rfl))
 go_upto_region 2 with (first | (go_at_call 13; (with_reducible refine (Check_calls kinds hold CA0 ck0 caps PA0 pc0 l _ (Kd.C_below HC.out HB.out) (Kd.C_below HPU.out HB.out)).mono ?_); rintro e w2 ⟨q, rfl, hq, hb⟩; have HQ := Aside0.mk hq; have n0_ := Aside0.mk (below_step HB.out hb); have n1_ := Aside0.mk (blk_below K2.out hb); clear hq HB K2 c20 c21 c22 c23 hb; have HB := n0_; have K2 := n1_; clear n0_ n1_; have c20 : w2.cell? ⟨g2, 0, none⟩ = some (.int .i64 kinds) := (blk_cell K2.out 0).trans rfl; have c21 : w2.cell? ⟨g2, 1, none⟩ = some (.slice CA0 caps.length ck0) := (blk_cell K2.out 1).trans rfl; have c22 : w2.cell? ⟨g2, 2, none⟩ = some (.slice PA0 l.length pc0) := (blk_cell K2.out 2).trans rfl; have c23 : w2.cell? ⟨g2, 3, none⟩ = some (.int .i64 hold) := (blk_cell K2.out 3).trans rfl))
 by_cases hq0 : q = 0
 ·subst hq0
  have hck1 := HQ.out.1 (by first | rfl | trivial)
  have HCK := Aside0.mk hck1
  obtain ⟨⟨hk1, hk8⟩, ⟨hc1, hc8⟩, _, ⟨hp16, _, xp, hxp, _⟩, hh1, hh2⟩ := hck1
  have hp1 : 0 < l.length := List.length_pos_of_mem hxp
  clear HQ hxp
  have hw1 : IntKind.i64.wrap ((caps.length : Int) + 1) = (caps.length : Int) + 1 := by rw [IntKind.wrap_i64]; omega
  by_cases hl : start.length = caps.length + 1
  ·have d5 : ((start.length : Int) != (caps.length : Int) + 1) = false := by rw [bne_eq_false_iff_eq]; omega
   have d5' : ((start.length : Int) == (caps.length : Int) + 1) = true := by rw [beq_iff_eq]; omega
   obtain ⟨adp, eap⟩ : ∃ ad, PA0 = some ad := by
    obtain ⟨ad, e, _⟩ := HPU.out.2.2 hp1
    exact ⟨ad, e⟩
   subst eap
   go_upto_region 7 with (first | fail)
   refine start_ (n := 10) (S := fun w' => w'.cell? ⟨g2, 1, none⟩ = some (.slice CA0 caps.length ck0) ∧ w'.cell? ⟨g2, 2, none⟩ = some (.slice (some adp) l.length pc0)) (ds := [7, 9]) #[false,false,false,false,false,false,false,false,false,false] (by kernel_rfl) rfl rfl ⟨(show w2.drew.cell? _ = _ from c21), (show w2.drew.cell? _ = _ from c22)⟩ (fun hHeld => ?_)
   have n0_ := Aside0.mk (below_drew HB.out)
   have n1_ := Aside0.mk (blk_drew K2.out)
   clear HB K2 c20 c21 c22 c23
   have HB := n0_
   have K2 := n1_
   clear n0_ n1_
   generalize w2.drew = w20 at HB K2 hHeld ⊢
   refine pure_ (i := 0) (N := some 27) (v := ?_) (a' := ?_) #[true,false,false,false,false,false,false,false,false,false] rfl rfl (by kernel_rfl) (fun _ _ _ h => h) (Or.inl ⟨by rfl, ?_⟩) ?_ ?_
   rotate_left
   ·intro w'; go_simp; with_reducible rfl
   rotate_left
   ·simp only [Act.put, setIfInBounds_toArray, set_cons_zero, set_cons_succ, i64_w, i32_w]; rfl
   refine pure_ (i := 3) (N := some 30) (v := ?_) (a' := ?_) #[true,false,false,true,false,false,false,false,false,false] rfl rfl (by kernel_rfl) (fun _ _ _ h => h) (Or.inl ⟨by rfl, ?_⟩) ?_ ?_
   rotate_left
   ·intro w'; go_simp; with_reducible rfl
   rotate_left
   ·simp only [Act.put, setIfInBounds_toArray, set_cons_zero, set_cons_succ, i64_w, i32_w]; rfl
   refine take_ (i := 1) (N := some 28) (v := ?_) (a' := ?_) #[true,true,false,true,false,false,false,false,false,false] rfl rfl (by kernel_rfl) (fun _ _ _ h => h) (Or.inl ⟨by rfl, ?_⟩) hHeld ?_ ?_
   rotate_left
   ·rintro w' ⟨s0, s1⟩; go_simp; with_reducible rfl
   rotate_left
   ·simp only [Act.put, setIfInBounds_toArray, set_cons_zero, set_cons_succ, i64_w, i32_w]; rfl
   refine take_ (i := 4) (N := some 31) (v := ?_) (a' := ?_) #[true,true,false,true,true,false,false,false,false,false] rfl rfl (by kernel_rfl) (fun _ _ _ h => h) (Or.inl ⟨by rfl, ?_⟩) hHeld ?_ ?_
   rotate_left
   ·rintro w' ⟨s0, s1⟩; go_simp; with_reducible rfl
   rotate_left
   ·simp only [Act.put, setIfInBounds_toArray, set_cons_zero, set_cons_succ, i64_w, i32_w]; rfl
   refine one_ (i := 2) (N := some 29) #[true,true,true,true,true,false,false,false,false,false] rfl rfl (by kernel_rfl) (by decide) (fun K hK => ?_)
   refine goes_ Try.func14 (by kernel_rfl) rfl #[.slice CA0 caps.length ck0] (by rfl) rfl rfl (by simp only [List.map_toArray, List.map_cons, List.map_nil]; rfl) ?_
   with_reducible refine (slices_Clone.calls _ _ caps caps _ (Kd.C_below HC.out HB.out) hck (show slices_Clone.f caps = some caps from by unfold slices_Clone.f; rw [if_pos (by omega)])).mono ?_
   rintro e w3 ⟨v1, rfl, hR, hb⟩
   obtain ⟨ga, ck, ec, gb_, gl_, gk_, gq_⟩ := Kd.R_form hR (by omega)
   subst ec
   refine ⟨_, rfl, ?_⟩
   have n0_ := Aside0.mk (below_step HB.out hb)
   have n1_ := Aside0.mk (blk_below K2.out hb)
   have HA := Aside0.mk (Kd.R_mono (ok' := fun k => k = ga) (Kd.R_tight rfl (Kd.R_lower hR (below_size HB.out))) (fun k hk => by simp [Value.ownBlock] at hk; exact hk))
   have GA := Aside0.mk (Nat.le_trans (below_size HB.out) gb_)
   have GA2 := Aside0.mk (show ga ≠ g2 from fun e => by have := blk_lt K2.out; omega)
   clear HB K2 hR hb gb_ gl_ gk_ gq_ hHeld
   have HB := n0_
   have K2 := n1_
   clear n0_ n1_
   refine hK.out _ _ ⟨((blk_cell K2.out 1).trans rfl), ((blk_cell K2.out 2).trans rfl)⟩ (fun hHeld => ?_)
   clear hK K
   refine norm_ (a' := ?_) ?_ ?_
   rotate_left
   ·show Act.put _ (some 29) _ = _
    simp only [Act.put, setIfInBounds_toArray, set_cons_zero, set_cons_succ, i64_w, i32_w]
    rfl
   refine pure_ (i := 6) (N := some 33) (v := ?_) (a' := ?_) #[true,true,true,true,true,false,true,false,false,false] rfl rfl (by kernel_rfl) (fun _ _ _ h => h) (Or.inl ⟨by rfl, ?_⟩) ?_ ?_
   rotate_left
   ·intro w'; go_simp; with_reducible rfl
   rotate_left
   ·simp only [Act.put, setIfInBounds_toArray, set_cons_zero, set_cons_succ, i64_w, i32_w]; rfl
   refine one_ (i := 5) (N := some 32) #[true,true,true,true,true,true,true,false,false,false] rfl rfl (by kernel_rfl) (by decide) (fun K hK => ?_)
   refine goes_ Try.func15 (by kernel_rfl) rfl #[.slice (some adp) l.length pc0] (by rfl) rfl rfl (by simp only [List.map_toArray, List.map_cons, List.map_nil]; rfl) ?_
   with_reducible refine (clone_pumps adp pc0 l _ (Kd.C_below HPU.out HB.out) hpc (by omega)).mono ?_
   rintro e w3 ⟨v1, rfl, hR, hb⟩
   obtain ⟨gp, pc, ec, gb_, gl_, gk_, gq_⟩ := Kd.R_form hR (by omega)
   subst ec
   refine ⟨_, rfl, ?_⟩
   have n0_ := Aside0.mk (below_step HB.out hb)
   have n1_ := Aside0.mk (blk_below K2.out hb)
   have n2_ := Aside0.mk (Kd.R_below HA.out hb)
   have HPP := Aside0.mk (Kd.R_mono (ok' := fun k => k = gp) (Kd.R_tight rfl (Kd.R_lower hR (below_size HB.out))) (fun k hk => by simp [Value.ownBlock] at hk; exact hk))
   have GP := Aside0.mk (Nat.le_trans (below_size HB.out) gb_)
   have GP2 := Aside0.mk (show gp ≠ g2 from fun e => by have := blk_lt K2.out; omega)
   clear HB K2 HA hR hb gb_ gl_ gk_ gq_ hHeld
   have HB := n0_
   have K2 := n1_
   have HA := n2_
   clear n0_ n1_ n2_
   have f21 := blk_frozen K2.out 1
   have f22 := blk_frozen K2.out 2
   refine hK.out _ _ ⟨((blk_cell K2.out 1).trans rfl), ((blk_cell K2.out 2).trans rfl)⟩ (fun hHeld => ?_)
   clear hK K
   refine norm_ (a' := ?_) ?_ ?_
   rotate_left
   ·show Act.put _ (some 32) _ = _
    simp only [Act.put, setIfInBounds_toArray, set_cons_zero, set_cons_succ, i64_w, i32_w]
    rfl
   refine last_ (i := 7) (N := none) #[true,true,true,true,true,true,true,true,false,false] rfl rfl (by kernel_rfl) (by decide) (fun K hK => ?_)
   refine skip_ (w1 := ?_) (by rfl) rfl ?_ ?_
   rotate_left
   ·go_simp
    rfl
   refine hK.out _ _ ?_
   clear hK K
   refine pure_ (i := 8) (N := some 34) (v := ?_) (a' := ?_) #[true,true,true,true,true,true,true,true,true,false] rfl rfl (by kernel_rfl) (fun _ _ _ h => h) (Or.inl ⟨by rfl, ?_⟩) ?_ ?_
   rotate_left
   ·intro w'; go_simp; with_reducible rfl
   rotate_left
   ·simp only [Act.put, setIfInBounds_toArray, set_cons_zero, set_cons_succ, i64_w, i32_w]; rfl
   refine last_ (i := 9) (N := none) #[true,true,true,true,true,true,true,true,true,true] rfl rfl (by kernel_rfl) (by decide) (fun K hK => ?_)
   refine skip_ (w1 := ?_) (by rfl) rfl ?_ ?_
   rotate_left
   ·go_simp
    rfl
   refine hK.out _ _ ?_
   clear hK K
   refine done_ (by kernel_rfl) ?_
   have HB4 := Aside0.mk (below_set (j := 2) (v := .slice (some ⟨gp, 0, none⟩) l.length pc) (below_set (j := 1) (v := .slice (some ⟨ga, 0, none⟩) caps.length ck) HB.out G2.out) G2.out)
   have K24 := Aside0.mk (blk_put (blk_put K2.out 1 (.slice (some ⟨ga, 0, none⟩) caps.length ck) rfl) 2 (.slice (some ⟨gp, 0, none⟩) l.length pc) rfl)
   have HA4 := Aside0.mk (Kd.R_far (p := ⟨g2, 2, none⟩) (Kd.R_far (p := ⟨g2, 1, none⟩) HA.out (fun k hk => by rw [hk]; exact GA2.out) (.slice (some ⟨ga, 0, none⟩) caps.length ck)) (fun k hk => by rw [hk]; exact GA2.out) (.slice (some ⟨gp, 0, none⟩) l.length pc))
   have HPP4 := Aside0.mk (Kd.R_far (p := ⟨g2, 2, none⟩) (Kd.R_far (p := ⟨g2, 1, none⟩) HPP.out (fun k hk => by rw [hk]; exact GP2.out) (.slice (some ⟨ga, 0, none⟩) caps.length ck)) (fun k hk => by rw [hk]; exact GP2.out) (.slice (some ⟨gp, 0, none⟩) l.length pc))
   clear HB K2 HA HPP f21 f22
   have HB := HB4
   have K2 := K24
   have HA := HA4
   have HPP := HPP4
   clear HB4 K24 HA4 HPP4
   generalize World.setCell (World.setCell w3 _ _) _ _ = w4 at *
   obtain ⟨n, hn⟩ := Int.eq_ofNat_of_zero_le (show 0 ≤ kinds by omega)
   subst hn
   have c20 : w4.cell? ⟨g2, 0, none⟩ = some (.int .i64 (n : Int)) := (blk_cell K2.out 0).trans rfl
   have c21 : w4.cell? ⟨g2, 1, none⟩ = some (.slice (some ⟨ga, 0, none⟩) caps.length ck) := (blk_cell K2.out 1).trans rfl
   have c22 : w4.cell? ⟨g2, 2, none⟩ = some (.slice (some ⟨gp, 0, none⟩) l.length pc) := (blk_cell K2.out 2).trans rfl
   have c23 : w4.cell? ⟨g2, 3, none⟩ = some (.int .i64 hold) := (blk_cell K2.out 3).trans rfl
   have hmk : ∀ W : World, (Instr.makeSlice 22 (.int .i64 (n : Int)) (.int .i64 (n : Int))).run Try.prog W = .ok (.slice (some ⟨W.heap.size, 0, none⟩) n n) (W.alloc (.cells (madeCells #[.int .i64 0] n) 3)) := fun W =>
    run_make_row' (P := Try.prog) 22 3 (.int .i64 0) 8 Try.underlying22 info3 rfl .i64 .i64 n (by omega) (by omega) W
   have hms : (madeCells #[Value.int .i64 0] n).toList = List.replicate n (Value.int .i64 0) := toList_madeCells_one _ _
   generalize madeCells #[Value.int .i64 0] n = mk at *
   go_upto_region 8 with (first | fail)
   refine start_ (n := 10) (S := fun w' => w'.cell? ⟨g2, 0, none⟩ = some (.int .i64 (n : Int)) ∧ w'.cell? ⟨g2, 1, none⟩ = some (.slice (some ⟨ga, 0, none⟩) caps.length ck) ∧ w'.cell? ⟨g2, 2, none⟩ = some (.slice (some ⟨gp, 0, none⟩) l.length pc) ∧ w'.cell? ⟨g2, 3, none⟩ = some (.int .i64 hold)) (ds := []) #[false,false,false,false,false,false,false,false,false,false] (by kernel_rfl) rfl rfl ⟨(show w4.drew.cell? _ = _ from c20), (show w4.drew.cell? _ = _ from c21), (show w4.drew.cell? _ = _ from c22), (show w4.drew.cell? _ = _ from c23)⟩ (fun hHeld => ?_)
   have n0_ := Aside0.mk (below_drew HB.out)
   have n1_ := Aside0.mk (blk_drew K2.out)
   have n2_ := Aside0.mk (Kd.R_drew HA.out)
   have n3_ := Aside0.mk (Kd.R_drew HPP.out)
   clear HB K2 HA HPP c20 c21 c22 c23
   have HB := n0_
   have K2 := n1_
   have HA := n2_
   have HPP := n3_
   clear n0_ n1_ n2_ n3_
   generalize w4.drew = w5 at HB K2 HA HPP hHeld ⊢
   refine pure_ (i := 1) (N := some 36) (v := ?_) (a' := ?_) #[false,true,false,false,false,false,false,false,false,false] rfl rfl (by kernel_rfl) (fun _ _ _ h => h) (Or.inl ⟨by rfl, ?_⟩) ?_ ?_
   rotate_left
   ·intro w'; go_simp; with_reducible rfl
   rotate_left
   ·simp only [Act.put, setIfInBounds_toArray, set_cons_zero, set_cons_succ, i64_w, i32_w]; rfl
   refine pure_ (i := 4) (N := some 39) (v := ?_) (a' := ?_) #[false,true,false,false,true,false,false,false,false,false] rfl rfl (by kernel_rfl) (fun _ _ _ h => h) (Or.inl ⟨by rfl, ?_⟩) ?_ ?_
   rotate_left
   ·intro w'; go_simp; with_reducible rfl
   rotate_left
   ·simp only [Act.put, setIfInBounds_toArray, set_cons_zero, set_cons_succ, i64_w, i32_w]; rfl
   refine take_ (i := 0) (N := some 35) (v := ?_) (a' := ?_) #[true,true,false,false,true,false,false,false,false,false] rfl rfl (by kernel_rfl) (fun _ _ _ h => h) (Or.inl ⟨by rfl, ?_⟩) hHeld ?_ ?_
   rotate_left
   ·rintro w' ⟨s0, s1, s2, s3⟩; go_simp; with_reducible rfl
   rotate_left
   ·simp only [Act.put, setIfInBounds_toArray, set_cons_zero, set_cons_succ, i64_w, i32_w]; rfl
   refine take_ (i := 2) (N := some 37) (v := ?_) (a' := ?_) #[true,true,true,false,true,false,false,false,false,false] rfl rfl (by kernel_rfl) (fun _ _ _ h => h) (Or.inl ⟨by rfl, ?_⟩) hHeld ?_ ?_
   rotate_left
   ·rintro w' ⟨s0, s1, s2, s3⟩; go_simp; with_reducible rfl
   rotate_left
   ·simp only [Act.put, setIfInBounds_toArray, set_cons_zero, set_cons_succ, i64_w, i32_w]; rfl
   refine take_ (i := 5) (N := some 40) (v := ?_) (a' := ?_) #[true,true,true,false,true,true,false,false,false,false] rfl rfl (by kernel_rfl) (fun _ _ _ h => h) (Or.inl ⟨by rfl, ?_⟩) hHeld ?_ ?_
   rotate_left
   ·rintro w' ⟨s0, s1, s2, s3⟩; go_simp; with_reducible rfl
   rotate_left
   ·simp only [Act.put, setIfInBounds_toArray, set_cons_zero, set_cons_succ, i64_w, i32_w]; rfl
   refine join_ (σ := Nat × Nat) 3 #[true,true,true,true,true,true,true,false,false,false] (fun s_ => [(38, .slice (some ⟨s_.1, 0, none⟩) n n), (41, .slice (some ⟨s_.2, 0, none⟩) n n)]) (fun s_ w' => Below w5.heap.size w5 w' ∧ w'.heap[s_.1]? = some (.cells mk 3 (0, 0)) ∧ w'.heap[s_.2]? = some (.cells mk 3 (0, 0)) ∧ s_.1 ≠ s_.2 ∧ w5.heap.size ≤ s_.1 ∧ w5.heap.size ≤ s_.2) ?_ ?_
   rotate_left
   ·intro hCont
    refine two_ (i := 3) (j := 6) (Ni := some 38) (Nj := some 41) #[true,true,true,true,true,true,false,false,false,false] #[true,true,true,false,true,true,true,false,false,false] rfl rfl rfl rfl (by kernel_rfl) (by decide) (by decide) (fun K hK => ?_) (fun K hK => ?_)
    ·skip
     refine value_ (w1 := ?_) (v := ?_) (by rfl) rfl ?_ ?_
     rotate_left 2
     ·go_simp
      constructor
      ·rfl
      ·rfl
     refine hK.out _ _ ⟨(pw_cell_below (below_alloc (Below.refl _ _) _) ((blk_cell K2.out 0).trans rfl)), (pw_cell_below (below_alloc (Below.refl _ _) _) ((blk_cell K2.out 1).trans rfl)), (pw_cell_below (below_alloc (Below.refl _ _) _) ((blk_cell K2.out 2).trans rfl)), (pw_cell_below (below_alloc (Below.refl _ _) _) ((blk_cell K2.out 3).trans rfl))⟩ (fun hHeld => ?_)
     clear hK K
     refine norm_ (a' := ?_) ?_ ?_
     rotate_left
     ·show Act.put _ (some 38) _ = _
      simp only [Act.put, setIfInBounds_toArray, set_cons_zero, set_cons_succ, i64_w, i32_w]
      rfl
     refine one_ (i := 6) (N := some 41) #[true,true,true,true,true,true,true,false,false,false] rfl rfl (by kernel_rfl) (by decide) (fun K hK => ?_)
     refine value_ (w1 := ?_) (v := ?_) (by rfl) rfl ?_ ?_
     rotate_left 2
     ·go_simp
      constructor
      ·rfl
      ·rfl
     refine hK.out _ _ ⟨(pw_cell_below (below_alloc (below_alloc (Below.refl w5.heap.size w5) _) _) ((blk_cell K2.out 0).trans rfl)), (pw_cell_below (below_alloc (below_alloc (Below.refl w5.heap.size w5) _) _) ((blk_cell K2.out 1).trans rfl)), (pw_cell_below (below_alloc (below_alloc (Below.refl w5.heap.size w5) _) _) ((blk_cell K2.out 2).trans rfl)), (pw_cell_below (below_alloc (below_alloc (Below.refl w5.heap.size w5) _) _) ((blk_cell K2.out 3).trans rfl))⟩ (fun hHeld => ?_)
     clear hK K
     refine norm_ (a' := ?_) ?_ ?_
     rotate_left
     ·show Act.put _ (some 41) _ = _
      simp only [Act.put, setIfInBounds_toArray, set_cons_zero, set_cons_succ, i64_w, i32_w]
      rfl
     exact norm_ (by simp only [putAll, Act.put, setIfInBounds_toArray, set_cons_zero, set_cons_succ]) (hCont ⟨w5.heap.size, w5.heap.size + 1⟩ _ ⟨below_alloc (below_alloc (Below.refl w5.heap.size w5) _) _, (two_at w5 _ _ _ _).1, (two_at w5 _ _ _ _).2, by omega, Nat.le_refl _, Nat.le_succ _⟩)
    ·skip
     refine value_ (w1 := ?_) (v := ?_) (by rfl) rfl ?_ ?_
     rotate_left 2
     ·go_simp
      constructor
      ·rfl
      ·rfl
     refine hK.out _ _ ⟨(pw_cell_below (below_alloc (Below.refl _ _) _) ((blk_cell K2.out 0).trans rfl)), (pw_cell_below (below_alloc (Below.refl _ _) _) ((blk_cell K2.out 1).trans rfl)), (pw_cell_below (below_alloc (Below.refl _ _) _) ((blk_cell K2.out 2).trans rfl)), (pw_cell_below (below_alloc (Below.refl _ _) _) ((blk_cell K2.out 3).trans rfl))⟩ (fun hHeld => ?_)
     clear hK K
     refine norm_ (a' := ?_) ?_ ?_
     rotate_left
     ·show Act.put _ (some 41) _ = _
      simp only [Act.put, setIfInBounds_toArray, set_cons_zero, set_cons_succ, i64_w, i32_w]
      rfl
     refine one_ (i := 3) (N := some 38) #[true,true,true,true,true,true,true,false,false,false] rfl rfl (by kernel_rfl) (by decide) (fun K hK => ?_)
     refine value_ (w1 := ?_) (v := ?_) (by rfl) rfl ?_ ?_
     rotate_left 2
     ·go_simp
      constructor
      ·rfl
      ·rfl
     refine hK.out _ _ ⟨(pw_cell_below (below_alloc (below_alloc (Below.refl w5.heap.size w5) _) _) ((blk_cell K2.out 0).trans rfl)), (pw_cell_below (below_alloc (below_alloc (Below.refl w5.heap.size w5) _) _) ((blk_cell K2.out 1).trans rfl)), (pw_cell_below (below_alloc (below_alloc (Below.refl w5.heap.size w5) _) _) ((blk_cell K2.out 2).trans rfl)), (pw_cell_below (below_alloc (below_alloc (Below.refl w5.heap.size w5) _) _) ((blk_cell K2.out 3).trans rfl))⟩ (fun hHeld => ?_)
     clear hK K
     refine norm_ (a' := ?_) ?_ ?_
     rotate_left
     ·show Act.put _ (some 38) _ = _
      simp only [Act.put, setIfInBounds_toArray, set_cons_zero, set_cons_succ, i64_w, i32_w]
      rfl
     exact norm_ (by simp only [putAll, Act.put, setIfInBounds_toArray, set_cons_zero, set_cons_succ]) (hCont ⟨w5.heap.size + 1, w5.heap.size⟩ _ ⟨below_alloc (below_alloc (Below.refl w5.heap.size w5) _) _, (two_at w5 _ _ _ _).2, (two_at w5 _ _ _ _).1, by omega, Nat.le_succ _, Nat.le_refl _⟩)
   rintro ⟨gf, gm⟩ w6 ⟨hb6, hf6, hm6, hn6, hl6, hk6⟩
   have HB6 := Aside0.mk (below_step HB.out hb6)
   have K26 := Aside0.mk (blk_below K2.out hb6)
   have HA6 := Aside0.mk (Kd.R_below HA.out hb6)
   have HPP6 := Aside0.mk (Kd.R_below HPP.out hb6)
   have BF := Aside0.mk hf6
   have BM := Aside0.mk hm6
   have NFM := Aside0.mk hn6
   have GF := Aside0.mk hl6
   have GM := Aside0.mk hk6
   have NAF := Aside0.mk (show ga ≠ gf from fun e => by have h := Kd.R_lt HA.out ga rfl; omega)
   have NAM := Aside0.mk (show ga ≠ gm from fun e => by have h := Kd.R_lt HA.out ga rfl; omega)
   have GW := Aside0.mk (below_size HB.out)
   clear HB K2 HA HPP hb6 hf6 hm6 hn6 hl6 hk6
   have HB := HB6
   have K2 := K26
   have HA := HA6
   have HPP := HPP6
   clear HB6 K26 HA6 HPP6
   refine norm_ (a' := ?_) ?_ ?_
   rotate_left
   ·simp only [putAll, Act.put, setIfInBounds_toArray, set_cons_zero, set_cons_succ]
    rfl
   refine pure_ (i := 7) (N := some 42) (v := ?_) (a' := ?_) #[true,true,true,true,true,true,true,true,false,false] rfl rfl (by kernel_rfl) (fun _ _ _ h => h) (Or.inl ⟨by rfl, ?_⟩) ?_ ?_
   rotate_left
   ·intro w'; go_simp; with_reducible rfl
   rotate_left
   ·simp only [Act.put, setIfInBounds_toArray, set_cons_zero, set_cons_succ, i64_w, i32_w]; rfl
   refine one_ (i := 8) (N := some 43) #[true,true,true,true,true,true,true,true,true,false] rfl rfl (by kernel_rfl) (by decide) (fun K hK => ?_)
   refine box_step ?hw (N := 43) ?hd (cs := #[.int .i64 (n : Int), .slice (some ⟨ga, 0, none⟩) caps.length ck, .slice (some ⟨gp, 0, none⟩) l.length pc, .int .i64 hold, .slice none 0 0, .int .i64 0, .slice none 0 0, .slice (some ⟨gf, 0, none⟩) n n, .slice (some ⟨gm, 0, none⟩) n n]) (t := 53) ?hr ?_
   (case hw => rfl)
   (case hd => rfl)
   (case hr => first | (go_simp; done) | (go_simp; rfl))
   intro gx hg w7 hbox hb
   have n0_ := Aside0.mk (below_step HB.out hb)
   have n1_ := Aside0.mk (blk_below K2.out hb)
   have n2_ := Aside0.mk (Kd.R_below HA.out hb)
   have n3_ := Aside0.mk (Kd.R_below HPP.out hb)
   have n4_ := Aside0.mk (blk_below BF.out hb)
   have n5_ := Aside0.mk (blk_below BM.out hb)
   have KX := Aside0.mk hbox
   have GX := Aside0.mk (show w.heap.size ≤ gx by rw [hg]; exact below_size HB.out)
   clear HB K2 HA HPP BF BM hbox hg hb
   have HB := n0_
   have K2 := n1_
   have HA := n2_
   have HPP := n3_
   have BF := n4_
   have BM := n5_
   clear n0_ n1_ n2_ n3_ n4_ n5_
   refine hK.out _ _ ⟨((blk_cell K2.out 0).trans rfl), ((blk_cell K2.out 1).trans rfl), ((blk_cell K2.out 2).trans rfl), ((blk_cell K2.out 3).trans rfl)⟩ (fun hHeld => ?_)
   clear hK K
   refine norm_ (a' := ?_) ?_ ?_
   rotate_left
   ·show Act.put _ (some 43) _ = _
    simp only [Act.put, setIfInBounds_toArray, set_cons_zero, set_cons_succ, i64_w, i32_w]
    rfl
   refine pure_ (i := 9) (N := some 8) (v := ?_) (a' := ?_) #[true,true,true,true,true,true,true,true,true,true] rfl rfl (by kernel_rfl) (fun _ _ _ h => h) (Or.inl ⟨by rfl, ?_⟩) ?_ ?_
   rotate_left
   ·intro w'; go_simp; with_reducible rfl
   rotate_left
   ·simp only [Act.put, setIfInBounds_toArray, set_cons_zero, set_cons_succ, i64_w, i32_w]; rfl
   refine done_ (by kernel_rfl) ?_
   have HI := Aside0.mk (show NInv w w7 ⟨g2, gx, gf, gm, ga, ck, gp, pc⟩ n hold caps l (.slice none 0 0) (chestsTo caps start 0) (fedTo n start 0) (okN w ⟨g2, gx, gf, gm, ga, ck, gp, pc⟩) from ⟨HB.out, K2.out, KX.out, HA.out, HPP.out, Kd.N_nil _ _ _ _ _, own_zero BF.out hms (Nat.le_trans GW.out GF.out) (by unfold maxLen; omega), own_zero BM.out hms (Nat.le_trans GW.out GM.out) (by unfold maxLen; omega)⟩)
   have HG := Aside0.mk (show NNe w ⟨g2, gx, gf, gm, ga, ck, gp, pc⟩ from ⟨G2.out, GX.out, NFM.out, NAF.out, NAM.out⟩)
   obtain ⟨ads, eas⟩ : ∃ ad, SA = some ad := by
    obtain ⟨ad, e, _⟩ := HST.out.2.2 (by omega)
    exact ⟨ad, e⟩
   subst eas
   clear HB K2 KX HA HPP BF BM hms hmk GF GM hHeld
   go_wp2
   go_loopg [46] start.length (fun kx s46 wr => ∃ (i : Nat) (vc : Value), s46 = .int .i64 i ∧ i ≤ start.length ∧ start.length - i ≤ kx ∧ Aside0 (NInv w wr ⟨g2, gx, gf, gm, ga, ck, gp, pc⟩ n hold caps l vc (chestsTo caps start i) (fedTo n start i) (okN w ⟨g2, gx, gf, gm, ga, ck, gp, pc⟩)) ∧ Aside0 (∀ j, j < i → rowOk n hold caps start j))
   case atStart => exact ⟨0, _, rfl, Nat.zero_le _, by omega, by first | exact HI | exact ⟨HI.out.below (by first | exact Below.refl _ _ | exact pw_below_drewN (Below.refl _ _) _)⟩, ⟨fun j hj => by omega⟩⟩
   case round =>
    clear HI
    obtain ⟨i, vc, rfl, hi, hgk, HI, HR⟩ := hrel
    by_cases hlt : i < start.length
    ·obtain ⟨ad3, A3, c3, e3, hx3, hlc3, hr3⟩ := at_L1 HST.out (i : Int) (by omega) (by omega)
     cases e3
     have ei : rd_L1 start (i : Int) = start[i] := by unfold rd_L1; rw [Int.toNat_natCast, List.getD_eq_getElem?_getD, List.getElem?_eq_getElem hlt]; rfl
     have egt : start.getD i [] = start[i] := by rw [List.getD_eq_getElem?_getD, List.getElem?_eq_getElem hlt]; rfl
     have hfs := fedTo_step n start i hlt
     have HFD := Aside0.mk (fedTo_ok n hold caps start (by omega) (by omega) i (by omega) HR.out)
     have hcs : ∀ h : i < caps.length, chestsTo caps start (i + 1) = chestsTo caps start i ++ [⟨caps[i], start[i]⟩] := fun h => chestsTo_step caps start i h (by omega)
     rw [ei] at hx3 hlc3 hr3
     generalize start[i] = m at *
     rw [Int.toNat_natCast] at hx3
     replace hx3 := (HI.out.hb.cell (World.block_lt_of_cell? w _ hx3)).trans hx3
     have HC3 := Aside0.mk hlc3
     have HR3 := Aside0.mk hr3
     have EGT := Aside0.mk egt
     have HFS := Aside0.mk hfs
     have HCS := Aside0.mk hcs
     clear hlc3 hr3 ei egt hfs hcs
     obtain ⟨q, hq, hqi⟩ := parts_any m n
     have HQ := Aside0.mk hq
     have HQI := Aside0.mk hqi
     clear hq hqi
     have p1 : (0 ≤ (i : Int)) = True := eq_true (by omega)
     have q1 : ((i : Int) < (start.length : Int)) = True := eq_true (by omega)
     have c20 : wr.cell? ⟨g2, 0, none⟩ = some (.int .i64 (n : Int)) := (blk_cell HI.out.k2 0).trans rfl
     have hw : IntKind.i64.wrap ((i : Int) + 1) = ((i + 1 : Nat) : Int) := by rw [IntKind.wrap_i64]; omega
     go_upto_region 13 with (first | (go_at_call 16; (with_reducible refine (fibre_Parts.calls A3 c3 m (n : Int) q _ (Kd.C_below HR3.out HI.out.hb) HC3.out HQ.out).mono ?_); rintro e w8 ⟨rfl, hb⟩; have n0_ := Aside0.mk (HI.out.below hb); clear HI hb c20 hx3; have HI := n0_; clear n0_))
     by_cases hq0 : q = 0
     ·subst hq0
      have hm := HQI.out.1 (by first | rfl | trivial)
      have HM := Aside0.mk hm
      have hml : (m.length : Int) = n := hm.2.1
      have HPL := Aside0.mk (show 0 < m.length ∧ m.length ≤ 8 from by omega)
      have hms := parts_sum hm
      have HSM := Aside0.mk (prep_sum_eq (K := Kf) (l := m) (by omega) (by omega) (fun x hx => (hm.2.2 x hx).1) (by omega))
      have HAD := Aside0.mk (show prep_add.f Kf (fedTo n start i) m = some (fedTo n start (i + 1)) from by
       rw [HFS.out]
       have h1 := HFD.out.1
       exact add_eq (by omega) (by omega) (by omega) (fits_of HFD.out.2 (by omega)) (fits_of hm.2.2 (by omega)))
      clear HQ HQI HFD hm
      go_upto_region 15 with (first | fail)
      by_cases hin : i < caps.length
      ·have dn : decide ((i : Int) < (caps.length : Int)) = true := decide_eq_true (by omega)
       have dn2 : ((i : Int) < (caps.length : Int)) = True := eq_true (by omega)
       obtain ⟨hxa, _⟩ := Kd.R_celln 0 HI.out.ha (i : Int) (by omega) (by omega)
       rw [Int.toNat_natCast] at hxa
       replace hxa : w8.cell? ⟨ga, i, none⟩ = some (.int .i64 (rd caps (i : Int))) := hxa
       rw [rd_at caps i hin] at hxa
       have HCV := Aside0.mk (HCS.out hin)
       have HCG := Aside0.mk (show caps.getD i 0 = caps[i] from by rw [List.getD_eq_getElem?_getD, List.getElem?_eq_getElem hin]; rfl)
       generalize caps[i] = cv at *
       clear HCS
       refine start_ (n := 13) (S := fun w' => w'.cell? ⟨g2, 1, none⟩ = some (.slice (some ⟨ga, 0, none⟩) caps.length ck) ∧ w'.cell? ⟨ga, i, none⟩ = some (.int .i64 cv)) (ds := []) #[false,false,false,false,false,false,false,false,false,false,false,false,false] (by kernel_rfl) rfl rfl ⟨(show w8.drew.cell? _ = _ from (blk_cell HI.out.k2 1).trans rfl), (show w8.drew.cell? _ = _ from hxa)⟩ (fun hHeld => ?_)
       have n0_ := Aside0.mk HI.out.drew
       clear HI
       have HI := n0_
       clear n0_
       clear hxa
       generalize w8.drew = w9 at HI hHeld ⊢
       refine pure_ (i := 0) (N := some 58) (v := ?_) (a' := ?_) #[true,false,false,false,false,false,false,false,false,false,false,false,false] rfl rfl (by kernel_rfl) (fun _ _ _ h => h) (Or.inl ⟨by rfl, ?_⟩) ?_ ?_
       rotate_left
       ·intro w'; go_simp; with_reducible rfl
       rotate_left
       ·simp only [Act.put, setIfInBounds_toArray, set_cons_zero, set_cons_succ, i64_w, i32_w]; rfl
       refine pure_ (i := 1) (N := some 59) (v := ?_) (a' := ?_) #[true,true,false,false,false,false,false,false,false,false,false,false,false] rfl rfl (by kernel_rfl) (fun _ _ _ h => h) (Or.inl ⟨by rfl, ?_⟩) ?_ ?_
       rotate_left
       ·intro w'; go_simp; with_reducible rfl
       rotate_left
       ·simp only [Act.put, setIfInBounds_toArray, set_cons_zero, set_cons_succ, i64_w, i32_w]; rfl
       refine pure_ (i := 2) (N := some 60) (v := ?_) (a' := ?_) #[true,true,true,false,false,false,false,false,false,false,false,false,false] rfl rfl (by kernel_rfl) (fun _ _ _ h => h) (Or.inl ⟨by rfl, ?_⟩) ?_ ?_
       rotate_left
       ·intro w'; go_simp; with_reducible rfl
       rotate_left
       ·simp only [Act.put, setIfInBounds_toArray, set_cons_zero, set_cons_succ, i64_w, i32_w]; rfl
       refine pure_ (i := 3) (N := some 61) (v := ?_) (a' := ?_) #[true,true,true,true,false,false,false,false,false,false,false,false,false] rfl rfl (by kernel_rfl) (fun _ _ _ h => h) (Or.inl ⟨by rfl, ?_⟩) ?_ ?_
       rotate_left
       ·intro w'; go_simp; with_reducible rfl
       rotate_left
       ·simp only [Act.put, setIfInBounds_toArray, set_cons_zero, set_cons_succ, i64_w, i32_w]; rfl
       refine pure_ (i := 4) (N := some 62) (v := ?_) (a' := ?_) #[true,true,true,true,true,false,false,false,false,false,false,false,false] rfl rfl (by kernel_rfl) (fun _ _ _ h => h) (Or.inl ⟨by rfl, ?_⟩) ?_ ?_
       rotate_left
       ·intro w'; go_simp; with_reducible rfl
       rotate_left
       ·simp only [Act.put, setIfInBounds_toArray, set_cons_zero, set_cons_succ, i64_w, i32_w]; rfl
       refine pure_ (i := 6) (N := some 64) (v := ?_) (a' := ?_) #[true,true,true,true,true,false,true,false,false,false,false,false,false] rfl rfl (by kernel_rfl) (fun _ _ _ h => h) (Or.inl ⟨by rfl, ?_⟩) ?_ ?_
       rotate_left
       ·intro w'; go_simp; with_reducible rfl
       rotate_left
       ·simp only [Act.put, setIfInBounds_toArray, set_cons_zero, set_cons_succ, i64_w, i32_w]; rfl
       refine pure_ (i := 8) (N := some 66) (v := ?_) (a' := ?_) #[true,true,true,true,true,false,true,false,true,false,false,false,false] rfl rfl (by kernel_rfl) (fun _ _ _ h => h) (Or.inl ⟨by rfl, ?_⟩) ?_ ?_
       rotate_left
       ·intro w'; go_simp; with_reducible rfl
       rotate_left
       ·simp only [Act.put, setIfInBounds_toArray, set_cons_zero, set_cons_succ, i64_w, i32_w]; rfl
       refine take_ (i := 7) (N := some 65) (v := ?_) (a' := ?_) #[true,true,true,true,true,false,true,true,true,false,false,false,false] rfl rfl (by kernel_rfl) (fun _ _ _ h => h) (Or.inl ⟨by rfl, ?_⟩) hHeld ?_ ?_
       rotate_left
       ·rintro w' ⟨s0, s1⟩; go_simp; with_reducible rfl
       rotate_left
       ·simp only [Act.put, setIfInBounds_toArray, set_cons_zero, set_cons_succ, i64_w, i32_w]; rfl
       refine pure_ (i := 9) (N := some 67) (v := ?_) (a' := ?_) #[true,true,true,true,true,false,true,true,true,true,false,false,false] rfl rfl (by kernel_rfl) (fun _ _ _ h => h) (Or.inl ⟨by rfl, ?_⟩) ?_ ?_
       rotate_left
       ·intro w'; go_simp; with_reducible rfl
       rotate_left
       ·simp only [Act.put, setIfInBounds_toArray, set_cons_zero, set_cons_succ, i64_w, i32_w]; rfl
       refine take_ (i := 10) (N := some 68) (v := ?_) (a' := ?_) #[true,true,true,true,true,false,true,true,true,true,true,false,false] rfl rfl (by kernel_rfl) (fun _ _ _ h => h) (Or.inl ⟨by rfl, ?_⟩) hHeld ?_ ?_
       rotate_left
       ·rintro w' ⟨s0, s1⟩; go_simp; with_reducible rfl
       rotate_left
       ·simp only [Act.put, setIfInBounds_toArray, set_cons_zero, set_cons_succ, i64_w, i32_w]; rfl
       refine one_ (i := 5) (N := some 63) #[true,true,true,true,true,true,true,true,true,true,true,false,false] rfl rfl (by kernel_rfl) (by decide) (fun K hK => ?_)
       refine goes_ Try.func17 (by kernel_rfl) rfl #[.slice A3 m.length c3] (by rfl) rfl rfl (by simp only [List.map_toArray, List.map_cons, List.map_nil]; rfl) ?_
       with_reducible refine (prep_sum.calls Kf A3 c3 m m.sum _ (Kd.C_below HR3.out HI.out.hb) HC3.out HSM.out).mono ?_
       rintro e w3 ⟨rfl, hd⟩
       refine ⟨_, rfl, ?_⟩
       have hb := hd.below
       have n0_ := Aside0.mk (HI.out.below hb)
       have HS0_ := ((hb.cell (World.block_lt_of_cell? _ _ hHeld.1)).trans hHeld.1)
       have HS1_ := ((hb.cell (World.block_lt_of_cell? _ _ hHeld.2)).trans hHeld.2)
       clear HI hd hb hHeld
       have HI := n0_
       clear n0_
       refine hK.out _ _ ⟨HS0_, HS1_⟩ (fun hHeld => ?_)
       clear hK K
       refine norm_ (a' := ?_) ?_ ?_
       rotate_left
       ·show Act.put _ (some 63) _ = _
        simp only [Act.put, setIfInBounds_toArray, set_cons_zero, set_cons_succ, i64_w, i32_w]
        rfl
       refine pure_ (i := 11) (N := some 69) (v := ?_) (a' := ?_) #[true,true,true,true,true,true,true,true,true,true,true,true,false] rfl rfl (by kernel_rfl) (fun _ _ _ h => h) (Or.inl ⟨by rfl, ?_⟩) ?_ ?_
       rotate_left
       ·intro w'; go_simp; with_reducible rfl
       rotate_left
       ·simp only [Act.put, setIfInBounds_toArray, set_cons_zero, set_cons_succ, i64_w, i32_w]; rfl
       refine pure_ (i := 12) (N := some 70) (v := ?_) (a' := ?_) #[true,true,true,true,true,true,true,true,true,true,true,true,true] rfl rfl (by kernel_rfl) (fun _ _ _ h => h) (Or.inl ⟨by rfl, ?_⟩) ?_ ?_
       rotate_left
       ·intro w'; go_simp; with_reducible rfl
       rotate_left
       ·simp only [Act.put, setIfInBounds_toArray, set_cons_zero, set_cons_succ, i64_w, i32_w]; rfl
       refine done_ (by kernel_rfl) ?_
       by_cases hov : cv < m.sum
       ·have do1 : decide (cv < m.sum) = true := decide_eq_true hov
        go_upto_region 16 with (first | fail)
        go_wp2
        go_ret2
        exact ⟨HI.out.hb, .inl ⟨fun h => by have h2 := (h.2.2 i hlt).2.1 hin; rw [EGT.out, HCG.out] at h2; omega, 8, by decide, rfl⟩⟩
       ·have do1 : decide (cv < m.sum) = false := decide_eq_false hov
        have HRO := Aside0.mk (show rowOk n hold caps start i from ⟨by rw [EGT.out]; exact HM.out, fun _ => by rw [EGT.out, HCG.out]; omega, fun h => absurd hin h⟩)
        go_upto_region 18 with (first | fail)
        refine start_ (n := 18) (S := fun w' => w'.cell? ⟨gx, 4, none⟩ = some vc ∧ w'.cell? ⟨g2, 1, none⟩ = some (.slice (some ⟨ga, 0, none⟩) caps.length ck) ∧ w'.cell? ⟨ga, i, none⟩ = some (.int .i64 cv)) (ds := [14, 17]) #[false,false,false,false,false,false,false,false,false,false,false,false,false,false,false,false,false,false] (by kernel_rfl) rfl rfl ⟨(show w3.drew.cell? _ = _ from (blk_cell HI.out.kx 4).trans rfl), (show w3.drew.cell? _ = _ from (blk_cell HI.out.k2 1).trans rfl), (show w3.drew.cell? _ = _ from hHeld.2)⟩ (fun hHeld => ?_)
        have n0_ := Aside0.mk HI.out.drew
        clear HI
        have HI := n0_
        clear n0_
        generalize w3.drew = w9 at HI hHeld ⊢
        refine pure_ (i := 0) (N := some 74) (v := ?_) (a' := ?_) #[true,false,false,false,false,false,false,false,false,false,false,false,false,false,false,false,false,false] rfl rfl (by kernel_rfl) (fun _ _ _ h => h) (Or.inl ⟨by rfl, ?_⟩) ?_ ?_
        rotate_left
        ·intro w'; go_simp; with_reducible rfl
        rotate_left
        ·simp only [Act.put, setIfInBounds_toArray, set_cons_zero, set_cons_succ, i64_w, i32_w]; rfl
        refine pure_ (i := 1) (N := some 75) (v := ?_) (a' := ?_) #[true,true,false,false,false,false,false,false,false,false,false,false,false,false,false,false,false,false] rfl rfl (by kernel_rfl) (fun _ _ _ h => h) (Or.inl ⟨by rfl, ?_⟩) ?_ ?_
        rotate_left
        ·intro w'; go_simp; with_reducible rfl
        rotate_left
        ·simp only [Act.put, setIfInBounds_toArray, set_cons_zero, set_cons_succ, i64_w, i32_w]; rfl
        refine pure_ (i := 2) (N := some 76) (v := ?_) (a' := ?_) #[true,true,true,false,false,false,false,false,false,false,false,false,false,false,false,false,false,false] rfl rfl (by kernel_rfl) (fun _ _ _ h => h) (Or.inl ⟨by rfl, ?_⟩) ?_ ?_
        rotate_left
        ·intro w'; go_simp; with_reducible rfl
        rotate_left
        ·simp only [Act.put, setIfInBounds_toArray, set_cons_zero, set_cons_succ, i64_w, i32_w]; rfl
        refine pure_ (i := 3) (N := some 77) (v := ?_) (a' := ?_) #[true,true,true,true,false,false,false,false,false,false,false,false,false,false,false,false,false,false] rfl rfl (by kernel_rfl) (fun _ _ _ h => h) (Or.inl ⟨by rfl, ?_⟩) ?_ ?_
        rotate_left
        ·intro w'; go_simp; with_reducible rfl
        rotate_left
        ·simp only [Act.put, setIfInBounds_toArray, set_cons_zero, set_cons_succ, i64_w, i32_w]; rfl
        refine pure_ (i := 5) (N := some 79) (v := ?_) (a' := ?_) #[true,true,true,true,false,true,false,false,false,false,false,false,false,false,false,false,false,false] rfl rfl (by kernel_rfl) (fun _ _ _ h => h) (Or.inl ⟨by rfl, ?_⟩) ?_ ?_
        rotate_left
        ·intro w'; go_simp; with_reducible rfl
        rotate_left
        ·simp only [Act.put, setIfInBounds_toArray, set_cons_zero, set_cons_succ, i64_w, i32_w]; rfl
        refine pure_ (i := 7) (N := some 81) (v := ?_) (a' := ?_) #[true,true,true,true,false,true,false,true,false,false,false,false,false,false,false,false,false,false] rfl rfl (by kernel_rfl) (fun _ _ _ h => h) (Or.inl ⟨by rfl, ?_⟩) ?_ ?_
        rotate_left
        ·intro w'; go_simp; with_reducible rfl
        rotate_left
        ·simp only [Act.put, setIfInBounds_toArray, set_cons_zero, set_cons_succ, i64_w, i32_w]; rfl
        refine pure_ (i := 10) (N := some 84) (v := ?_) (a' := ?_) #[true,true,true,true,false,true,false,true,false,false,true,false,false,false,false,false,false,false] rfl rfl (by kernel_rfl) (fun _ _ _ h => h) (Or.inl ⟨by rfl, ?_⟩) ?_ ?_
        rotate_left
        ·intro w'; go_simp; with_reducible rfl
        rotate_left
        ·simp only [Act.put, setIfInBounds_toArray, set_cons_zero, set_cons_succ, i64_w, i32_w]; rfl
        refine take_ (i := 4) (N := some 78) (v := ?_) (a' := ?_) #[true,true,true,true,true,true,false,true,false,false,true,false,false,false,false,false,false,false] rfl rfl (by kernel_rfl) (fun _ _ _ h => h) (Or.inl ⟨by rfl, ?_⟩) hHeld ?_ ?_
        rotate_left
        ·rintro w' ⟨s0, s1, s2⟩; go_simp; with_reducible rfl
        rotate_left
        ·simp only [Act.put, setIfInBounds_toArray, set_cons_zero, set_cons_succ, i64_w, i32_w]; rfl
        refine take_ (i := 6) (N := some 80) (v := ?_) (a' := ?_) #[true,true,true,true,true,true,true,true,false,false,true,false,false,false,false,false,false,false] rfl rfl (by kernel_rfl) (fun _ _ _ h => h) (Or.inl ⟨by rfl, ?_⟩) hHeld ?_ ?_
        rotate_left
        ·rintro w' ⟨s0, s1, s2⟩; go_simp; with_reducible rfl
        rotate_left
        ·simp only [Act.put, setIfInBounds_toArray, set_cons_zero, set_cons_succ, i64_w, i32_w]; rfl
        refine pure_ (i := 8) (N := some 82) (v := ?_) (a' := ?_) #[true,true,true,true,true,true,true,true,true,false,true,false,false,false,false,false,false,false] rfl rfl (by kernel_rfl) (fun _ _ _ h => h) (Or.inl ⟨by rfl, ?_⟩) ?_ ?_
        rotate_left
        ·intro w'; go_simp; with_reducible rfl
        rotate_left
        ·simp only [Act.put, setIfInBounds_toArray, set_cons_zero, set_cons_succ, i64_w, i32_w]; rfl
        refine take_ (i := 9) (N := some 83) (v := ?_) (a' := ?_) #[true,true,true,true,true,true,true,true,true,true,true,false,false,false,false,false,false,false] rfl rfl (by kernel_rfl) (fun _ _ _ h => h) (Or.inl ⟨by rfl, ?_⟩) hHeld ?_ ?_
        rotate_left
        ·rintro w' ⟨s0, s1, s2⟩; go_simp; with_reducible rfl
        rotate_left
        ·simp only [Act.put, setIfInBounds_toArray, set_cons_zero, set_cons_succ, i64_w, i32_w]; rfl
        refine one_ (i := 11) (N := some 85) #[true,true,true,true,true,true,true,true,true,true,true,true,false,false,false,false,false,false] rfl rfl (by kernel_rfl) (by decide) (fun K hK => ?_)
        refine goes_ Try.func14 (by kernel_rfl) rfl #[.slice A3 m.length c3] (by rfl) rfl rfl (by simp only [List.map_toArray, List.map_cons, List.map_nil]; rfl) ?_
        with_reducible refine (slices_Clone.calls A3 c3 m m _ (Kd.C_below HR3.out HI.out.hb) HC3.out (show slices_Clone.f m = some m from by unfold slices_Clone.f; rw [if_pos (by have := HPL.out; omega)])).mono ?_
        rintro e w3 ⟨v1, rfl, hR, hb⟩
        obtain ⟨gr, cr, ec, gb_, gl_, gk_, gq_⟩ := Kd.R_form hR (by have := HPL.out; omega)
        subst ec
        refine ⟨_, rfl, ?_⟩
        have HS0_ := ((hb.cell (World.block_lt_of_cell? _ _ hHeld.1)).trans hHeld.1)
        have HS1_ := ((hb.cell (World.block_lt_of_cell? _ _ hHeld.2.1)).trans hHeld.2.1)
        have HS2_ := ((hb.cell (World.block_lt_of_cell? _ _ hHeld.2.2)).trans hHeld.2.2)
        have n0_ := Aside0.mk (HI.out.apart (Kd.R_base hR) hb)
        have n1_ := Aside0.mk (Kd.R_lower hR (below_size HI.out.hb))
        have n2_ := Aside0.mk (show ∀ k, (Value.slice (some ⟨gr, 0, none⟩) m.length cr).ownBlock = some k → okN w ⟨g2, gx, gf, gm, ga, ck, gp, pc⟩ k from fun k hk => HI.out.fresh k (Kd.R_base hR k hk))
        clear HI hR hb gb_ gl_ gk_ gq_ hHeld
        have HI := n0_
        have HRR := n1_
        have HPR := n2_
        clear n0_ n1_ n2_
        refine hK.out _ _ ⟨HS0_, HS1_, HS2_⟩ (fun hHeld => ?_)
        clear hK K
        refine norm_ (a' := ?_) ?_ ?_
        rotate_left
        ·show Act.put _ (some 85) _ = _
         simp only [Act.put, setIfInBounds_toArray, set_cons_zero, set_cons_succ, i64_w, i32_w]
         rfl
        refine pure_ (i := 12) (N := some 86) (v := ?_) (a' := ?_) #[true,true,true,true,true,true,true,true,true,true,true,true,true,false,false,false,false,false] rfl rfl (by kernel_rfl) (fun _ _ _ h => h) (Or.inl ⟨by rfl, ?_⟩) ?_ ?_
        rotate_left
        ·intro w'; go_simp; with_reducible rfl
        rotate_left
        ·simp only [Act.put, setIfInBounds_toArray, set_cons_zero, set_cons_succ, i64_w, i32_w]; rfl
        refine one_ (i := 13) (N := some 87) #[true,true,true,true,true,true,true,true,true,true,true,true,true,true,false,false,false,false] rfl rfl (by kernel_rfl) (by decide) (fun K hK => ?_)
        refine value_ (w1 := ?_) (v := ?_) (by rfl) rfl ?_ ?_
        rotate_left 2
        ·go_simp
         constructor
         ·rfl
         ·rfl
        refine hK.out _ _ ⟨(pw_cell_below (below_alloc (Below.refl _ _) _) HS0_), (pw_cell_below (below_alloc (Below.refl _ _) _) HS1_), (pw_cell_below (below_alloc (Below.refl _ _) _) HS2_)⟩ (fun hHeld => ?_)
        clear hK K
        refine norm_ (a' := ?_) ?_ ?_
        rotate_left
        ·show Act.put _ (some 87) _ = _
         simp only [Act.put, setIfInBounds_toArray, set_cons_zero, set_cons_succ, i64_w, i32_w]
         rfl
        refine last_ (i := 14) (N := some 88) #[true,true,true,true,true,true,true,true,true,true,true,true,true,true,true,false,false,false] rfl rfl (by kernel_rfl) (by decide) (fun K hK => ?_)
        refine Kd.N_append_step k56 (w0 := w) w.heap.size (by rfl) (.tmp 78) (.tmp 87) 49 56 (.agg #[.int .i64 0, .slice none 0 0]) 32 rfl Try.underlying49 infoChest rfl (by decide) (by omega) vc (chestsTo caps start i) ⟨cv, m⟩ [.int .i64 cv, .slice (some ⟨gr, 0, none⟩) m.length cr] (okN w ⟨g2, gx, gf, gm, ga, ck, gp, pc⟩) (fun k => some k = (Value.slice (some ⟨gr, 0, none⟩) m.length cr).ownBlock) rfl rfl ?fk ?okp ?fr ?HO ?HB ?hb ?hl ?_
        (case fk => exact Kd.FK_of_M (k56_mkM _ w.heap.size _ ⟨cv, m⟩ (Kd.R_tight rfl HRR.out)))
        (case okp => exact fun k hk => ⟨HPR.out k hk.symm, fun e => (HI.out.hc.1 k e.symm).2 hk⟩)
        (case fr => exact HI.out.fresh)
        (case HO => exact Kd.N_mono HI.out.hc (fun k hk => hk.1))
        (case HB => exact HI.out.hb)
        (case hb => exact HI.out.hb.size)
        (case hl => rw [chestsTo_len caps start i (by omega)]; omega)
        intro v1 w15 hN hbN hgN hatN
        obtain ⟨gc, cc, ev1, ea_, eb_, ec_⟩ := Kd.N_form hN (by rw [List.length_append, List.length_singleton]; exact Nat.succ_pos _)
        rw [List.length_append, List.length_singleton] at ev1
        subst ev1
        clear ea_ eb_ ec_
        have n0_ := Aside0.mk (HI.out.push (fun k hk => hk.1) HG.out hN hbN hgN)
        have kx_ := HI.out.grownx (fun k hk => hk.1) hgN
        have c4 : w15.cell? ⟨gx, 4, none⟩ = some vc := (blk_cell kx_ 4).trans rfl
        have f4 := blk_frozen kx_ 4
        clear HI HRR HPR hN hbN hgN hatN kx_ hHeld
        have HF := n0_
        clear n0_
        refine hK.out _ _ ?_
        clear hK K
        refine norm_ (a' := ?_) ?_ ?_
        rotate_left
        ·show Act.put _ (some 88) _ = _
         simp only [Act.put, setIfInBounds_toArray, set_cons_zero, set_cons_succ, i64_w, i32_w]
         rfl
        refine pure_ (i := 15) (N := some 89) (v := ?_) (a' := ?_) #[true,true,true,true,true,true,true,true,true,true,true,true,true,true,true,true,false,false] rfl rfl (by kernel_rfl) (fun _ _ _ h => h) (Or.inl ⟨by rfl, ?_⟩) ?_ ?_
        rotate_left
        ·intro w'; go_simp; with_reducible rfl
        rotate_left
        ·simp only [Act.put, setIfInBounds_toArray, set_cons_zero, set_cons_succ, i64_w, i32_w]; rfl
        refine pure_ (i := 16) (N := some 90) (v := ?_) (a' := ?_) #[true,true,true,true,true,true,true,true,true,true,true,true,true,true,true,true,true,false] rfl rfl (by kernel_rfl) (fun _ _ _ h => h) (Or.inl ⟨by rfl, ?_⟩) ?_ ?_
        rotate_left
        ·intro w'; go_simp; with_reducible rfl
        rotate_left
        ·simp only [Act.put, setIfInBounds_toArray, set_cons_zero, set_cons_succ, i64_w, i32_w]; rfl
        refine last_ (i := 17) (N := none) #[true,true,true,true,true,true,true,true,true,true,true,true,true,true,true,true,true,true] rfl rfl (by kernel_rfl) (by decide) (fun K hK => ?_)
        refine skip_ (w1 := ?_) (by rfl) rfl ?_ ?_
        rotate_left
        ·go_simp
         rfl
        refine hK.out _ _ ?_
        clear hK K
        refine done_ (by kernel_rfl) ?_
        have HI := Aside0.mk (show NInv w (w15.setCell ⟨gx, 4, none⟩ (.slice (some ⟨gc, 0, none⟩) ((chestsTo caps start i).length + 1) cc)) ⟨g2, gx, gf, gm, ga, ck, gp, pc⟩ n hold caps l (.slice (some ⟨gc, 0, none⟩) ((chestsTo caps start i).length + 1) cc) (chestsTo caps start (i + 1)) (fedTo n start i) (okN w ⟨g2, gx, gf, gm, ga, ck, gp, pc⟩) from by rw [HCV.out]; exact HF.out)
        clear c4 f4 HF
        generalize w15.setCell ⟨gx, 4, none⟩ (.slice (some ⟨gc, 0, none⟩) ((chestsTo caps start i).length + 1) cc) = w17 at *
        generalize (.slice (some ⟨gc, 0, none⟩) ((chestsTo caps start i).length + 1) cc : Value) = vc2 at *
        have c7 : w17.cell? ⟨gx, 7, none⟩ = some (.slice (some ⟨gf, 0, none⟩) n n) := (blk_cell HI.out.kx 7).trans rfl
        go_upto_region 22 with (first | (go_at_call 18; (with_reducible refine (prep_add.calls Kf (fun k => k = gf) (.slice (some ⟨gf, 0, none⟩) n n) (fedTo n start i) A3 c3 m (fedTo n start (i + 1)) w _ HI.out.hb HI.out.hf ?hr1 HC3.out HAD.out).mono ?_); (case hr1 => exact Kd.C_kept_came (Kd.heap_int .i64) HR3.out HI.out.hb (fun k hk => by rw [hk]; exact Kd.R_base HI.out.hf gf rfl)); rintro e w16 ⟨rfl, hR, hB, hK⟩; have n0_ := Aside0.mk (HI.out.feed HG.out (fun _ hk => hk) hB hK (Kd.R_mono (Kd.R_tight rfl hR) (fun k hk => by simp [Value.ownBlock] at hk; exact hk))); clear HI hR hB hK c7; have HI := n0_; clear n0_))
        have HR2 := Aside0.mk (show ∀ j, j < i + 1 → rowOk n hold caps start j from fun j hj => by
         rcases Nat.lt_or_ge j i with h | h
         ·exact HR.out j h
         ·obtain rfl : j = i := by omega
          exact HRO.out)
        go_wp2
        go_roundg (start.length - (i + 1))
        case measure => omega
        case rel => exact ⟨i + 1, _, by first | rfl | (rw [hw]; rfl) | simp, by omega, Nat.le_refl _, HI, HR2⟩
      ·have dn : decide ((i : Int) < (caps.length : Int)) = false := decide_eq_false (by omega)
       have dn2 : ((i : Int) < (caps.length : Int)) = False := eq_false (by omega)
       refine start_ (n := 13) (S := fun w' => True) (ds := []) #[false,false,false,false,false,false,false,false,false,false,false,false,false] (by kernel_rfl) rfl rfl trivial (fun hHeld => ?_)
       have n0_ := Aside0.mk HI.out.drew
       clear HI
       have HI := n0_
       clear n0_
       generalize w8.drew = w9 at HI ⊢
       refine pure_ (i := 0) (N := some 58) (v := ?_) (a' := ?_) #[true,false,false,false,false,false,false,false,false,false,false,false,false] rfl rfl (by kernel_rfl) (fun _ _ _ h => h) (Or.inl ⟨by rfl, ?_⟩) ?_ ?_
       rotate_left
       ·intro w'; go_simp; with_reducible rfl
       rotate_left
       ·simp only [Act.put, setIfInBounds_toArray, set_cons_zero, set_cons_succ, i64_w, i32_w]; rfl
       refine pure_ (i := 1) (N := some 59) (v := ?_) (a' := ?_) #[true,true,false,false,false,false,false,false,false,false,false,false,false] rfl rfl (by kernel_rfl) (fun _ _ _ h => h) (Or.inl ⟨by rfl, ?_⟩) ?_ ?_
       rotate_left
       ·intro w'; go_simp; with_reducible rfl
       rotate_left
       ·simp only [Act.put, setIfInBounds_toArray, set_cons_zero, set_cons_succ, i64_w, i32_w]; rfl
       refine pure_ (i := 2) (N := some 60) (v := ?_) (a' := ?_) #[true,true,true,false,false,false,false,false,false,false,false,false,false] rfl rfl (by kernel_rfl) (fun _ _ _ h => h) (Or.inl ⟨by rfl, ?_⟩) ?_ ?_
       rotate_left
       ·intro w'; go_simp; with_reducible rfl
       rotate_left
       ·simp only [Act.put, setIfInBounds_toArray, set_cons_zero, set_cons_succ, i64_w, i32_w]; rfl
       refine pure_ (i := 3) (N := some 61) (v := ?_) (a' := ?_) #[true,true,true,true,false,false,false,false,false,false,false,false,false] rfl rfl (by kernel_rfl) (fun _ _ _ h => h) (Or.inl ⟨by rfl, ?_⟩) ?_ ?_
       rotate_left
       ·intro w'; go_simp; with_reducible rfl
       rotate_left
       ·simp only [Act.put, setIfInBounds_toArray, set_cons_zero, set_cons_succ, i64_w, i32_w]; rfl
       refine pure_ (i := 4) (N := some 62) (v := undef) (a' := ?_) #[true,true,true,true,true,false,false,false,false,false,false,false,false] rfl rfl (by kernel_rfl) (fun _ _ _ h => h) (Or.inr ⟨by rfl, rfl⟩) ?_ ?_
       rotate_left
       ·simp only [Act.put, setIfInBounds_toArray, set_cons_zero, set_cons_succ, i64_w, i32_w]; rfl
       refine pure_ (i := 5) (N := some 63) (v := undef) (a' := ?_) #[true,true,true,true,true,true,false,false,false,false,false,false,false] rfl rfl (by kernel_rfl) (fun _ _ _ h => h) (Or.inr ⟨by rfl, rfl⟩) ?_ ?_
       rotate_left
       ·simp only [Act.put, setIfInBounds_toArray, set_cons_zero, set_cons_succ, i64_w, i32_w]; rfl
       refine pure_ (i := 6) (N := some 64) (v := undef) (a' := ?_) #[true,true,true,true,true,true,true,false,false,false,false,false,false] rfl rfl (by kernel_rfl) (fun _ _ _ h => h) (Or.inr ⟨by rfl, rfl⟩) ?_ ?_
       rotate_left
       ·simp only [Act.put, setIfInBounds_toArray, set_cons_zero, set_cons_succ, i64_w, i32_w]; rfl
       refine pure_ (i := 7) (N := some 65) (v := undef) (a' := ?_) #[true,true,true,true,true,true,true,true,false,false,false,false,false] rfl rfl (by kernel_rfl) (fun _ _ _ h => h) (Or.inr ⟨by rfl, rfl⟩) ?_ ?_
       rotate_left
       ·simp only [Act.put, setIfInBounds_toArray, set_cons_zero, set_cons_succ, i64_w, i32_w]; rfl
       refine pure_ (i := 8) (N := some 66) (v := undef) (a' := ?_) #[true,true,true,true,true,true,true,true,true,false,false,false,false] rfl rfl (by kernel_rfl) (fun _ _ _ h => h) (Or.inr ⟨by rfl, rfl⟩) ?_ ?_
       rotate_left
       ·simp only [Act.put, setIfInBounds_toArray, set_cons_zero, set_cons_succ, i64_w, i32_w]; rfl
       refine pure_ (i := 9) (N := some 67) (v := undef) (a' := ?_) #[true,true,true,true,true,true,true,true,true,true,false,false,false] rfl rfl (by kernel_rfl) (fun _ _ _ h => h) (Or.inr ⟨by rfl, rfl⟩) ?_ ?_
       rotate_left
       ·simp only [Act.put, setIfInBounds_toArray, set_cons_zero, set_cons_succ, i64_w, i32_w]; rfl
       refine pure_ (i := 10) (N := some 68) (v := undef) (a' := ?_) #[true,true,true,true,true,true,true,true,true,true,true,false,false] rfl rfl (by kernel_rfl) (fun _ _ _ h => h) (Or.inr ⟨by rfl, rfl⟩) ?_ ?_
       rotate_left
       ·simp only [Act.put, setIfInBounds_toArray, set_cons_zero, set_cons_succ, i64_w, i32_w]; rfl
       refine pure_ (i := 11) (N := some 69) (v := undef) (a' := ?_) #[true,true,true,true,true,true,true,true,true,true,true,true,false] rfl rfl (by kernel_rfl) (fun _ _ _ h => h) (Or.inr ⟨by rfl, rfl⟩) ?_ ?_
       rotate_left
       ·simp only [Act.put, setIfInBounds_toArray, set_cons_zero, set_cons_succ, i64_w, i32_w]; rfl
       refine pure_ (i := 12) (N := some 70) (v := ?_) (a' := ?_) #[true,true,true,true,true,true,true,true,true,true,true,true,true] rfl rfl (by kernel_rfl) (fun _ _ _ h => h) (Or.inl ⟨by rfl, ?_⟩) ?_ ?_
       rotate_left
       ·intro w'; go_simp; with_reducible rfl
       rotate_left
       ·simp only [Act.put, setIfInBounds_toArray, set_cons_zero, set_cons_succ, i64_w, i32_w]; rfl
       refine done_ (by kernel_rfl) ?_
       go_upto_region 19 with (first | fail)
       refine start_ (n := 5) (S := fun w' => w'.cell? ⟨g2, 3, none⟩ = some (.int .i64 hold)) (ds := []) #[false,false,false,false,false] (by kernel_rfl) rfl rfl ((show w9.drew.cell? _ = _ from (blk_cell HI.out.k2 3).trans rfl)) (fun hHeld => ?_)
       have n0_ := Aside0.mk HI.out.drew
       clear HI
       have HI := n0_
       clear n0_
       generalize w9.drew = w10 at HI hHeld ⊢
       refine pure_ (i := 0) (N := some 91) (v := ?_) (a' := ?_) #[true,false,false,false,false] rfl rfl (by kernel_rfl) (fun _ _ _ h => h) (Or.inl ⟨by rfl, ?_⟩) ?_ ?_
       rotate_left
       ·intro w'; go_simp; with_reducible rfl
       rotate_left
       ·simp only [Act.put, setIfInBounds_toArray, set_cons_zero, set_cons_succ, i64_w, i32_w]; rfl
       refine pure_ (i := 2) (N := some 93) (v := ?_) (a' := ?_) #[true,false,true,false,false] rfl rfl (by kernel_rfl) (fun _ _ _ h => h) (Or.inl ⟨by rfl, ?_⟩) ?_ ?_
       rotate_left
       ·intro w'; go_simp; with_reducible rfl
       rotate_left
       ·simp only [Act.put, setIfInBounds_toArray, set_cons_zero, set_cons_succ, i64_w, i32_w]; rfl
       refine take_ (i := 3) (N := some 94) (v := ?_) (a' := ?_) #[true,false,true,true,false] rfl rfl (by kernel_rfl) (fun _ _ _ h => h) (Or.inl ⟨by rfl, ?_⟩) hHeld ?_ ?_
       rotate_left
       ·intro w' s0; go_simp; with_reducible rfl
       rotate_left
       ·simp only [Act.put, setIfInBounds_toArray, set_cons_zero, set_cons_succ, i64_w, i32_w]; rfl
       refine one_ (i := 1) (N := some 92) #[true,true,true,true,false] rfl rfl (by kernel_rfl) (by decide) (fun K hK => ?_)
       refine goes_ Try.func17 (by kernel_rfl) rfl #[.slice A3 m.length c3] (by rfl) rfl rfl (by simp only [List.map_toArray, List.map_cons, List.map_nil]; rfl) ?_
       with_reducible refine (prep_sum.calls Kf A3 c3 m m.sum _ (Kd.C_below HR3.out HI.out.hb) HC3.out HSM.out).mono ?_
       rintro e w3 ⟨rfl, hd⟩
       refine ⟨_, rfl, ?_⟩
       have hb := hd.below
       have n0_ := Aside0.mk (HI.out.below hb)
       have HS0_ := ((hb.cell (World.block_lt_of_cell? _ _ hHeld)).trans hHeld)
       clear HI hd hb hHeld
       have HI := n0_
       clear n0_
       refine hK.out _ _ (HS0_) (fun hHeld => ?_)
       clear hK K
       refine norm_ (a' := ?_) ?_ ?_
       rotate_left
       ·show Act.put _ (some 92) _ = _
        simp only [Act.put, setIfInBounds_toArray, set_cons_zero, set_cons_succ, i64_w, i32_w]
        rfl
       refine pure_ (i := 4) (N := some 95) (v := ?_) (a' := ?_) #[true,true,true,true,true] rfl rfl (by kernel_rfl) (fun _ _ _ h => h) (Or.inl ⟨by rfl, ?_⟩) ?_ ?_
       rotate_left
       ·intro w'; go_simp; with_reducible rfl
       rotate_left
       ·simp only [Act.put, setIfInBounds_toArray, set_cons_zero, set_cons_succ, i64_w, i32_w]; rfl
       refine done_ (by kernel_rfl) ?_
       by_cases hov : m.sum = hold
       ·have do1 : (m.sum != hold) = false := by rw [bne_eq_false_iff_eq]; exact hov
        have do2 : (m.sum == hold) = true := beq_iff_eq.mpr hov
        have HRO := Aside0.mk (show rowOk n hold caps start i from ⟨by rw [EGT.out]; exact HM.out, fun h => absurd h hin, fun _ => by rw [EGT.out]; exact hov⟩)
        have HI2 := Aside0.mk (show NInv w w3 ⟨g2, gx, gf, gm, ga, ck, gp, pc⟩ n hold caps l vc (chestsTo caps start (i + 1)) (fedTo n start i) (okN w ⟨g2, gx, gf, gm, ga, ck, gp, pc⟩) from by rw [chestsTo_over caps start i (by omega) (by omega)]; exact HI.out)
        clear HI
        have HI := HI2
        clear HI2
        have c7 : w3.cell? ⟨gx, 7, none⟩ = some (.slice (some ⟨gf, 0, none⟩) n n) := (blk_cell HI.out.kx 7).trans rfl
        go_upto_region 22 with (first | (go_at_call 18; (with_reducible refine (prep_add.calls Kf (fun k => k = gf) (.slice (some ⟨gf, 0, none⟩) n n) (fedTo n start i) A3 c3 m (fedTo n start (i + 1)) w _ HI.out.hb HI.out.hf ?hr1 HC3.out HAD.out).mono ?_); (case hr1 => exact Kd.C_kept_came (Kd.heap_int .i64) HR3.out HI.out.hb (fun k hk => by rw [hk]; exact Kd.R_base HI.out.hf gf rfl)); rintro e w16 ⟨rfl, hR, hB, hK⟩; have n0_ := Aside0.mk (HI.out.feed HG.out (fun _ hk => hk) hB hK (Kd.R_mono (Kd.R_tight rfl hR) (fun k hk => by simp [Value.ownBlock] at hk; exact hk))); clear HI hR hB hK c7; have HI := n0_; clear n0_))
        have HR2 := Aside0.mk (show ∀ j, j < i + 1 → rowOk n hold caps start j from fun j hj => by
         rcases Nat.lt_or_ge j i with h | h
         ·exact HR.out j h
         ·obtain rfl : j = i := by omega
          exact HRO.out)
        go_wp2
        go_roundg (start.length - (i + 1))
        case measure => omega
        case rel => exact ⟨i + 1, _, by first | rfl | (rw [hw]; rfl) | simp, by omega, Nat.le_refl _, HI, HR2⟩
       ·have do1 : (m.sum != hold) = true := bne_iff_ne.mpr hov
        have do2 : (m.sum == hold) = false := beq_eq_false_iff_ne.mpr hov
        go_upto_region 20 with (first | fail)
        go_wp2
        go_ret2
        exact ⟨HI.out.hb, .inl ⟨fun h => by have h2 := (h.2.2 i hlt).2.2 hin; rw [EGT.out] at h2; exact hov h2, 39, by decide, rfl⟩⟩
     ·have e0 : (q == 0) = false := beq_eq_false_iff_ne.mpr hq0
      have e1 : (q != 0) = true := bne_iff_ne.mpr hq0
      go_upto_region 14 with (first | fail)
      go_wp2
      go_ret2
      exact ⟨HI.out.hb, .inl ⟨fun h => hq0 (HQI.out.2 (by have := (h.2.2 i hlt).1; rwa [EGT.out] at this)), q, hq0, rfl⟩⟩
    ·have hie : i = start.length := by omega
     have HOK := Aside0.mk (show newOk n hold caps l start from ⟨HCK.out, hl, fun j hj => HR.out j (by omega)⟩)
     have HFD := Aside0.mk (fedTo_ok n hold caps start (by omega) (by omega) i (by omega) HR.out)
     obtain ⟨ad3, A3, c3, e3, hx3, hlc3, hr3⟩ := at_L1 HST.out (caps.length : Int) (by omega) (by omega)
     cases e3
     have ei : rd_L1 start (caps.length : Int) = start.getD caps.length [] := by unfold rd_L1; rw [Int.toNat_natCast]
     rw [ei] at hx3 hlc3 hr3
     have hro := HR.out caps.length (by omega)
     have HPLN := Aside0.mk (show plantNew n hold caps l start = ⟨n, hold, l, chestsTo caps start start.length, [start.getD caps.length []], fedTo n start start.length, List.replicate n 0⟩ from rfl)
     have hpm : partsOk (start.getD caps.length []) n := hro.1
     have hsm : (start.getD caps.length []).sum = hold := hro.2.2 (by omega)
     clear hro ei
     generalize start.getD caps.length [] = m at *
     rw [Int.toNat_natCast] at hx3
     replace hx3 := (HI.out.hb.cell (World.block_lt_of_cell? w _ hx3)).trans hx3
     have HC3 := Aside0.mk hlc3
     have HR3 := Aside0.mk hr3
     have hml : (m.length : Int) = n := hpm.2.1
     have HPN := Aside0.mk (show pipe_New.f Kf m = some (hold, [m], 0) from by
      unfold pipe_New.f
      rw [parts_good (n := (m.length : Int)) (by rw [hml]; exact hpm), Option.bind_some, if_pos rfl, pipe_sum_eq (by omega) (by omega) (fun x hx => (hpm.2.2 x hx).1) (by omega), Option.bind_some, hsm, if_neg (by omega), if_neg (by omega)]
      unfold pipe_copied.f
      rw [if_pos (by omega)]; rfl)
     obtain ⟨gc, cc, ev, _, hgcl, _⟩ := Kd.N_form HI.out.hc (by rw [chestsTo_len caps start i (by omega)]; omega)
     have HGC := Aside0.mk hgcl
     have HFL := Aside0.mk (show (fedTo n start i).length = n from by have := HFD.out.1; omega)
     subst ev
     clear hlc3 hr3 hpm hsm hgcl HFD HR
     have p1 : (0 ≤ (caps.length : Int)) = True := eq_true (by omega)
     have q1 : ((caps.length : Int) < (start.length : Int)) = True := eq_true (by omega)
     have q2 : ((caps.length : Int) < (caps.length : Int) + 1) = True := eq_true (by omega)
     go_upto_region 24 with (first | (go_at_call 19; (with_reducible refine (pipe_New.calls Kf A3 c3 m hold [m] 0 _ (Kd.C_below HR3.out HI.out.hb) HC3.out HPN.out).mono ?_); rintro e w8 ⟨v1, rfl, hN, hb⟩; obtain ⟨QA, qc, eo⟩ := Kd.N_slice hN; subst eo; have HQC := Aside0.mk (Kd.N_reads' hN).2.1; have HQF := Aside0.mk (Kd.F_mono (ok' := fun k => okN w ⟨g2, gx, gf, gm, ga, ck, gp, pc⟩ k ∧ k ≠ gc) (Kd.N_F hN) (fun k hk => ⟨HI.out.fresh k hk, fun e => by have h := HGC.out; rw [← e] at h; exact absurd h (Nat.not_lt.2 hk)⟩)); have n0_ := Aside0.mk (HI.out.below hb); clear HI hN hb hx3; have HI := n0_; clear n0_) | ((with_reducible refine gate_dst (N := 12) rfl ?_); refine box_event ?hg (N := 12) ?hd (cs := #[.int .i64 0, .slice none 0 0]) (t := 51) ?hr ?_; (case hd => rfl); (case hg => rfl); (case hr => first | (go_simp; done) | (go_simp; rfl)); intro g12 hg w9 hbox hb; have K12 := Aside0.mk hbox; have G12 := Aside0.mk (show okN w ⟨g2, gx, gf, gm, ga, ck, gp, pc⟩ g12 ∧ ∀ k, (okN w ⟨g2, gx, gf, gm, ga, ck, gp, pc⟩ k ∧ k < w8.heap.size) → k ≠ g12 from ⟨HI.out.fresh g12 (by rw [hg]; exact Nat.le_refl _), fun k hk e => by have h := hk.2; rw [e, hg] at h; exact absurd h (Nat.lt_irrefl _)⟩); have n0_ := Aside0.mk (show NInv w w9 ⟨g2, gx, gf, gm, ga, ck, gp, pc⟩ n hold caps l (.slice (some ⟨gc, 0, none⟩) (chestsTo caps start i).length cc) (chestsTo caps start i) (fedTo n start i) (fun k => okN w ⟨g2, gx, gf, gm, ga, ck, gp, pc⟩ k ∧ k < w8.heap.size) from ⟨(HI.out.below hb).hb, (HI.out.below hb).k2, (HI.out.below hb).kx, (HI.out.below hb).ha, (HI.out.below hb).hp, Kd.N_below (Kd.N_bound HI.out.hc) hb, (HI.out.below hb).hf, (HI.out.below hb).hm⟩); have n1_ := Aside0.mk (Kd.F_mono (ok' := fun k => (okN w ⟨g2, gx, gf, gm, ga, ck, gp, pc⟩ k ∧ k ≠ gc) ∧ k ≠ g12) (Kd.F_below (Kd.F_bound HQF.out) hb) (fun k hk => ⟨hk.1, fun e => by have h := hk.2; rw [e, hg] at h; exact absurd h (Nat.lt_irrefl _)⟩)); clear HI HQF hbox hg hb; have HI := n0_; have HQF := n1_; clear n0_ n1_; have c120 : w9.cell? ⟨g12, 0, none⟩ = some (.int .i64 0) := (blk_cell K12.out 0).trans rfl; have c121 : w9.cell? ⟨g12, 1, none⟩ = some (.slice none 0 0) := (blk_cell K12.out 1).trans rfl; have f120 := blk_frozen K12.out 0; have f121 := blk_frozen K12.out 1))
     generalize hW : World.setCell (World.setCell w9 _ _) _ _ = w10
     have HI10 := Aside0.mk (show NInv w w10 ⟨g2, gx, gf, gm, ga, ck, gp, pc⟩ n hold caps l (.slice (some ⟨gc, 0, none⟩) (chestsTo caps start i).length cc) (chestsTo caps start i) (fedTo n start i) (okN w ⟨g2, gx, gf, gm, ga, ck, gp, pc⟩) from by rw [← hW]; have h1 := (HI.out.far12 G12.out.1 G12.out.2 0 (.int .i64 hold)).far12 G12.out.1 G12.out.2 1 (.slice QA [m].length qc); exact ⟨h1.hb, h1.k2, h1.kx, h1.ha, h1.hp, Kd.N_mono h1.hc (fun k hk => hk.1), h1.hf, h1.hm⟩)
     have K12x := Aside0.mk (show w10.heap[g12]? = some (.cells #[.int .i64 hold, .slice QA [m].length qc] 51 (0, 0)) from by rw [← hW]; exact blk_put (blk_put K12.out 0 _ rfl) 1 _ rfl)
     have HQF10 := Aside0.mk (show Kd.F (Kd.slice 3 (Kd.int .i64)) w10 (fun k => okN w ⟨g2, gx, gf, gm, ga, ck, gp, pc⟩ k ∧ k ≠ gc) QA [m].length [m] from by rw [← hW]; exact Kd.F_mono (Kd.F_far (p := ⟨g12, 1, none⟩) (Kd.F_far (p := ⟨g12, 0, none⟩) HQF.out (fun k hk => hk.2) _) (fun k hk => hk.2) _) (fun k hk => hk.1))
     clear hW HI K12 HQF c120 c121 f120 f121
     have HPF := Aside0.mk (HI10.out.done HG.out HFL.out HQF10.out HQC.out)
     have HBF := Aside0.mk (below_set (j := 6) (v := .slice QA [m].length qc) (below_set (j := 5) (v := .int .i64 hold) HI10.out.hb HG.out.ex) HG.out.ex)
     have c120 : w10.cell? ⟨g12, 0, none⟩ = some (.int .i64 hold) := (blk_cell K12x.out 0).trans rfl
     have c121 : w10.cell? ⟨g12, 1, none⟩ = some (.slice QA [m].length qc) := (blk_cell K12x.out 1).trans rfl
     have f5 := blk_frozen HI10.out.kx 5
     have f6 := blk_frozen HI10.out.kx 6
     have c5 : w10.cell? ⟨gx, 5, none⟩ = some (.int .i64 0) := (blk_cell HI10.out.kx 5).trans rfl
     have c6 : w10.cell? ⟨gx, 6, none⟩ = some (.slice none 0 0) := (blk_cell HI10.out.kx 6).trans rfl
     go_wp2
     go_ret2
     refine ⟨HBF.out, .inr ⟨HOK.out, ⟨gx, gc, cc, gf, n, gm, n, some ⟨ga, 0, none⟩, caps.length, ck, some ⟨gp, 0, none⟩, pc, QA, qc⟩, rfl, ?_⟩⟩
     rw [HPLN.out, ← hie]
     exact HPF.out
  ·have d5 : ((start.length : Int) != (caps.length : Int) + 1) = true := by rw [bne_iff_ne]; omega
   have d5' : ((start.length : Int) == (caps.length : Int) + 1) = false := by rw [beq_eq_false_iff_ne]; omega
   go_upto_region 6 with (first | fail)
   go_wp2
   go_ret2
   exact ⟨HB.out, .inl ⟨fun h => hl h.2.1, 3, by decide, rfl⟩⟩
 ·have e0 : (q == 0) = false := beq_eq_false_iff_ne.mpr hq0
  have e1 : (q != 0) = true := bne_iff_ne.mpr hq0
  go_upto_region 3 with (first | fail)
  go_wp2
  go_ret2
  exact ⟨HB.out, .inl ⟨fun h => hq0 (HQ.out.2 h.1), q, hq0, rfl⟩⟩
end Go.Proofs.Ytgbjlcaanagfnaa.P
