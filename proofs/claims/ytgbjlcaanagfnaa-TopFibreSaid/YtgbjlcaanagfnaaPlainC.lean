/- Plain facts about a plant: what a pump, and what a step does to a plant that is in order; kind by kind nothing is lost. Plain facts about the law: the sums that it carries along are what the plant holds; the small plant. The small plant of the law: it is made and works one step. -/
import Derived.Test.YtgbjlcaanagfnaaPlainA
import Derived.Test.YtgbjlcaanagfnaaHandNew
import Derived.Test.YtgbjlcaanagfnaaPx13
import Derived.Test.YtgbjlcaanagfnaaHandCopy
import Derived.Deep.QuietTactic
import Derived.BigQuiet
import Derived.RegionTactic
import Derived.WalkKit
import Derived.Deep.LoopGhost
namespace Go.Proofs.Ytgbjlcaanagfnaa.P
open Go.RowKit Go.Proofs.YtgbjlcaanagfnaaW.PrintWords Go.Proofs.YtgbjlcaanagfnaaW.PrintLast
set_option linter.unusedVariables false
set_option linter.unusedSimpArgs false

/-! What a push does, plug by plug. -/
def kat (k : Nat) (q : List Int) : Int := q.getD k 0
structure PSOk (n : Nat) (done rest : List (List Int)) (m : Int) (s : PS) : Prop where
 len : s.left.length = n
 nn : ∀ x ∈ s.left, 0 ≤ x
 mis0 : 0 ≤ s.mis
 sumeq : s.left.sum + s.mis = m
 outs : ∀ q ∈ s.outs, plugOk n q
 at_ : ∀ k, kat k s.left + (s.outs.map (kat k)).sum = (done.map (kat k)).sum
 ms : s.mis ≤ (rest.map List.sum).sum
 tot : s.left.sum + (s.outs.map List.sum).sum = (done.map List.sum).sum
theorem vadd_nn {a b : List Int} (ha : ∀ x ∈ a, 0 ≤ x) (hb : ∀ x ∈ b, 0 ≤ x) : ∀ x ∈ vadd a b, 0 ≤ x := fun x hx => by
 obtain ⟨i, i1, i2, rfl⟩ := mem_zip hx
 have a1 := ha _ (List.getElem_mem i1); have a2 := hb _ (List.getElem_mem i2)
 show 0 ≤ _ + _
 omega
theorem pushOne_ok {n : Nat} (hn : 1 ≤ n ∧ n ≤ 8) {done rest : List (List Int)} {p : List Int} {m : Int} {s : PS} (h : PSOk n done (p :: rest) m s) (hp : plugOk n p) (hps : p.sum ≤ 1099511627776) (hm : m ≤ 1099511627776) (hr : 0 ≤ (rest.map List.sum).sum) : PSOk n (done ++ [p]) rest m (pushOne s p) := by
 obtain ⟨h1, h2, h3, h4, h5, h6, h7, h8⟩ := h
 obtain ⟨p1, p2, p3⟩ := hp
 simp only [List.map_cons, List.sum_cons] at h7
 have hls := sum_nonneg _ h2
 have hlf : fits s.left := fits_sum h2 (by omega)
 have hpf : fits p := fits_sum p2 (by omega)
 have hlp : s.left.length = p.length := by omega
 unfold pushOne
 by_cases c1 : p.sum ≤ s.mis
 ·rw [if_pos c1, lvM_eq _ _ (by omega) p2 (by omega), lvL_eq hlp hlf hpf]
  exact ⟨by show (vadd _ _).length = n; rw [vadd_len hlp]; exact h1, vadd_nn h2 p2, by show 0 ≤ s.mis - p.sum; omega, by show (vadd _ _).sum + (s.mis - p.sum) = m; rw [vadd_sum _ _ hlp]; omega, h5, fun k => by
   have := h6 k
   simp only [List.map_append, List.sum_append, List.map_cons, List.map_nil, List.sum_cons, List.sum_nil]
   show kat k (vadd s.left p) + _ = _
   unfold kat at *
   rw [vadd_at _ _ hlp]; omega, by show s.mis - p.sum ≤ _; omega, by
   simp only [List.map_append, List.sum_append, List.map_cons, List.map_nil, List.sum_cons, List.sum_nil]
   show (vadd s.left p).sum + _ = _
   rw [vadd_sum _ _ hlp]; omega⟩
 ·rw [if_neg c1]
  by_cases c2 : 0 < s.mis
  ·have hg := good_of (t := s.mis) hn p1 p2 hps (by omega) (by omega)
   have hsl : (splitL s.mis p).length = p.length := split_len
   have hss := split_sum hg
   have hsn := split_nn hg
   have hsf : fits (splitL s.mis p) := fits_sum hsn (by omega)
   have hls2 : s.left.length = (splitL s.mis p).length := by omega
   have hps2 : p.length = (splitL s.mis p).length := by omega
   rw [if_pos c2]
   have e1 : lvM s.mis (splitL s.mis p) p.length = 0 := by
    have := lvM_eq s.mis (splitL s.mis p) (by omega) hsn (by omega)
    rw [hsl, hss] at this
    rw [this]; omega
   have e2 : lvL s.left (splitL s.mis p) p.length = vadd s.left (splitL s.mis p) := by
    have := lvL_eq hls2 hlf hsf
    rwa [hsl] at this
   rw [e1, e2, rsTo_eq hps2 hpf hsf]
   exact ⟨by show (vadd _ _).length = n; rw [vadd_len hls2]; exact h1, vadd_nn h2 hsn, Int.le_refl _, by show (vadd _ _).sum + 0 = m; rw [vadd_sum _ _ hls2, hss]; omega, fun q hq => by
    rcases List.mem_append.1 hq with hq | hq
    ·exact h5 q hq
    ·rw [List.mem_singleton.1 hq]
     exact ⟨by rw [vsub_len hps2]; exact p1, sub_nn hg (by omega), by rw [vsub_sum _ _ hps2, hss]; omega⟩, fun k => by
    have := h6 k
    simp only [List.map_append, List.sum_append, List.map_cons, List.map_nil, List.sum_cons, List.sum_nil]
    show kat k (vadd s.left (splitL s.mis p)) + _ = _
    unfold kat at *
    rw [vadd_at _ _ hls2, vsub_at _ _ hps2]; omega, by
    show (0 : Int) ≤ _
    omega, by
    simp only [List.map_append, List.sum_append, List.map_cons, List.map_nil, List.sum_cons, List.sum_nil]
    show (vadd s.left (splitL s.mis p)).sum + _ = _
    rw [vadd_sum _ _ hls2, vsub_sum _ _ hps2]; omega⟩
  ·rw [if_neg c2]
   exact ⟨h1, h2, h3, h4, fun q hq => by
    rcases List.mem_append.1 hq with hq | hq
    ·exact h5 q hq
    ·rw [List.mem_singleton.1 hq]; exact ⟨p1, p2, p3⟩, fun k => by
    have := h6 k
    simp only [List.map_append, List.sum_append, List.map_cons, List.map_nil, List.sum_cons, List.sum_nil]
    omega, by
    show s.mis ≤ _
    omega, by
    simp only [List.map_append, List.sum_append, List.map_cons, List.map_nil, List.sum_cons, List.sum_nil]
    omega⟩
theorem pushAll_ok {n : Nat} (hn : 1 ≤ n ∧ n ≤ 8) {m : Int} (hm : m ≤ 1099511627776) : ∀ (rest done : List (List Int)) (s : PS), PSOk n done rest m s → (∀ p ∈ rest, plugOk n p ∧ p.sum ≤ 1099511627776) → PSOk n (done ++ rest) [] m (rest.foldl pushOne s)
 | [], done, s, h, _ => by rw [List.append_nil]; exact h
 | p :: rest, done, s, h, hp => by
  have h1 := pushOne_ok hn h (hp p (by simp)).1 (hp p (by simp)).2 hm (map_sum_nn _ _ (fun q hq => by have := (hp q (by simp [hq])).1.2.2; omega))
  have h2 := pushAll_ok hn hm rest (done ++ [p]) _ h1 (fun q hq => hp q (by simp [hq]))
  rw [List.append_assoc] at h2
  exact h2
theorem kat_rep (n k : Nat) : kat k (List.replicate n 0) = 0 := by
 unfold kat
 rw [List.getD_eq_getElem?_getD, List.getElem?_replicate]
 split <;> rfl
theorem push_ok {n : Nat} {hold : Int} {l : List (List Int)} (h : PipeOk n hold l) {m : List Int} (hm : plugOk n m) {outs : List (List Int)} {left : List Int} (e : pushA hold n l m = some (outs, left)) :
  PipeOk n hold outs ∧ left.length = n ∧ (∀ x ∈ left, 0 ≤ x) ∧ left.sum = m.sum ∧ ∀ k, kat k left + (outs.map (kat k)).sum = (l.map (kat k)).sum + kat k m := by
 unfold pushA at e
 have hh := h.h1
 by_cases c1 : hold < m.sum
 ·rw [if_pos c1] at e; cases e
 ·rw [if_neg c1] at e
  by_cases c2 : 256 < (pushS n l m).outs.length + 1
  ·rw [if_pos c2] at e; cases e
  ·rw [if_neg c2] at e
   cases e
   have h0 : PSOk n [] l m.sum ⟨m.sum, List.replicate n 0, []⟩ := ⟨by simp, fun x hx => by rw [List.eq_of_mem_replicate hx]; exact Int.le_refl _, by have := hm.2.2; show 0 ≤ m.sum; omega, by simp, fun q hq => by simp at hq, fun k => by show kat k (List.replicate n 0) + _ = _; rw [kat_rep]; simp, by show m.sum ≤ _; rw [h.tot]; omega, by simp⟩
   have h1 := pushAll_ok h.n1 (m := m.sum) (by omega) l [] _ h0 (fun p hp => ⟨h.ok p hp, h.le p hp⟩)
   have e1 : pushS n l m = l.foldl pushOne ⟨m.sum, List.replicate n 0, []⟩ := by unfold pushS pst; rw [List.take_length]
   rw [← e1, List.nil_append] at h1
   generalize pushS n l m = S at *
   obtain ⟨g1, g2, g3, g4, g5, g6, g7, g8⟩ := h1
   simp only [List.map_nil, List.sum_nil] at g7
   refine ⟨⟨h.n1, h.h1, by simp; omega, fun q hq => ?_, ?_⟩, g1, g2, by omega, fun k => ?_⟩
   ·rcases List.mem_append.1 hq with hq | hq
    ·exact g5 q hq
    ·rw [List.mem_singleton.1 hq]; exact hm
   ·have ht := h.tot
    simp only [List.map_append, List.sum_append, List.map_cons, List.map_nil, List.sum_cons, List.sum_nil]
    omega
   ·have := g6 k
    simp only [List.map_append, List.sum_append, List.map_cons, List.map_nil, List.sum_cons, List.sum_nil]
    omega
theorem okPush_of {K : Nat} (hK : 1000 ≤ K) {n : Nat} {hold : Int} {l : List (List Int)} (h : PipeOk n hold l) {m : List Int} (hm : plugOk n m) (hs : m.sum ≤ 1099511627776) : okPush K hold l m n := by
 have hn := h.n1
 have hl := h.len
 exact ⟨pipe_check hK h, parts_good (parts_of hn hm.1 hm.2.1 hs), by omega, by omega, fun p hp => (h.ok p hp).1, hm.1, by omega, by omega, fun p hp => pipe_sum_eq (by have := (h.ok p hp).1; omega) (by have := (h.ok p hp).1; omega) (h.ok p hp).2.1 (by have := h.le p hp; omega), pipe_sum_eq (by have := hm.1; omega) (by have := hm.1; omega) hm.2.1 (by omega), fun p hp t h0 ht => good_of hn (h.ok p hp).1 (h.ok p hp).2.1 (h.le p hp) (by omega) (by omega), hm.2.2⟩

/-! A plant. -/
structure PlOk (n : Nat) (F M : Int) (s : Pl) : Prop where
 kinds : s.kinds = n
 pumps : pumpsOk s.chests.length s.pumps
 ch1 : 1 ≤ s.chests.length ∧ s.chests.length ≤ 8
 ch : ∀ c ∈ s.chests, chestOk n c
 pipe : PipeOk n s.hold s.plugs
 fed : s.fed.length = n ∧ ∀ x ∈ s.fed, 0 ≤ x ∧ x ≤ F
 made : s.made.length = n ∧ ∀ x ∈ s.made, 0 ≤ x ∧ x ≤ M
def tot (s : Pl) (k : Nat) : Int := (s.chests.map fun c => kat k c.f1).sum + (s.plugs.map (kat k)).sum
theorem PlOk.mono {n : Nat} {F M F' M' : Int} {s : Pl} (h : PlOk n F M s) (hF : F ≤ F') (hM : M ≤ M') : PlOk n F' M' s :=
 ⟨h.kinds, h.pumps, h.ch1, h.ch, h.pipe, ⟨h.fed.1, fun x hx => by have := h.fed.2 x hx; omega⟩, ⟨h.made.1, fun x hx => by have := h.made.2 x hx; omega⟩⟩
theorem getD_memS {l : List S56} {i : Nat} (h : i < l.length) (z : S56) : l.getD i z = l[i] := by rw [List.getD_eq_getElem?_getD, List.getElem?_eq_getElem h]; rfl
theorem set_map_sum (f : S56 → Int) (l : List S56) (i : Nat) (x : S56) (h : i < l.length) : ((l.set i x).map f).sum = (l.map f).sum - f l[i] + f x := by
 rw [List.map_set, set_sum _ _ _ (by simpa using h)]
 congr 2
 rw [List.getD_eq_getElem?_getD, List.getElem?_map, List.getElem?_eq_getElem h]; rfl
theorem set_all {P : S56 → Prop} {l : List S56} (h : ∀ c ∈ l, P c) (i : Nat) {x : S56} (hx : P x) : ∀ c ∈ l.set i x, P c := fun c hc => by
 rcases List.mem_or_eq_of_mem_set hc with hc | rfl
 ·exact h c hc
 ·exact hx
theorem add_len_run : ∀ (K : Nat) (a b r : List Int) (z i : Int), prep_add.l0 K a b z i = some r → r.length = a.length
 | 0, a, b, r, z, i, h => by simp [prep_add.l0] at h
 | K + 1, a, b, r, z, i, h => by
  simp only [prep_add.l0] at h
  split at h
  ·split at h
   ·split at h
    ·split at h
     ·have := add_len_run K _ _ _ _ _ h
      rw [this]; simp
     ·cases h
    ·cases h
   ·cases h
  ·cases h; rfl
theorem add_len {K : Nat} {a b r : List Int} (h : prep_add.f K a b = some r) : r.length = a.length := add_len_run K _ _ _ _ _ h
structure PumpDone (n : Nat) (F M : Int) (d : Int) (s s' : Pl) : Prop where
 ok : PlOk n F M s'
 cons : ∀ k, tot s' k + kat k s'.made = tot s k + kat k s.made
 sum : s'.made.sum = s.made.sum + d
 mono : ∀ k, kat k s.made ≤ kat k s'.made
 pumps : s'.pumps = s.pumps
 hold : s'.hold = s.hold
 len : s'.chests.length = s.chests.length
 fed : s'.fed = s.fed
theorem kat_nn {l : List Int} (h : ∀ x ∈ l, 0 ≤ x) (k : Nat) : 0 ≤ kat k l := by
 unfold kat
 by_cases hk : k < l.length
 ·rw [getD_mem hk]; exact h _ (List.getElem_mem hk)
 ·rw [List.getD_eq_getElem?_getD, List.getElem?_eq_none (by omega)]; exact Int.le_refl _
theorem kat_le {l : List Int} {B : Int} (hB : 0 ≤ B) (h : ∀ x ∈ l, x ≤ B) (k : Nat) : kat k l ≤ B := by
 unfold kat
 by_cases hk : k < l.length
 ·rw [getD_mem hk]; exact h _ (List.getElem_mem hk)
 ·rw [List.getD_eq_getElem?_getD, List.getElem?_eq_none (by omega)]; exact hB
theorem pump_ok {K : Nat} (hK : 1000 ≤ K) {n : Nat} {F M : Int} {s : Pl} (h : PlOk n F M s) (hM : M ≤ 1152921504606846976) {p : Int × Int × Int} (hp : pumpOk s.chests.length p) :
  ∃ r, pumpF K n s p = some r ∧ PumpOk K n s p ∧ ∀ s', r = some s' → PumpDone n F (M + 1099511627776) (if p.2.1 = -1 then p.2.2 else 0) s s' := by
 obtain ⟨fr, dst, mass⟩ := p
 obtain ⟨⟨f0, f1⟩, hd, hne, m1, m2⟩ := hp
 simp only [] at f0 f1 hd hne m1 m2
 have hn := h.pipe.n1
 have hfl : fr.toNat < s.chests.length := by omega
 have hci := getD_memS hfl ⟨0, []⟩
 have hc := h.ch _ (List.getElem_mem hfl)
 have hdr := draw_eq hK hn hc ⟨m1, m2⟩
 have hmade := h.made
 have hPO : (∀ r1 r2 r3, chest_Draw.f K (s.chests.getD fr.toNat ⟨0, []⟩).f0 (s.chests.getD fr.toNat ⟨0, []⟩).f1 mass = some (r1, r2, r3, 0) → dst = -1 → okPush K s.hold s.plugs r3 n) → PumpOk K n s (fr, dst, mass) := fun hx => ⟨f0, hfl, hd.imp id (fun h => ⟨h.1, (show dst.toNat < s.chests.length from by omega)⟩), hx, fun l md he => add_len he⟩
 rw [hci] at hPO
 unfold pumpF
 simp only []
 rw [hci]
 generalize hcc : s.chests[fr.toNat] = c at *
 by_cases hlt : c.f1.sum < mass
 ·rw [if_pos hlt] at hdr
  rw [hdr] at hPO ⊢
  simp only []
  rw [if_neg (by decide)]
  exact ⟨none, rfl, hPO (fun r1 r2 r3 e => by cases e), fun s' e => by cases e⟩
 ·rw [if_neg hlt] at hdr
  rw [hdr] at hPO ⊢
  obtain ⟨d1, d2, d3⟩ := chest_drawn hn hc m1 (by omega)
  have hkd : ∀ k, kat k (vsub c.f1 (splitL mass c.f1)) = kat k c.f1 - kat k (splitL mass c.f1) := fun k => vsub_at _ _ (by rw [split_len]) k
  generalize splitL mass c.f1 = m at *
  have hop := okPush_of hK h.pipe d2 (by omega)
  have hPOk := hPO (fun r1 r2 r3 e _ => by cases e; exact hop)
  simp only []
  rw [if_pos trivial]
  have hcs : ∀ k, ((s.chests.set fr.toNat ⟨c.f0, vsub c.f1 m⟩).map fun c => kat k c.f1).sum = (s.chests.map fun c => kat k c.f1).sum - kat k m := fun k => by
   rw [set_map_sum _ _ _ _ hfl, hcc, hkd k]; omega
  have hca := set_all h.ch fr.toNat d1
  by_cases cd : dst = -1
  ·rw [if_pos cd]
   cases hpa : pushA s.hold n s.plugs m with
   | none => exact ⟨none, rfl, hPOk, fun s' e => by cases e⟩
   | some ol =>
    obtain ⟨outs, left⟩ := ol
    obtain ⟨q1, q2, q3, q4, q5⟩ := push_ok h.pipe d2 hpa
    have hml : s.made.length = left.length := by omega
    have had := add_eq (K := K) hml (by omega) (by omega) (fits_of hmade.2 (by omega)) (fits_sum q3 (by omega))
    simp only []
    rw [had]
    refine ⟨_, rfl, hPOk, fun s' e => ?_⟩
    cases e
    have hlb := le_sum q3 (B := 1099511627776) (by omega)
    refine ⟨⟨h.kinds, by simpa using h.pumps, by simpa using h.ch1, hca, q1, h.fed, by show (vadd s.made left).length = n; rw [vadd_len hml]; exact hmade.1, fun x hx => ?_⟩, fun k => ?_, ?_, fun k => ?_, rfl, rfl, by simp, rfl⟩
    ·obtain ⟨i, i1, i2, rfl⟩ := mem_zip (show x ∈ vadd s.made left from hx)
     have a1 := hmade.2 _ (List.getElem_mem i1); have a2 := hlb _ (List.getElem_mem i2)
     show 0 ≤ _ + _ ∧ _ + _ ≤ _
     omega
    ·unfold tot
     have e1 := hcs k; have e2 := q5 k
     have e3 : kat k (vadd s.made left) = kat k s.made + kat k left := vadd_at _ _ hml k
     simp only [] at e1 ⊢
     rw [e1, e3]; omega
    ·show (vadd s.made left).sum = _
     rw [vadd_sum _ _ hml, q4, d3, if_pos cd]
    ·show _ ≤ kat k (vadd s.made left)
     have e3 : kat k (vadd s.made left) = kat k s.made + kat k left := vadd_at _ _ hml k
     have := kat_nn q3 k
     omega
  ·rw [if_neg cd]
   obtain ⟨t0, t1⟩ := hd.resolve_left cd
   have htl : dst.toNat < s.chests.length := by omega
   have hti : (s.chests.set fr.toNat ⟨c.f0, vsub c.f1 m⟩).getD dst.toNat ⟨0, []⟩ = s.chests[dst.toNat] := by
    rw [List.getD_eq_getElem?_getD, List.getElem?_set_ne (by omega), List.getElem?_eq_getElem htl]; rfl
   rw [hti]
   have htk := h.ch _ (List.getElem_mem htl)
   obtain ⟨r1, r2, r3, hf, hfok⟩ := fill_any hK hn htk m
   rw [hf]
   simp only []
   by_cases c3 : r3 = 0
   ·rw [if_pos c3]
    obtain ⟨g1, rfl, rfl, g4⟩ := hfok c3
    have hfc := chest_filled htk g1 g4
    refine ⟨_, rfl, hPOk, fun s' e => ?_⟩
    cases e
    have hlm : (s.chests[dst.toNat]).f1.length = m.length := by have := htk.2.1; have := d2.1; omega
    refine ⟨⟨h.kinds, by simpa using h.pumps, by simpa using h.ch1, set_all hca dst.toNat hfc, h.pipe, h.fed, hmade.1, fun x hx => by have := hmade.2 x hx; omega⟩, fun k => ?_, ?_, fun k => Int.le_refl _, rfl, rfl, by simp, rfl⟩
    ·unfold tot
     have e1 := hcs k
     have e3 : kat k (vadd (s.chests[dst.toNat]).f1 m) = kat k (s.chests[dst.toNat]).f1 + kat k m := vadd_at _ _ hlm k
     simp only [] at e1 ⊢
     rw [set_map_sum _ _ _ _ (by simpa using htl), e1, e3, List.getElem_set_ne (by omega)]; omega
    ·rw [if_neg cd]; show s.made.sum = _; omega
   ·rw [if_neg c3]
    exact ⟨none, rfl, hPOk, fun s' e => by cases e⟩
/-- What the pumps push to the machine. -/
def pushedOf (ps : List (Int × Int × Int)) : Int := (ps.map fun p => if p.2.1 = -1 then p.2.2 else 0).sum
theorem step_ok {K : Nat} (hK : 1000 ≤ K) {n : Nat} {F : Int} : ∀ (ps : List (Int × Int × Int)) (M : Int) (s : Pl), PlOk n F M s → M + ps.length * 1099511627776 ≤ 1152921504606846976 → (∀ p ∈ ps, pumpOk s.chests.length p) →
  ∃ r, stepF K n ps s = some r ∧ StepOk K n ps s ∧ ∀ s', r = some s' → PumpDone n F (M + ps.length * 1099511627776) (pushedOf ps) s s'
 | [], M, s, h, hM, hp => ⟨some s, rfl, trivial, fun s' e => by
  cases e
  exact ⟨by simpa using h, fun _ => rfl, by simp [pushedOf], fun _ => Int.le_refl _, rfl, rfl, rfl, rfl⟩⟩
 | p :: ps, M, s, h, hM, hp => by
  rw [List.length_cons, Int.natCast_add, Int.add_mul] at hM
  obtain ⟨r, hr, hok, hs⟩ := pump_ok hK h (by omega) (hp p (by simp))
  cases r with
  | none =>
   refine ⟨none, by simp only [stepF]; rw [hr], ⟨hok, fun s' e => by rw [hr] at e; cases e⟩, fun s' e => by cases e⟩
  | some s1 =>
   have d1 := hs s1 rfl
   obtain ⟨r2, hr2, hok2, hs2⟩ := step_ok hK ps (M + 1099511627776) s1 d1.ok (by omega) (fun q hq => by rw [d1.len]; exact hp q (by simp [hq]))
   refine ⟨r2, by simp only [stepF]; rw [hr]; exact hr2, ⟨hok, fun s' e => by rw [hr] at e; cases e; exact hok2⟩, fun s' e => ?_⟩
   have d2 := hs2 s' e
   refine ⟨by rw [List.length_cons, Int.natCast_add, Int.add_mul]; exact d2.ok.mono (Int.le_refl _) (by omega), fun k => (d2.cons k).trans (d1.cons k), ?_, fun k => Int.le_trans (d1.mono k) (d2.mono k), d2.pumps.trans d1.pumps, d2.hold.trans d1.hold, d2.len.trans d1.len, d2.fed.trans d1.fed⟩
   rw [d2.sum, d1.sum]
   unfold pushedOf
   simp only [List.map_cons, List.sum_cons]
   omega
end Go.Proofs.Ytgbjlcaanagfnaa.P

namespace Go.Proofs.Ytgbjlcaanagfnaa.P
open Go.RowKit Go.Proofs.YtgbjlcaanagfnaaW.PrintWords Go.Proofs.YtgbjlcaanagfnaaW.PrintLast
set_option linter.unusedVariables false
set_option linter.unusedSimpArgs false

theorem zip_snd (f : List Int → Int) : ∀ (caps : List Int) (start : List (List Int)), ((caps.zip start).map fun p => f p.2) = (start.take caps.length).map f
 | [], _ => by simp
 | _ :: _, [] => by simp
 | c :: caps, m :: start => by simp [zip_snd f caps start]
theorem plantNew_ok {n : Nat} {hold : Int} {caps : List Int} {l : List (Int × Int × Int)} {start : List (List Int)} (h : newOk (n : Int) hold caps l start) :
  PlOk n 9895604649984 0 (plantNew n hold caps l start) ∧ ∀ k, tot (plantNew n hold caps l start) k = kat k (fedTo n start start.length) := by
 obtain ⟨⟨⟨k1, k8⟩, ⟨c1, c8⟩, hc, hp, h1, h2⟩, hl, hr⟩ := h
 have hn : 1 ≤ n ∧ n ≤ 8 := by omega
 have hfd := fedTo_ok n hold caps start (by omega) (by omega) start.length (Nat.le_refl _) (fun j hj => hr j hj)
 have hlast := hr caps.length (by omega)
 have hcl : (chestsTo caps start start.length).length = caps.length := by rw [chestsTo_len caps start _ (by omega)]; omega
 have hrow : ∀ i (hi : i < start.length), partsOk start[i] (n : Int) := fun i hi => by
  have := (hr i hi).1
  rwa [List.getD_eq_getElem?_getD, List.getElem?_eq_getElem hi] at this
 refine ⟨⟨rfl, by show pumpsOk (chestsTo caps start start.length).length l; rw [hcl]; exact hp, by show 1 ≤ (chestsTo caps start start.length).length ∧ (chestsTo caps start start.length).length ≤ 8; rw [hcl]; exact ⟨c1, c8⟩, ?_, ?_, ⟨by have := hfd.1; show (fedTo n start start.length).length = n; omega, fun x hx => by have := hfd.2 x hx; omega⟩, ⟨by simp [plantNew], fun x hx => by rw [List.eq_of_mem_replicate (show x ∈ List.replicate _ 0 from hx)]; omega⟩⟩, fun k => ?_⟩
 ·intro c hcm
  obtain ⟨p, hpm, rfl⟩ := List.mem_map.1 (show c ∈ ((caps.zip start).take start.length).map fun p => (⟨p.1, p.2⟩ : S56) from hcm)
  obtain ⟨i, hi, rfl⟩ := List.mem_iff_getElem.1 (List.mem_of_mem_take hpm)
  have hi2 : i < caps.length ∧ i < start.length := by rw [List.length_zip] at hi; omega
  rw [List.getElem_zip]
  have hpo := hrow i hi2.2
  have hle := (hr i hi2.2).2.1 hi2.1
  rw [List.getD_eq_getElem?_getD, List.getElem?_eq_getElem hi2.2, List.getD_eq_getElem?_getD, List.getElem?_eq_getElem hi2.1] at hle
  exact ⟨hc _ (List.getElem_mem hi2.1), by have := hpo.2.1; show (start[i]'hi2.2).length = n; omega, fun x hx => (hpo.2.2 x hx).1, hle⟩
 ·have hsum := hlast.2.2 (by omega)
  have hpo := hlast.1
  exact ⟨hn, ⟨h1, h2⟩, ⟨by simp [plantNew], by simp [plantNew]⟩, fun q hq => by
   rw [List.mem_singleton.1 (show q ∈ [start.getD caps.length []] from hq)]
   exact ⟨by have := hpo.2.1; omega, fun x hx => (hpo.2.2 x hx).1, by omega⟩, by show (List.map List.sum [start.getD caps.length []]).sum = hold; rw [List.map_cons, List.map_nil, List.sum_cons, List.sum_nil, hsum]; omega⟩
 ·unfold tot
  show (((((caps.zip start).take start.length).map fun p => (⟨p.1, p.2⟩ : S56))).map fun c => kat k c.f1).sum + ([start.getD caps.length []].map (kat k)).sum = kat k ((start.take start.length).foldl vadd (List.replicate (Int.toNat (n : Int)) 0))
  rw [List.take_length, List.take_of_length_le (by simp; omega), List.map_map]
  have e1 : (List.map ((fun c : S56 => kat k c.f1) ∘ fun p : Int × List Int => (⟨p.1, p.2⟩ : S56)) (caps.zip start)) = (start.take caps.length).map (kat k) := zip_snd (kat k) caps start
  rw [e1, Int.toNat_natCast]
  have e2 := (vfold_at k start (List.replicate n 0) (fun q hq => by
   obtain ⟨i, hi, rfl⟩ := List.mem_iff_getElem.1 hq
   have := (hrow i hi).2.1; simp; omega)).2
  have e3 : kat k (start.foldl vadd (List.replicate n 0)) = kat k (List.replicate n 0) + (start.map (kat k)).sum := e2
  rw [e3, kat_rep]
  have e4 : start = start.take caps.length ++ [start.getD caps.length []] := by
   have hlt : caps.length < start.length := by omega
   rw [List.getD_eq_getElem?_getD, List.getElem?_eq_getElem hlt]
   show start = start.take caps.length ++ [start[caps.length]]
   rw [← List.take_succ_eq_append_getElem hlt, ← hl, List.take_length]
  have e5 : (start.map (kat k)).sum = ((start.take caps.length).map (kat k)).sum + kat k (start.getD caps.length []) := by
   conv => lhs; rw [e4]
   simp only [List.map_append, List.sum_append, List.map_cons, List.map_nil, List.sum_cons, List.sum_nil]
   omega
  rw [e5]; simp
theorem masses_any {K : Nat} (hK : 1000 ≤ K) (r : List Int) (mass : Int) : ∃ m q, fibre_Masses.f K r mass = some (m, q) := by
 unfold fibre_Masses.f fibre_Recipe.f
 rw [listed_eq, Option.bind_some]
 by_cases h1 : (1 ≤ (r.length : Int) ∧ (r.length : Int) ≤ 8) ∧ (r.length : Int) = (r.length : Int)
 ·rw [if_pos (decide_eq_true h1)]
  show ∃ m q, (((some (r.all fun x => decide (0 ≤ x ∧ x ≤ 1000))).bind _).bind _) = some (m, q)
  rw [Option.bind_some]
  by_cases h2 : (r.all fun x => decide (0 ≤ x ∧ x ≤ 1000)) = true
  ·have h3 := (within_iff r 1000).1 h2
   have h4 := sum_le_mul 1000 r (fun x hx => (h3 x hx).2)
   rw [if_pos h2, fibre_sum_eq (by omega) (by omega) (fun x hx => (h3 x hx).1) (by omega), Option.bind_some]
   by_cases h5 : r.sum = 1000
   ·rw [if_pos h5, Option.bind_some, if_pos rfl]
    by_cases h6 : mass < 0
    ·rw [if_pos h6]; exact ⟨_, _, rfl⟩
    ·rw [if_neg h6]
     by_cases h7 : mass > 1099511627776
     ·rw [if_pos h7]; exact ⟨_, _, rfl⟩
     ·rw [if_neg h7]
      unfold share_Split.f
      rw [if_pos ⟨by omega, by omega, by omega, by omega, fun x hx => by have := h3 x hx; omega, by omega, by omega⟩]
      exact ⟨_, _, rfl⟩
   ·rw [if_neg h5, Option.bind_some, if_neg (by decide)]; exact ⟨_, _, rfl⟩
  ·rw [if_neg h2, Option.bind_some, if_neg (by decide)]; exact ⟨_, _, rfl⟩
 ·rw [if_neg (by rw [decide_eq_false h1]; decide), Option.bind_some, if_neg (by decide)]; exact ⟨_, _, rfl⟩
theorem feed_ok {K : Nat} (hK : 1000 ≤ K) {n : Nat} {F M : Int} {s : Pl} (h : PlOk n F M s) (hF : F ≤ 1152921504606846976) {i : Nat} (hi : i < s.chests.length) (m : List Int) :
  ∃ r1 r2 r3, chest_Fill.f K (s.chests.getD i ⟨0, []⟩).f0 (s.chests.getD i ⟨0, []⟩).f1 m = some (r1, r2, r3) ∧ (r3 = 0 → partsOk m n ∧ prep_add.f K s.fed m = some (vadd s.fed m) ∧ (vadd s.fed m).length = s.fed.length ∧
   PlOk n (F + 1099511627776) M { s with chests := s.chests.set i ⟨r1, r2⟩, fed := vadd s.fed m } ∧ ∀ k, tot { s with chests := s.chests.set i ⟨r1, r2⟩, fed := vadd s.fed m } k = tot s k + kat k m) := by
 rw [getD_memS hi]
 have hc := h.ch _ (List.getElem_mem hi)
 have hn := h.pipe.n1
 obtain ⟨r1, r2, r3, hf, hok⟩ := fill_any hK hn hc m
 refine ⟨r1, r2, r3, hf, fun h3 => ?_⟩
 obtain ⟨g1, rfl, rfl, g4⟩ := hok h3
 have hfl : s.fed.length = m.length := by have := h.fed.1; have := g1.2.1; omega
 have hcl : (s.chests[i]).f1.length = m.length := by have := hc.2.1; have := g1.2.1; omega
 refine ⟨g1, add_eq hfl (by have := h.fed.1; omega) (by have := h.fed.1; omega) (fits_of h.fed.2 (by omega)) (fits_of g1.2.2 (by omega)), vadd_len hfl, ⟨h.kinds, by simpa using h.pumps, by simpa using h.ch1, set_all h.ch i (chest_filled hc g1 g4), h.pipe, ⟨by show (vadd s.fed m).length = n; rw [vadd_len hfl]; exact h.fed.1, fun x hx => ?_⟩, h.made⟩, fun k => ?_⟩
 ·obtain ⟨j, j1, j2, rfl⟩ := mem_zip (show x ∈ vadd s.fed m from hx)
  have a1 := h.fed.2 _ (List.getElem_mem j1); have a2 := g1.2.2 _ (List.getElem_mem j2)
  show 0 ≤ _ + _ ∧ _ + _ ≤ _
  omega
 ·unfold tot
  have e3 : kat k (vadd (s.chests[i]).f1 m) = kat k (s.chests[i]).f1 + kat k m := vadd_at _ _ hcl k
  simp only []
  rw [set_map_sum _ _ _ _ hi, e3]; omega
theorem katsum_le (k : Nat) : ∀ l : List (List Int), (∀ q ∈ l, ∀ x ∈ q, 0 ≤ x) → 0 ≤ (l.map (kat k)).sum ∧ (l.map (kat k)).sum ≤ (l.map List.sum).sum
 | [], _ => by simp
 | q :: l, h => by
  have h1 := katsum_le k l (fun y hy => h y (by simp [hy]))
  have h2 := h q (by simp)
  have h3 := kat_nn h2 k
  have h4 := kat_le (sum_nonneg q h2) (fun x hx => mem_le_sum q h2 x hx) k
  simp only [List.map_cons, List.sum_cons]; omega
theorem chsum_le (k : Nat) {n : Nat} : ∀ l : List S56, (∀ c ∈ l, chestOk n c) → 0 ≤ (l.map fun c => kat k c.f1).sum ∧ (l.map fun c => kat k c.f1).sum ≤ l.length * 1099511627776
 | [], _ => by simp
 | c :: l, h => by
  have h1 := chsum_le k l (fun y hy => h y (by simp [hy]))
  obtain ⟨h2, h3, h4, h5⟩ := h c (by simp)
  have h6 := kat_nn h4 k
  have h7 := kat_le (B := 1099511627776) (by omega) (fun x hx => by have := mem_le_sum _ h4 x hx; omega) k
  simp only [List.map_cons, List.sum_cons, List.length_cons]
  rw [Int.natCast_add, Int.add_mul]; omega
/-- The sums are what the plant holds. -/
def sumsOk (n : Nat) (sums : List Int) (f : Nat → Int) : Prop := sums.length = n ∧ ∀ k, kat k sums = f k
theorem tot_bound {n : Nat} {F M : Int} {s : Pl} (h : PlOk n F M s) (k : Nat) : 0 ≤ tot s k ∧ tot s k ≤ 9895604649984 := by
 have h1 := chsum_le k s.chests h.ch
 have h2 := katsum_le k s.plugs (fun q hq => (h.pipe.ok q hq).2.1)
 have h3 := h.pipe.tot
 have h4 := h.pipe.h1
 have h5 := h.ch1
 unfold tot
 omega
theorem fits_kat {l : List Int} (h : ∀ k, 0 ≤ kat k l ∧ kat k l ≤ 9895604649984) : fits l := fun x hx => by
 obtain ⟨i, hi, rfl⟩ := List.mem_iff_getElem.1 hx
 have := h i
 unfold kat at this
 rw [getD_mem hi] at this
 omega
theorem sums_fits {n : Nat} {F M : Int} {s : Pl} (h : PlOk n F M s) {sums : List Int} (hs : sumsOk n sums (tot s)) : fits sums := fits_kat (fun k => by rw [hs.2 k]; exact tot_bound h k)
theorem sums_new {n : Nat} {hold : Int} {caps : List Int} {l : List (Int × Int × Int)} {start : List (List Int)} (h : newOk (n : Int) hold caps l start) : sumsOk n (fedTo n start start.length) (tot (plantNew n hold caps l start)) :=
 ⟨by have := (plantNew_ok h).1.fed.1; exact this, fun k => ((plantNew_ok h).2 k).symm⟩
theorem sums_feed {n : Nat} {sums m : List Int} {s s' : Pl} (hs : sumsOk n sums (tot s)) (hm : partsOk m n) (ht : ∀ k, tot s' k = tot s k + kat k m) : sumsOk n (vadd sums m) (tot s') := by
 have hl : sums.length = m.length := by have := hs.1; have := hm.2.1; omega
 exact ⟨by rw [vadd_len hl]; exact hs.1, fun k => by
  have : kat k (vadd sums m) = kat k sums + kat k m := vadd_at _ _ hl k
  rw [this, hs.2 k, ht k]⟩
/-- What a step gives out. -/
theorem step_out {n : Nat} {F M M' d : Int} {s s' : Pl} (h : PlOk n F M s) (hd : PumpDone n F M' d s s') (hM : M ≤ 1152921504606846976) (hM' : M' ≤ 1152921504606846976) : outTo s'.made s.made s.made.length = vsub s'.made s.made ∧ (vsub s'.made s.made).length = n ∧ (∀ x ∈ vsub s'.made s.made, 0 ≤ x) ∧ (vsub s'.made s.made).sum = d ∧ fits (vsub s'.made s.made) := by
 have h1 := h.made
 have h2 := hd.ok.made
 have hl : s'.made.length = s.made.length := by omega
 have e := outTo_eq hl (fits_of h2.2 (by omega)) (fits_of h1.2 (by omega))
 rw [hl] at e
 refine ⟨e, by rw [vsub_len hl]; omega, sub_nn2 hl hd.mono, by rw [vsub_sum _ _ hl, hd.sum]; omega, fun x hx => ?_⟩
 obtain ⟨i, i1, i2, rfl⟩ := mem_zip hx
 have a1 := h2.2 _ (List.getElem_mem i1); have a2 := h1.2 _ (List.getElem_mem i2)
 show _ ≤ _ - _ ∧ _ - _ ≤ _
 omega
theorem sums_step {n : Nat} {F M M' d : Int} {sums : List Int} {s s' : Pl} (hs : sumsOk n sums (tot s)) (h : PlOk n F M s) (hd : PumpDone n F M' d s s') (hM : M ≤ 1152921504606846976) (hM' : M' ≤ 1152921504606846976) : sumsOk n (vsub sums (vsub s'.made s.made)) (tot s') := by
 have ho := step_out h hd hM hM'
 have hl : sums.length = (vsub s'.made s.made).length := by rw [ho.2.1]; exact hs.1
 exact ⟨by rw [vsub_len hl]; exact hs.1, fun k => by
  have e1 : kat k (vsub sums (vsub s'.made s.made)) = kat k sums - kat k (vsub s'.made s.made) := vsub_at _ _ hl k
  have e2 : kat k (vsub s'.made s.made) = kat k s'.made - kat k s.made := vsub_at _ _ (by have := h.made.1; have := hd.ok.made.1; omega) k
  have e3 := hd.cons k
  rw [e1, e2, hs.2 k]; omega⟩
/-- The chests are taken away, one after the other. -/
theorem sums_chest {n : Nat} {sums : List Int} {s : Pl} {F M : Int} (h : PlOk n F M s) (i : Nat) (hi : i < s.chests.length) (hs : sumsOk n sums (fun k => ((s.chests.drop i).map fun c => kat k c.f1).sum + (s.plugs.map (kat k)).sum)) : fits sums ∧ sumsOk n (vsub sums (s.chests[i]).f1) (fun k => ((s.chests.drop (i + 1)).map fun c => kat k c.f1).sum + (s.plugs.map (kat k)).sum) := by
 have hc := h.ch _ (List.getElem_mem hi)
 have hl : sums.length = (s.chests[i]).f1.length := by have := hs.1; have := hc.2.1; omega
 refine ⟨fits_kat (fun k => ?_), by rw [vsub_len hl]; exact hs.1, fun k => ?_⟩
 ·have hk := hs.2 k
  dsimp only at hk
  rw [hk]
  have h1 := chsum_le k (s.chests.drop i) (fun c hc => h.ch c (List.mem_of_mem_drop hc))
  have h2 := katsum_le k s.plugs (fun q hq => (h.pipe.ok q hq).2.1)
  have h3 := h.pipe.tot
  have h4 := h.pipe.h1
  have h5 := h.ch1
  rw [List.length_drop] at h1
  have : ((s.chests.length - i : Nat) : Int) ≤ 8 := by omega
  omega
 ·have e1 : kat k (vsub sums (s.chests[i]).f1) = kat k sums - kat k (s.chests[i]).f1 := vsub_at _ _ hl k
  have hk := hs.2 k
  dsimp only at hk ⊢
  rw [e1, hk, List.drop_eq_getElem_cons hi, List.map_cons, List.sum_cons]; omega
theorem vtot_facts {n : Nat} {hold : Int} {l : List (List Int)} (h : PipeOk n hold l) : (vtot n l).length = n ∧ (∀ x ∈ vtot n l, 0 ≤ x) ∧ (vtot n l).sum = hold ∧ ∀ k, kat k (vtot n l) = (l.map (kat k)).sum := by
 have h1 := fun k => vfold_at k l (List.replicate n 0) (fun q hq => by have := (h.ok q hq).1; simp [this])
 refine ⟨by have := (h1 0).1; unfold vtot; simpa using this, vfold_nn l _ (fun q hq => (h.ok q hq).2.1) (fun x hx => by rw [List.eq_of_mem_replicate hx]; exact Int.le_refl _), ?_, fun k => ?_⟩
 ·have := vfold_sum l (List.replicate n 0) (fun q hq => by have := (h.ok q hq).1; simp [this])
  unfold vtot
  rw [this, h.tot]; simp
 ·have := (h1 k).2
  show kat k _ = _
  have e : kat k (l.foldl vadd (List.replicate n 0)) = kat k (List.replicate n 0) + (l.map (kat k)).sum := this
  unfold vtot
  rw [e, kat_rep]; omega
theorem sums_end {n : Nat} {sums : List Int} {s : Pl} {F M : Int} (h : PlOk n F M s) (hs : sumsOk n sums (fun k => ((s.chests.drop s.chests.length).map fun c => kat k c.f1).sum + (s.plugs.map (kat k)).sum)) : fits sums ∧ (vsub sums (vtot n s.plugs)).length = n ∧ ∀ k, kat k (vsub sums (vtot n s.plugs)) = 0 := by
 have hv := vtot_facts h.pipe
 have hl : sums.length = (vtot n s.plugs).length := by rw [hv.1]; exact hs.1
 have hk : ∀ k, kat k sums = (s.plugs.map (kat k)).sum := fun k => by have h0 := hs.2 k; dsimp only at h0; rw [h0, List.drop_length]; simp
 refine ⟨fits_kat (fun k => ?_), by rw [vsub_len hl]; exact hs.1, fun k => ?_⟩
 ·rw [hk k]
  have h2 := katsum_le k s.plugs (fun q hq => (h.pipe.ok q hq).2.1)
  have h3 := h.pipe.tot
  have h4 := h.pipe.h1
  omega
 ·have e1 : kat k (vsub sums (vtot n s.plugs)) = kat k sums - kat k (vtot n s.plugs) := vsub_at _ _ hl k
  rw [e1, hk k, hv.2.2.2 k]; omega

/-! The small plant. -/
theorem small_ok : newOk ((2 : Nat) : Int) 20 [1000] [(0, -1, 10)] [[60, 40], [12, 8]] := by
 refine ⟨⟨by decide, by decide, by simp, ⟨by decide, by simp [pumpOk], ⟨_, List.mem_singleton.2 rfl, rfl⟩⟩, by decide, by decide⟩, rfl, fun j hj => ?_⟩
 have : j = 0 ∨ j = 1 := by simp at hj; omega
 rcases this with rfl | rfl
 ·exact ⟨⟨by decide, by decide, by simp⟩, fun _ => by decide, fun h => absurd h (by decide)⟩
 ·exact ⟨⟨by decide, by decide, by simp⟩, fun h => absurd h (by decide), fun _ => by decide⟩
theorem split_even {t : Int} {l : List Int} (h : goodW t l) (h0 : t - sumN (qOf t l) l.length = 0) : ∀ i, i < l.length → (splitL t l).getD i 0 = qOf t l i := fun i hi => by
 rw [split_at h i hi]
 have : tOf t l = 0 := by unfold tOf; omega
 rw [this, List.take_zero, if_neg (by simp)]; omega
theorem two_list {l : List Int} (h : l.length = 2) {a b : Int} (ha : l.getD 0 0 = a) (hb : l.getD 1 0 = b) : l = [a, b] := by
 match l, h with
 | [x, y], _ => simp at ha hb; rw [ha, hb]
theorem split_a : splitL 10 [60, 40] = [6, 4] := by
 have hg : goodW 10 [60, 40] := ⟨by decide, by decide, by decide, by decide, by simp, by decide, by decide⟩
 have h := split_even hg (by decide)
 exact two_list (by rw [split_len]; rfl) ((h 0 (by decide)).trans (by decide)) ((h 1 (by decide)).trans (by decide))
theorem split_b : splitL 10 [12, 8] = [6, 4] := by
 have hg : goodW 10 [12, 8] := ⟨by decide, by decide, by decide, by decide, by simp, by decide, by decide⟩
 have h := split_even hg (by decide)
 exact two_list (by rw [split_len]; rfl) ((h 0 (by decide)).trans (by decide)) ((h 1 (by decide)).trans (by decide))
theorem small_step {K : Nat} (hK : 1000 ≤ K) : ∃ s', stepF K 2 [(0, -1, 10)] (plantNew ((2 : Nat) : Int) 20 [1000] [(0, -1, 10)] [[60, 40], [12, 8]]) = some (some s') ∧ outTo s'.made (plantNew ((2 : Nat) : Int) 20 [1000] [(0, -1, 10)] [[60, 40], [12, 8]]).made 2 = [6, 4] := by
 have hP := (plantNew_ok small_ok).1
 have hch : (plantNew ((2 : Nat) : Int) 20 [1000] [(0, -1, 10)] [[60, 40], [12, 8]]).chests = [⟨1000, [60, 40]⟩] := rfl
 have hdr := draw_eq hK hP.pipe.n1 (hP.ch ⟨1000, [60, 40]⟩ (by rw [hch]; simp)) (mass := 10) ⟨by decide, by decide⟩
 rw [if_neg (by decide)] at hdr
 simp only [split_a] at hdr
 have hpu : pushA 20 2 [[12, 8]] [6, 4] = some ([[6, 4], [6, 4]], [6, 4]) := by
  unfold pushA pushS pst pushOne
  simp only [List.length_cons, List.length_nil, List.take, List.foldl]
  rw [if_neg (by decide), if_neg (by decide), if_neg (by decide), if_pos (by decide)]
  rw [show ([6, 4] : List Int).sum = 10 from rfl, split_b]
  have f0 : fits [0, 0] := fun x hx => by simp at hx; omega
  have f1 : fits [6, 4] := fun x hx => by simp at hx; omega
  have f2 : fits [12, 8] := fun x hx => by simp at hx; omega
  have e1 : lvL (List.replicate 2 0) [6, 4] (0 + 1 + 1) = [6, 4] := lvL_eq (a := [0, 0]) (b := [6, 4]) rfl f0 f1
  have e2 : rsTo [12, 8] [6, 4] (0 + 1 + 1) = [6, 4] := rsTo_eq (a := [12, 8]) (b := [6, 4]) rfl f2 f1
  rw [e1, e2]; rfl
 have had : prep_add.f K [0, 0] [6, 4] = some [6, 4] := add_eq (a := [0, 0]) (b := [6, 4]) rfl (by decide) (by simp; omega) (fun x hx => by simp at hx; omega) (fun x hx => by simp at hx; omega)
 refine ⟨{ plantNew ((2 : Nat) : Int) 20 [1000] [(0, -1, 10)] [[60, 40], [12, 8]] with chests := [⟨1000, vsub [60, 40] [6, 4]⟩], plugs := [[6, 4], [6, 4]], made := [6, 4] }, ?_, ?_⟩
 ·simp only [stepF]
  unfold pumpF
  rw [hch]
  simp only [Int.toNat_zero, List.getD_cons_zero]
  rw [hdr]
  simp only []
  rw [if_pos trivial, if_pos trivial]
  rw [show (plantNew ((2 : Nat) : Int) 20 [1000] [(0, -1, 10)] [[60, 40], [12, 8]]).hold = 20 from rfl, show (plantNew ((2 : Nat) : Int) 20 [1000] [(0, -1, 10)] [[60, 40], [12, 8]]).plugs = [[12, 8]] from rfl, hpu]
  simp only []
  rw [show (plantNew ((2 : Nat) : Int) 20 [1000] [(0, -1, 10)] [[60, 40], [12, 8]]).made = [0, 0] from rfl, had]
  first | done | rfl
 ·exact outTo_eq (a := [6, 4]) (b := [0, 0]) rfl (fun x hx => by simp at hx; omega) (fun x hx => by simp at hx; omega)
end Go.Proofs.Ytgbjlcaanagfnaa.P

namespace Go.Proofs.Ytgbjlcaanagfnaa.P
open Go.RowKit Go.Proofs.YtgbjlcaanagfnaaW.PrintWords Go.Proofs.YtgbjlcaanagfnaaW.PrintLast Go.Proofs.YtgbjlcaanagfnaaW.PrintMore
set_option linter.unusedVariables false
set_option linter.unusedSimpArgs false

theorem five_new (w : World) (a b c d e : Obj) : ((((w.alloc a).alloc b).alloc c).alloc d |>.alloc e).heap[w.heap.size]? = some a ∧ ((((w.alloc a).alloc b).alloc c).alloc d |>.alloc e).heap[w.heap.size + 1]? = some b ∧ ((((w.alloc a).alloc b).alloc c).alloc d |>.alloc e).heap[w.heap.size + 1 + 1]? = some c ∧ ((((w.alloc a).alloc b).alloc c).alloc d |>.alloc e).heap[w.heap.size + 1 + 1 + 1]? = some d ∧ ((((w.alloc a).alloc b).alloc c).alloc d |>.alloc e).heap[w.heap.size + 1 + 1 + 1 + 1]? = some e := by
 have e1 : (w.alloc a).heap.size = w.heap.size + 1 := by simp
 have e2 : ((w.alloc a).alloc b).heap.size = w.heap.size + 1 + 1 := by simp
 have e3 : (((w.alloc a).alloc b).alloc c).heap.size = w.heap.size + 1 + 1 + 1 := by simp
 have e4 : ((((w.alloc a).alloc b).alloc c).alloc d).heap.size = w.heap.size + 1 + 1 + 1 + 1 := by simp
 have n1 := blk_new (w.alloc a) b
 have n2 := blk_new ((w.alloc a).alloc b) c
 have n3 := blk_new (((w.alloc a).alloc b).alloc c) d
 have n4 := blk_new ((((w.alloc a).alloc b).alloc c).alloc d) e
 rw [e1] at n1; rw [e2] at n2; rw [e3] at n3; rw [e4] at n4
 exact ⟨blk_alloc (blk_alloc (blk_alloc (blk_alloc (blk_new w a) _) _) _) _, blk_alloc (blk_alloc (blk_alloc n1 _) _) _, blk_alloc (blk_alloc n2 _) _, blk_alloc n3 _, n4⟩
theorem C_lit {α : Type} {d : Kd α} {W : World} {g : Nat} {cs : Array Value} {t : Nat} (h : W.heap[g]? = some (.cells cs t (0, 0))) (xs : List α) (rows : List (List Value)) (hl : rows.length = xs.length) (hm : xs.length ≤ 1000) (hcs : cs.toList = rows.flatten) (hr : ∀ (j : Nat) (x : α) (c : List Value), xs[j]? = some x → rows[j]? = some c → d.K W x c) :
  Kd.C d W (some ⟨g, 0, none⟩) xs.length xs := by
 refine ⟨rfl, by omega, fun _ => ⟨_, rfl, fun j p hj => ?_⟩⟩
 have hjl := (List.getElem?_eq_some_iff.1 hj).1
 have hc := hr j p _ hj (List.getElem?_eq_getElem (by omega))
 refine ⟨_, d.K_len hc, hc, fun i u hu => ?_⟩
 have hlen : ∀ c ∈ rows, c.length = d.sz := fun c hcm => by
  obtain ⟨q, hq, rfl⟩ := List.mem_iff_getElem.1 hcm
  exact d.K_len (hr q _ _ (List.getElem?_eq_getElem (by omega)) (List.getElem?_eq_getElem hq))
 rw [add_plain, blk_cell h, ← Array.getElem?_toList, hcs]
 have : ∀ (rows : List (List Value)) (j : Nat) (hj : j < rows.length) (i : Nat) (u : Value), (∀ c ∈ rows, c.length = d.sz) → rows[j][i]? = some u → rows.flatten[j * d.sz + i]? = some u := by
  intro rows
  induction rows with
  | nil => intro j hj; simp at hj
  | cons r rs ih =>
   intro j hj i u hl hu
   have hr := hl r (by simp)
   cases j with
   | zero =>
    simp only [List.getElem_cons_zero] at hu
    have hi := (List.getElem?_eq_some_iff.1 hu).1
    rw [List.flatten_cons, List.getElem?_append_left (by omega)]
    simpa using hu
   | succ j =>
    rw [List.flatten_cons, List.getElem?_append_right (by rw [hr, Nat.add_mul]; omega)]
    rw [show (j + 1) * d.sz + i - r.length = j * d.sz + i from by rw [hr, Nat.add_mul]; omega]
    exact ih j (by simpa using hj) i u (fun c hc => hl c (by simp [hc])) (by simpa using hu)
 exact this rows j (by omega) i u hlen hu
set_option maxHeartbeats 4000000 in
set_option maxRecDepth 100000 in
theorem plant_calls (w : World) : Calls Try.prog 4 #[] w fun e w' => e = .returned (.bool true) ∧ Below w.heap.size w w' := by
 obtain ⟨K, hK⟩ : ∃ K, 4000 ≤ K := ⟨4000, Nat.le_refl _⟩
 have h5 := five_new w (.cells #[.int .i64 1000] 3) (.cells #[.int .i64 0, .int .i64 (-1), .int .i64 10] 35) (.cells #[.int .i64 60, .int .i64 40] 3) (.cells #[.int .i64 12, .int .i64 8] 3) (.cells #[.slice (some ⟨w.heap.size + 1 + 1, 0, none⟩) 2 2, .slice (some ⟨w.heap.size + 1 + 1 + 1, 0, none⟩) 2 2] 22)
 have hb5 : Below w.heap.size w ((((w.alloc (.cells #[.int .i64 1000] 3)).alloc (.cells #[.int .i64 0, .int .i64 (-1), .int .i64 10] 35)).alloc (.cells #[.int .i64 60, .int .i64 40] 3)).alloc (.cells #[.int .i64 12, .int .i64 8] 3) |>.alloc (.cells #[.slice (some ⟨w.heap.size + 1 + 1, 0, none⟩) 2 2, .slice (some ⟨w.heap.size + 1 + 1 + 1, 0, none⟩) 2 2] 22)) := below_alloc (below_alloc (below_alloc (below_alloc (below_alloc (Below.refl _ _) _) _) _) _) _
 generalize hW : World.alloc _ (.cells #[.slice (some ⟨w.heap.size + 1 + 1, 0, none⟩) 2 2, .slice (some ⟨w.heap.size + 1 + 1 + 1, 0, none⟩) 2 2] 22) = W at h5 hb5
 obtain ⟨b0, b1, b2, b3, b4⟩ := h5
 have c0 : Kd.C (Kd.int .i64) W (some ⟨w.heap.size, 0, none⟩) [1000].length [1000] := C_lit b0 [1000] [[.int .i64 1000]] rfl (by decide) rfl (fun j x c hx hc => by match j, hx, hc with | 0, hx, hc => cases hx; cases hc; rfl)
 have c1 : Kd.C kP W (some ⟨w.heap.size + 1, 0, none⟩) [((0, -1, 10) : Int × Int × Int)].length [(0, -1, 10)] := C_lit b1 [(0, -1, 10)] [[.int .i64 0, .int .i64 (-1), .int .i64 10]] rfl (by decide) rfl (fun j x c hx hc => by match j, hx, hc with | 0, hx, hc => cases hx; cases hc; exact ⟨[.int .i64 0], [.int .i64 (-1), .int .i64 10], rfl, rfl, [.int .i64 (-1)], [.int .i64 10], rfl, rfl, rfl⟩)
 have c2 : Kd.C (Kd.int .i64) W (some ⟨w.heap.size + 1 + 1, 0, none⟩) ([60, 40] : List Int).length [60, 40] := C_lit b2 [60, 40] [[.int .i64 60], [.int .i64 40]] rfl (by decide) rfl (fun j x c hx hc => by match j, hx, hc with | 0, hx, hc => cases hx; cases hc; rfl | 1, hx, hc => cases hx; cases hc; rfl)
 have c3 : Kd.C (Kd.int .i64) W (some ⟨w.heap.size + 1 + 1 + 1, 0, none⟩) ([12, 8] : List Int).length [12, 8] := C_lit b3 [12, 8] [[.int .i64 12], [.int .i64 8]] rfl (by decide) rfl (fun j x c hx hc => by match j, hx, hc with | 0, hx, hc => cases hx; cases hc; rfl | 1, hx, hc => cases hx; cases hc; rfl)
 have c4 : Kd.C (Kd.slice 3 (Kd.int .i64)) W (some ⟨w.heap.size + 1 + 1 + 1 + 1, 0, none⟩) ([[60, 40], [12, 8]] : List (List Int)).length [[60, 40], [12, 8]] := C_lit b4 [[60, 40], [12, 8]] [[.slice (some ⟨w.heap.size + 1 + 1, 0, none⟩) 2 2], [.slice (some ⟨w.heap.size + 1 + 1 + 1, 0, none⟩) 2 2]] rfl (by decide) rfl (fun j x c hx hc => by match j, hx, hc with | 0, hx, hc => cases hx; cases hc; exact ⟨_, _, rfl, Nat.le_refl _, c2⟩ | 1, hx, hc => cases hx; cases hc; exact ⟨_, _, rfl, Nat.le_refl _, c3⟩)
 have HNEW := Aside0.mk (new_calls K (by omega) ((2 : Nat) : Int) 20 (some ⟨w.heap.size, 0, none⟩) 1 [1000] (some ⟨w.heap.size + 1, 0, none⟩) 1 [(0, -1, 10)] (some ⟨w.heap.size + 1 + 1 + 1 + 1, 0, none⟩) 2 [[60, 40], [12, 8]] W c0 (by decide) c1 (by decide) c4 (by decide))
 have hP0 := (plantNew_ok small_ok).1
 obtain ⟨s1, hs1, ho1⟩ := small_step (K := K) (by omega)
 obtain ⟨r0, hr0, hso, _⟩ := step_ok (K := K) (by omega) (plantNew ((2 : Nat) : Int) 20 [1000] [(0, -1, 10)] [[60, 40], [12, 8]]).pumps 0 _ hP0 (by decide) hP0.pumps.2.1
 have hs2 : stepF K 2 (plantNew ((2 : Nat) : Int) 20 [1000] [(0, -1, 10)] [[60, 40], [12, 8]]).pumps (plantNew ((2 : Nat) : Int) 20 [1000] [(0, -1, 10)] [[60, 40], [12, 8]]) = some (some s1) := hs1
 have hpl : (plantNew ((2 : Nat) : Int) 20 [1000] [(0, -1, 10)] [[60, 40], [12, 8]]).pumps.length = 1 := rfl
 clear hr0 hs1
 generalize plantNew ((2 : Nat) : Int) 20 [1000] [(0, -1, 10)] [[60, 40], [12, 8]] = s0 at *
 have HS0 := Aside0.mk hs2
 have HSO := Aside0.mk hso
 have HP0 := Aside0.mk hP0
 have HO1 := Aside0.mk ho1
 have HPL := Aside0.mk hpl
 clear hs2 hso hP0 ho1 hpl
 have HBW := Aside0.mk hb5
 clear b0 b1 b2 b3 b4 c0 c1 c2 c3 c4 hb5
 go_enter Try.func4, Try.ntmps4
 go_wp2_with (first | fail)
 clear hW
 refine HNEW.out.mono ?_
 rintro e w6 ⟨hb, hno | ⟨hok, g, rfl, hP⟩⟩
 ·exact absurd small_ok hno.1
 have HP := Aside0.mk hP
 have HB := Aside0.mk hb
 clear hP hb hok HNEW
 go_wp2_with (first | (go_at_call 9; (with_reducible refine (step_walk K 2 (fun _ => False) g s0 W _ HP.out HB.out (some s1) HS0.out HSO.out (by have := HP0.out.ch1; omega) (by have := HP0.out.fed.1; omega) (by have := HP0.out.made.1; omega) (by have := HPL.out; omega)).mono ?_); rintro e w7 ⟨hb7, _, hok7⟩; obtain ⟨v, g', rfl, hk7, _, _, hR7⟩ := hok7 s1 rfl; have hR8 := (show Kd.R (Kd.int .i64) 3 w7 w6.heap.size (fun _ => True) v [6, 4] from by rw [← HO1.out, ← HP0.out.made.1]; exact hR7); obtain ⟨gr, cr, ec, _, _, _, _⟩ := Kd.R_form hR8 (by decide); subst ec; obtain ⟨hx0, _⟩ := Kd.R_celln 0 hR8 (0 : Int) (by decide) (by decide); obtain ⟨hx1, _⟩ := Kd.R_celln 0 hR8 (1 : Int) (by decide) (by decide); have hy0 : w7.cell? ⟨gr, 0, none⟩ = some (.int .i64 6) := hx0; have hy1 : w7.cell? ⟨gr, 1, none⟩ = some (.int .i64 4) := hx1; have HB7 := Aside0.mk hb7; clear hx0 hx1 hb7 hok7 hk7 hR7 hR8 HP HB))
 go_ret
 exact ⟨rfl, below_step HBW.out HB7.out⟩
end Go.Proofs.Ytgbjlcaanagfnaa.P
