/- scan.Profile: the walk; the elements of a row that the call made, written through a pointer. -/
import Derived.Test.YtnkmeocccbkdkaaScanSpec0
import Derived.Deep.QuietTactic
import Derived.BigQuiet
import Derived.RegionTactic
import Derived.Deep.LoopGhost
import Derived.WalkKit
namespace Go.Proofs.Ytnkmeocccbkdkaa.P
open Go.RowKit Go.Proofs.YtnkmeocccbkdkaaW.PrintWords Go.Proofs.YtnkmeocccbkdkaaW.PrintLast Go.Proofs.YtnkmeocccbkdkaaW.PrintMore
set_option linter.unusedVariables false
set_option linter.unusedSimpArgs false

/-- The cells of a list of boxes. -/
def flat (l : List S23) : List Value := l.flatMap fun x => [.int .i64 x.f0, .int .i64 x.f1]

theorem flat_len (l : List S23) : (flat l).length = l.length * 2 := by
  induction l with
  | nil => rfl
  | cons a l ih => unfold flat at ih ⊢; simp [List.flatMap_cons, ih]; omega

theorem flat_get (l : List S23) : ∀ (j : Nat) (p : S23), l[j]? = some p → ((flat l).drop (j * 2)).take 2 = [.int .i64 p.f0, .int .i64 p.f1] := by
  induction l with
  | nil => intro j p h; simp at h
  | cons a l ih =>
    intro j p h
    cases j with
    | zero => simp at h; subst h; rfl
    | succ j =>
      have : flat (a :: l) = .int .i64 a.f0 :: .int .i64 a.f1 :: flat l := rfl
      rw [this, show (j + 1) * 2 = j * 2 + 1 + 1 from by omega, List.drop_succ_cons, List.drop_succ_cons]
      exact ih j p (by simpa using h)

theorem flat_set (l : List S23) : ∀ (j : Nat) (y : S23), flat (l.set j y) = ((flat l).set (j * 2) (.int .i64 y.f0)).set (j * 2 + 1) (.int .i64 y.f1) := by
  induction l with
  | nil => intro j y; rfl
  | cons a l ih =>
    intro j y
    have e : flat (a :: l) = .int .i64 a.f0 :: .int .i64 a.f1 :: flat l := rfl
    cases j with
    | zero => rfl
    | succ j =>
      have e2 : flat ((a :: l).set (j + 1) y) = .int .i64 a.f0 :: .int .i64 a.f1 :: flat (l.set j y) := rfl
      rw [e2, e, ih j y, show (j + 1) * 2 = j * 2 + 1 + 1 from by omega]
      rfl

theorem flat_of_reps {w : World} {base : Nat} {ok : Nat → Prop} (l : List S23) : ∀ cs : List Value, Reps (k23.M w base ok) 2 l cs → cs = flat l := by
  intro cs h
  obtain ⟨hl, hj⟩ := h
  apply List.ext_getElem
  · rw [hl, flat_len]
  · intro i h1 h2
    have hi : i / 2 < l.length := by omega
    have ha := hj (i / 2) _ (List.getElem?_eq_getElem hi)
    have hb := flat_get l (i / 2) _ (List.getElem?_eq_getElem hi)
    have hc := k23_openM ha
    rw [← hb] at hc
    have e := congrArg (fun z : List Value => z[i % 2]?) hc
    simp only [List.getElem?_take, List.getElem?_drop] at e
    rw [if_pos (by omega), if_pos (by omega), show i / 2 * 2 + i % 2 = i from by omega, List.getElem?_eq_getElem h1, List.getElem?_eq_getElem h2] at e
    exact Option.some.inj e

theorem reps_of_flat (w : World) (base : Nat) (ok : Nat → Prop) (l : List S23) : Reps (k23.M w base ok) 2 l (flat l) :=
  ⟨flat_len l, fun j p hj => by rw [flat_get l j p hj]; exact k23_mkM w base ok p⟩

/-- The row of boxes that the call has made, as cells. -/
def Boxes (W : World) (base : Nat) (v : Value) (l : List S23) : Prop := W.ownsRow base 23 2 v l.length (flat l)

theorem boxes_of_R {W : World} {base : Nat} {ok : Nat → Prop} {v : Value} {l : List S23} (h : Kd.R k23 23 W base ok v l) : Boxes W base v l := by
  obtain ⟨_, inner, ho, hr⟩ := h
  have := flat_of_reps l inner hr
  subst this
  exact ho

theorem R_of_boxes {W : World} {base : Nat} {v : Value} {l : List S23} (h : Boxes W base v l) : Kd.R k23 23 W base (fun _ => True) v l :=
  ⟨fun _ _ => trivial, flat l, h, reps_of_flat W base _ l⟩

theorem own_set {W : World} {base e size g n c : Nat} {xs : List Value} (h : W.ownsRow base e size (.slice (some ⟨g, 0, none⟩) n c) n xs) (i : Nat) (u : Value) : (W.setCell ⟨g, i, none⟩ u).ownsRow base e size (.slice (some ⟨g, 0, none⟩) n c) n (xs.set i u) := by
  obtain ⟨h1, h2⟩ := h
  refine ⟨by simpa using h1, ?_⟩
  rcases h2 with ⟨h, _⟩ | ⟨g', cap, cur, hv, hb, hh, hn, hm, hs, ht⟩
  · cases h
  · right
    have hg : g = g' := by injection hv with h1 _ _; injection h1 with h1; injection h1
    subst hg
    refine ⟨g, cap, cur.setIfInBounds i u, hv, hb, blk_set hh i u, hn, hm, by simpa using hs, ?_⟩
    rw [← ht]
    simp [List.take_set]

theorem boxes_below {W W' : World} {base : Nat} {v : Value} {l : List S23} (h : Boxes W base v l) (hb : Below W.heap.size W W') : Boxes W' base v l := pw_own_below h hb

/-- Where the row lies, and what it holds. -/
theorem boxes_at {W : World} {base g n c : Nat} {l : List S23} (h : Boxes W base (.slice (some ⟨g, 0, none⟩) n c) l) (hn : n = l.length) (j : Nat) (p : S23) (hj : l[j]? = some p) :
    W.cell? ⟨g, j * 2, none⟩ = some (.int .i64 p.f0) ∧ W.cell? ⟨g, j * 2 + 1, none⟩ = some (.int .i64 p.f1) ∧ base ≤ g ∧ (∀ i, W.frozen? ⟨g, i, none⟩ = false) := by
  subst hn
  obtain ⟨h1, h2⟩ := h
  have hjl : j < l.length := (List.getElem?_eq_some_iff.1 hj).1
  rcases h2 with ⟨h, h0⟩ | ⟨g', cap, cur, hv, hb, hh, hn, hm, hs, ht⟩
  · omega
  · have hg : g = g' := by injection hv with h1 _ _; injection h1 with h1; injection h1
    subst hg
    have hf := flat_get l j p hj
    have e0 := congrArg (fun z : List Value => z[0]?) hf
    have e1 := congrArg (fun z : List Value => z[1]?) hf
    simp only [List.getElem?_take, List.getElem?_drop] at e0 e1
    rw [← ht] at e0 e1
    simp only [List.getElem?_take] at e0 e1
    rw [if_pos (by omega), if_pos (by omega)] at e0 e1
    refine ⟨?_, ?_, hb, fun i => blk_frozen hh i⟩
    · rw [blk_cell hh]; simpa using e0
    · rw [blk_cell hh]; simpa using e1

/-! ### the walk -/
theorem pcell3 (w : World) (a b c : Value) (t : TypeId) (i : Nat) (v : Value) (h : (#[a, b, c] : Array Value)[i]? = some v) : (w.alloc (.cells #[a, b, c] t)).cell? ⟨w.heap.size, i, none⟩ = some v := by
  rw [World.cell?_alloc_at _ _ _ _ rfl]; exact h

theorem pcell2 (w : World) (a b : Value) (t : TypeId) (i : Nat) (v : Value) (h : (#[a, b] : Array Value)[i]? = some v) : (w.alloc (.cells #[a, b] t)).cell? ⟨w.heap.size, i, none⟩ = some v := by
  rw [World.cell?_alloc_at _ _ _ _ rfl]; exact h

theorem below_made' {W w2 : World} {o : Obj} (k : Below (W.alloc o).heap.size (W.alloc o) w2) : Below W.heap.size W w2 := below_step (below_alloc (Below.refl _ _) o) k
theorem below_made {w W w2 : World} {o : Obj} (h : Below w.heap.size w W) (k : Below (W.alloc o).heap.size (W.alloc o) w2) : Below w.heap.size w w2 :=
  below_step (below_alloc h o) k

set_option maxHeartbeats 4000000 in
set_option maxRecDepth 100000 in
theorem profile_bad (a0 a1 a2 : Int) (A1 : Option Addr) (n c1 : Nat) (w : World) (h : scan_Check.f a0 a1 a2 = some 1) :
    Calls Try.prog 23 #[.agg #[.int .i64 a0, .int .i64 a1, .int .i64 a2], .slice A1 n c1] w fun e w' => e = .returned (.tuple #[.slice none 0 0, .int .i64 1]) ∧ Below w.heap.size w w' := by
  have H := Aside0.mk h
  clear h
  have hu := Try.underlying45
  go_enter Try.func23, Try.ntmps23
  go_wp2_with (go_at_call 41; (with_reducible refine (scan_Check.calls a0 a1 a2 1 _ H.out).mono ?_); rintro e w' ⟨rfl, hb⟩)
  go_ret2
  exact ⟨rfl, below_then (below_alloc (Below.refl _ _) _) (by first | (go_simp; done) | (go_simp; omega)) hb⟩

set_option maxHeartbeats 4000000 in
set_option maxRecDepth 100000 in
theorem profile_long (a0 a1 a2 : Int) (A1 : Option Addr) (n c1 : Nat) (w : World) (h : scan_Check.f a0 a1 a2 = some 0) (hn : 512 < n) :
    Calls Try.prog 23 #[.agg #[.int .i64 a0, .int .i64 a1, .int .i64 a2], .slice A1 n c1] w fun e w' => e = .returned (.tuple #[.slice none 0 0, .int .i64 8]) ∧ Below w.heap.size w w' := by
  have H := Aside0.mk h
  clear h
  have hu := Try.underlying45
  go_enter Try.func23, Try.ntmps23
  go_wp2_with (go_at_call 41; (with_reducible refine (scan_Check.calls a0 a1 a2 0 _ H.out).mono ?_); rintro e w' ⟨rfl, hb⟩)
  go_ret2
  exact ⟨rfl, below_then (below_alloc (Below.refl _ _) _) (by first | (go_simp; done) | (go_simp; omega)) hb⟩

theorem profile_row {w w' w1 : World} {v1 : Value} {n : Nat} (ho : k23.R 23 w1 w'.heap.size (fun _ => True) v1 (List.replicate n z23)) (hn : 0 < n) (hw : w.heap.size ≤ w'.heap.size) :
    ∃ g cap, v1 = .slice (some ⟨g, 0, none⟩) n cap ∧ w'.heap.size ≤ g ∧ Boxes w1 w.heap.size (.slice (some ⟨g, 0, none⟩) n cap) (List.replicate n z23) := by
  obtain ⟨g, cap, e1, hge, hglt, cells, hcells⟩ := Kd.R_form ho (by simpa using hn)
  subst e1
  have h := own_less (base := w.heap.size) (boxes_of_R ho) hw
  rw [List.length_replicate] at h
  refine ⟨g, cap, by rw [List.length_replicate], hge, ?_⟩
  unfold Boxes
  rw [List.length_replicate]
  exact h

/-- What the boxes hold behind i measurements. -/
def Okb (B i : Nat) (acc : List S23) : Prop := acc.length = B ∧ ∀ p ∈ acc, 0 ≤ p.f0 ∧ p.f0 ≤ i ∧ -(i * 1000000 : Int) ≤ p.f1 ∧ p.f1 ≤ (i * 1000000 : Int)

set_option maxHeartbeats 8000000 in
set_option maxRecDepth 100000 in
theorem profile_good (a0 a1 a2 : Int) (A1 : Option Addr) (c1 : Nat) (l1 : List S52) (r1 : List S23) (r2 : Int) (w : World) (hr1 : Kd.C k52 w A1 l1.length l1) (hc1 : l1.length ≤ c1) (h : scan_Check.f a0 a1 a2 = some 0) (hs : okS a0 a1 a2) (hn : l1.length ≤ 512)
    (hf : profGo a0 a1 a2 (List.replicate a1.toNat z23) l1 = (r1, r2)) :
    Calls Try.prog 23 #[.agg #[.int .i64 a0, .int .i64 a1, .int .i64 a2], .slice A1 l1.length c1] w fun e w' => ∃ v0_ : Value, e = .returned (.tuple #[v0_, .int .i64 r2]) ∧ Kd.R k23 23 w' w.heap.size (fun _ => True) v0_ r1 ∧ Below w.heap.size w w' := by
  have H := Aside0.mk h
  have HR := Aside0.mk hr1
  have HS := Aside0.mk hs
  have HF := Aside0.mk hf
  have b := hs
  unfold okS at b
  obtain ⟨b1, b2, b3, b4, b5, b6⟩ := b
  clear h hr1 hf hs
  obtain ⟨B, rfl⟩ := Int.eq_ofNat_of_zero_le (show 0 ≤ a1 by omega)
  rw [Int.toNat_natCast] at HF
  have hu := Try.underlying45
  go_enter Try.func23, Try.ntmps23
  go_wp2_with (first
    | (go_at_call 41; (with_reducible refine (scan_Check.calls a0 B a2 0 _ H.out).mono ?_); rintro e w' ⟨rfl, hb⟩
       have BK := Aside0.mk (blk_below (g := w.heap.size) (o := .cells #[.int .i64 a0, .int .i64 (B : Int), .int .i64 a2] 45 (0, 0)) (blk_new w _) hb)
       have cz0 : w'.cell? ⟨w.heap.size, 0, none⟩ = some (.int .i64 a0) := pw_cell_below hb (pcell3 w _ _ _ _ 0 _ rfl)
       have cz1 : w'.cell? ⟨w.heap.size, 1, none⟩ = some (.int .i64 B) := pw_cell_below hb (pcell3 w _ _ _ _ 1 _ rfl)
       have HB := Aside0.mk (below_then (B := w.heap.size) (below_alloc (Below.refl w.heap.size w) _) (by first | (go_simp; done) | (go_simp; omega)) hb)
       clear hb)
    | ((with_reducible refine gate_dst (N := 22) rfl ?_); refine Kd.R_make k23 _ 23 rfl (N := 22) rfl 48 _ _ rfl (B : Int) rfl rfl Try.underlying48 (.agg #[(.int .i64 0), (.int .i64 0)]) 16 info23 rfl (by decide) (by omega) z23 (ok := fun _ => True) (okp := fun _ => True) (k23_mkM _ _ _ z23) (fun _ hk => hk) trivial (by omega) (by omega) (Below.refl _ _) (Nat.le_refl _) ?_
       intro v1 w1 ho hbm hg_ hnew_
       rw [Int.toNat_natCast] at ho
       obtain ⟨g, cap, e1, hge, how⟩ := profile_row (w := w) ho (by omega) HB.out.size
       subst e1
       have OW := Aside0.mk how
       have hgw : w.heap.size < g := Nat.lt_of_lt_of_le (blk_lt BK.out) hge
       have BK1 := Aside0.mk (blk_below BK.out hbm)
       have HB1 := Aside0.mk (below_step HB.out hbm)
       clear BK HB cz0 cz1 how hbm hg_ hnew_ ho hge))
  go_loopg [25] l1.length (fun kx s25 wr => ∃ (i : Nat) (acc : List S23), s25 = .int .i64 i ∧ i + kx = l1.length ∧ Aside0 (Below w.heap.size w wr) ∧ Aside0 (wr.heap[w.heap.size]? = some (.cells #[.int .i64 a0, .int .i64 (B : Int), .int .i64 a2] 45 (0, 0)))
    ∧ Aside0 (Boxes wr w.heap.size (.slice (some ⟨g, 0, none⟩) B cap) acc) ∧ Aside0 (Okb B i acc) ∧ Aside0 (profGo a0 B a2 acc (l1.drop i) = (r1, r2)))
  case atStart => exact ⟨0, _, rfl, by omega, HB1, BK1, OW, ⟨List.length_replicate, fun p hp => by rw [List.eq_of_mem_replicate hp]; decide⟩, HF⟩
  case round =>
    clear OW BK1 HB1 HF
    obtain ⟨i, acc, rfl, hik, HB, BK, OW, OKB, HF⟩ := hrel
    by_cases hlt : i < l1.length
    · obtain ⟨m, hm⟩ : ∃ m, m = rd_T52 l1 (i : Int) := ⟨_, rfl⟩
      have hd : l1.drop i = m :: l1.drop (i + 1) := by
        rw [List.drop_eq_getElem_cons hlt, hm]
        unfold rd_T52
        rw [Int.toNat_natCast, List.getD_eq_getElem?_getD, List.getElem?_eq_getElem hlt, Option.getD_some]
      obtain ⟨ad, rfl, hx0, hx1⟩ := at_T52 (Kd.C_below HR.out HB.out) (i : Int) (by omega) (by omega)
      rw [← hm] at hx0 hx1
      rw [Int.toNat_natCast] at hx0 hx1
      have cz0 : wr.cell? ⟨w.heap.size, 0, none⟩ = some (.int .i64 a0) := (blk_cell BK.out 0).trans rfl
      have cz1 : wr.cell? ⟨w.heap.size, 1, none⟩ = some (.int .i64 B) := (blk_cell BK.out 1).trans rfl
      have cz2 : wr.cell? ⟨w.heap.size, 2, none⟩ = some (.int .i64 a2) := (blk_cell BK.out 2).trans rfl
      have HD := Aside0.mk hd
      have HM := Aside0.mk hm
      clear hd hm
      have hu49 := Try.underlying52
      have hlw : w.heap.size < wr.heap.size := blk_lt BK.out
      have HB5 := fun (w5 : World) (hb : Below (wr.alloc (.cells #[.int .i64 m.f0, .int .i64 m.f1] 52)).heap.size (wr.alloc (.cells #[.int .i64 m.f0, .int .i64 m.f1] 52)) w5) => below_made (o := .cells #[.int .i64 m.f0, .int .i64 m.f1] 52) HB.out hb
      by_cases ok0 : 0 ≤ m.f0 ∧ m.f0 ≤ 2147483647
      · have HMO := Aside0.mk (smoment_eq a0 B a2 m.f0)
        rw [if_pos ⟨HS.out, ok0⟩] at HMO
        by_cases hl : m.f1 < -1000000
        · have hl1 : decide (m.f1 < -1000000) = true := decide_eq_true hl
          have hr : r1 = [] ∧ r2 = 1 := by
            have := HF.out
            rw [HD.out] at this
            unfold profGo at this
            rw [if_neg (fun hh => absurd hh.2.2 (by omega))] at this
            cases this; exact ⟨rfl, rfl⟩
          obtain ⟨rfl, rfl⟩ := hr
          go_wp2_with (go_at_call 38; (with_reducible refine (scan_moment.calls a0 B a2 m.f0 0 _ HMO.out).mono ?_); rintro e w5 ⟨rfl, hb⟩; have my0 : w5.cell? ⟨wr.heap.size, 0, none⟩ = some (.int .i64 m.f0) := pw_cell_below hb (pcell2 _ _ _ _ 0 _ rfl); have my1 : w5.cell? ⟨wr.heap.size, 1, none⟩ = some (.int .i64 m.f1) := pw_cell_below hb (pcell2 _ _ _ _ 1 _ rfl))
          go_ret2
          exact ⟨_, rfl, Kd.R_nil _ _ _ _ _, HB5 _ hb⟩
        · by_cases hg : 1000000 < m.f1
          · have hg1 : decide (m.f1 < -1000000) = false := decide_eq_false (by omega)
            have hg2 : decide (1000000 < m.f1) = true := decide_eq_true hg
            have hr : r1 = [] ∧ r2 = 1 := by
              have := HF.out
              rw [HD.out] at this
              unfold profGo at this
              rw [if_neg (fun hh => absurd hh.2.2 (by omega))] at this
              cases this; exact ⟨rfl, rfl⟩
            obtain ⟨rfl, rfl⟩ := hr
            go_wp2_with (go_at_call 38; (with_reducible refine (scan_moment.calls a0 B a2 m.f0 0 _ HMO.out).mono ?_); rintro e w5 ⟨rfl, hb⟩; have my0 : w5.cell? ⟨wr.heap.size, 0, none⟩ = some (.int .i64 m.f0) := pw_cell_below hb (pcell2 _ _ _ _ 0 _ rfl); have my1 : w5.cell? ⟨wr.heap.size, 1, none⟩ = some (.int .i64 m.f1) := pw_cell_below hb (pcell2 _ _ _ _ 1 _ rfl))
            go_ret2
            exact ⟨_, rfl, Kd.R_nil _ _ _ _ _, HB5 _ hb⟩
          · have hm1 : -1000000 ≤ m.f1 ∧ m.f1 ≤ 1000000 := ⟨by omega, by omega⟩
            clear hl hg
            have hg1 : decide (m.f1 < -1000000) = false := decide_eq_false (by omega)
            have hg2 : decide (1000000 < m.f1) = false := decide_eq_false (by omega)
            have HBX := Aside0.mk (sbox_eq a0 B a2 m.f0 HS.out ok0.1 (by omega))
            have bb := box_bounds a0 B a2 m.f0 HS.out
            obtain ⟨j, hj⟩ := Int.eq_ofNat_of_zero_le bb.1
            have hjB : j < B := by omega
            have HJ := Aside0.mk hj
            rw [hj] at HBX
            clear hj bb
            have hal : acc.length = B := OKB.out.1
            have hac : acc[j]? = some (acc[j]'(by omega)) := List.getElem?_eq_getElem (by omega)
            generalize hp : acc[j]'(by omega) = p at hac
            have pb := OKB.out.2 p (by rw [← hp]; exact List.getElem_mem _)
            have HP := Aside0.mk hac
            clear hp hac
            obtain ⟨pb1, pb2, pb3, pb4⟩ := pb
            have hgl : g < wr.heap.size := own_lt OW.out g rfl
            have hgn : g ≠ wr.heap.size := Nat.ne_of_lt hgl
            have hgn2 : wr.heap.size ≠ g := Nat.ne_of_gt hgl
            go_wp2_with (first
              | (go_at_call 38; (with_reducible refine (scan_moment.calls a0 B a2 m.f0 0 _ HMO.out).mono ?_); rintro e w5 ⟨rfl, hb⟩; have my0 : w5.cell? ⟨wr.heap.size, 0, none⟩ = some (.int .i64 m.f0) := pw_cell_below hb (pcell2 _ _ _ _ 0 _ rfl); have my1 : w5.cell? ⟨wr.heap.size, 1, none⟩ = some (.int .i64 m.f1) := pw_cell_below hb (pcell2 _ _ _ _ 1 _ rfl); have hbq := below_made' hb; have d0 := pw_cell_below hbq cz0; have d1 := pw_cell_below hbq cz1; have d2 := pw_cell_below hbq cz2; have BK5 := Aside0.mk (blk_below BK.out hbq); have OW5 := Aside0.mk (boxes_below OW.out hbq); have HBB := Aside0.mk (HB5 _ hb); clear hbq hb)
              | (go_at_call 40; (with_reducible refine (scan_box.calls a0 B a2 m.f0 j _ HBX.out).mono ?_); rintro e w6 ⟨rfl, hb6⟩; have my2 := pw_cell_below hb6 my1; have BK6 := Aside0.mk (blk_below BK5.out hb6); have OW6 := Aside0.mk (boxes_below OW5.out hb6); have HBC := Aside0.mk (below_step HBB.out hb6); obtain ⟨hq0, hq1, hgb, hfr⟩ := boxes_at OW6.out hal.symm j p HP.out; have hf0 := hfr (j * 2); have hf1 := hfr (j * 2 + 1); clear hfr d0 d1 d2 my0 my1 hb6 BK5 OW5 HBB BK OW cz0 cz1 cz2))
            have w7a : (w6.setCell ⟨g, j * 2, none⟩ (.int .i64 (p.f0 + 1))).cell? ⟨g, j * 2 + 1, none⟩ = some (.int .i64 p.f1) := (World.cell?_setCell_other _ _ _ _ (fun e => by injection e with _ h _; omega)).trans hq1
            have w7b : (w6.setCell ⟨g, j * 2, none⟩ (.int .i64 (p.f0 + 1))).cell? ⟨wr.heap.size, 1, none⟩ = some (.int .i64 m.f1) := (World.cell?_setCell_other _ _ _ _ (fun e => hgn (by injection e))).trans my2
            have w7c : (w6.setCell ⟨g, j * 2, none⟩ (.int .i64 (p.f0 + 1))).frozen? ⟨g, j * 2 + 1, none⟩ = false := by rw [World.frozen?_setCell]; exact hf1
            generalize hW7 : w6.setCell ⟨g, j * 2, none⟩ (.int .i64 (p.f0 + 1)) = W7 at w7a w7b w7c ⊢
            have HW7 := Aside0.mk hW7
            clear hW7 hq0 hq1 hf0 hf1 my2 hx0 hx1
            have wrap7 : IntKind.i64.wrap (p.f1 + m.f1) = p.f1 + m.f1 := by rw [IntKind.wrap_i64]; omega
            go_region
            all_goals go_wp2
            have hps : profStep a0 B a2 acc m = acc.set j ⟨p.f0 + 1, p.f1 + m.f1⟩ := by
              unfold profStep rd_T23
              rw [HJ.out, Int.toNat_natCast, List.getD_eq_getElem?_getD, HP.out, Option.getD_some]
            have hOW : Boxes (W7.setCell ⟨g, j * 2 + 1, none⟩ (.int .i64 (p.f1 + m.f1))) w.heap.size (.slice (some ⟨g, 0, none⟩) B cap) (profStep a0 B a2 acc m) := by
              rw [hps]
              unfold Boxes
              rw [flat_set, List.length_set, hal, ← HW7.out]
              have := OW6.out
              unfold Boxes at this
              rw [hal] at this
              exact own_set (own_set this _ _) _ _
            have hBK : (W7.setCell ⟨g, j * 2 + 1, none⟩ (.int .i64 (p.f1 + m.f1))).heap[w.heap.size]? = some (.cells #[.int .i64 a0, .int .i64 (B : Int), .int .i64 a2] 45 (0, 0)) := by
              rw [← HW7.out]
              exact blk_far (blk_far BK6.out (show w.heap.size ≠ g by omega) _) (show w.heap.size ≠ g by omega) _
            have hHB : Below w.heap.size w (W7.setCell ⟨g, j * 2 + 1, none⟩ (.int .i64 (p.f1 + m.f1))) := by
              rw [← HW7.out]
              exact below_set (below_set HBC.out (Nat.le_of_lt hgw)) (Nat.le_of_lt hgw)
            have hOK : Okb B (i + 1) (profStep a0 B a2 acc m) := by
              rw [hps]
              refine ⟨by rw [List.length_set]; exact hal, fun q hq => ?_⟩
              rcases List.mem_or_eq_of_mem_set hq with hq | rfl
              · have := OKB.out.2 q hq; omega
              · dsimp only; omega
            have hHF : profGo a0 B a2 (profStep a0 B a2 acc m) (l1.drop (i + 1)) = (r1, r2) := by
              have := HF.out
              rw [HD.out] at this
              unfold profGo at this
              rwa [if_pos ⟨ok0.1, ok0.2, hm1.1, hm1.2⟩] at this
            have Z1 := Aside0.mk hOW
            have Z2 := Aside0.mk hBK
            have Z3 := Aside0.mk hHB
            have Z4 := Aside0.mk hOK
            have Z5 := Aside0.mk hHF
            clear hOW hBK hHB hOK hHF hps
            go_roundg (l1.length - (i + 1))
            case measure => omega
            case rel => exact ⟨i + 1, profStep a0 B a2 acc m, by rw [show ((i + 1 : Nat) : Int) = (i : Int) + 1 by omega], by omega, ⟨below_drew Z3.out⟩, ⟨blk_drew Z2.out⟩, ⟨Z1.out⟩, Z4, Z5⟩
      · have HMO := Aside0.mk (smoment_eq a0 B a2 m.f0)
        rw [if_neg (fun hh => ok0 hh.2)] at HMO
        have hr : r1 = [] ∧ r2 = 1 := by
          have := HF.out
          rw [HD.out] at this
          unfold profGo at this
          rw [if_neg (fun hh => ok0 ⟨hh.1, hh.2.1⟩)] at this
          cases this; exact ⟨rfl, rfl⟩
        obtain ⟨rfl, rfl⟩ := hr
        go_wp2_with (go_at_call 38; (with_reducible refine (scan_moment.calls a0 B a2 m.f0 1 _ HMO.out).mono ?_); rintro e w5 ⟨rfl, hb⟩)
        go_ret2
        exact ⟨_, rfl, Kd.R_nil _ _ _ _ _, HB5 _ hb⟩
    · obtain rfl : i = l1.length := by omega
      have hr : r1 = acc ∧ r2 = 0 := by
        have := HF.out
        rw [List.drop_length] at this
        unfold profGo at this
        cases this; exact ⟨rfl, rfl⟩
      obtain ⟨rfl, rfl⟩ := hr
      have hal : r1.length = B := OKB.out.1
      have Z := Aside0.mk (R_of_boxes OW.out)
      clear OW
      go_wp2
      go_ret2
      exact ⟨_, rfl, Z.out, HB.out⟩

/-- What Profile answers. -/
def scan_Profile.f (a0_0 a0_1 a0_2 : Int) (l1 : List S52) : Option (List S23 × Int) := some (profSpec a0_0 a0_1 a0_2 l1)

theorem scan_Profile.calls (a0_0 : Int) (a0_1 : Int) (a0_2 : Int) (A1 : Option Addr) (c1 : Nat) (l1 : List S52) (r1 : List S23) (r2 : Int) (w : World) (hr1 : Kd.C k52 w A1 l1.length l1) (hc1 : l1.length ≤ c1) (h : scan_Profile.f a0_0 a0_1 a0_2 l1 = some (r1, r2)) :
    Calls Try.prog 23 #[.agg #[.int .i64 a0_0, .int .i64 a0_1, .int .i64 a0_2], .slice A1 l1.length c1] w fun e w' => ∃ v0_ : Value, e = .returned (.tuple #[v0_, .int .i64 r2]) ∧ Kd.R k23 23 w' w.heap.size (fun _ => True) v0_ r1 ∧ Below w.heap.size w w' := by
  have hc := scheck_eq a0_0 a0_1 a0_2
  unfold scan_Profile.f at h
  injection h with h
  unfold profSpec at h
  by_cases hs : okS a0_0 a0_1 a0_2
  · rw [if_neg (fun hh => hh hs)] at h
    rw [if_pos hs] at hc
    by_cases hn : 512 < l1.length
    · rw [if_pos hn] at h
      cases h
      refine (profile_long a0_0 a0_1 a0_2 A1 l1.length c1 w hc hn).mono fun e w' hh => ?_
      exact ⟨_, hh.1, Kd.R_nil _ _ _ _ _, hh.2⟩
    · rw [if_neg hn] at h
      exact profile_good a0_0 a0_1 a0_2 A1 c1 l1 r1 r2 w hr1 hc1 hc hs (by omega) h
  · rw [if_pos hs] at h
    rw [if_neg hs] at hc
    cases h
    refine (profile_bad a0_0 a0_1 a0_2 A1 l1.length c1 w hc).mono fun e w' hh => ?_
    exact ⟨_, hh.1, Kd.R_nil _ _ _ _ _, hh.2⟩
end Go.Proofs.Ytnkmeocccbkdkaa.P
