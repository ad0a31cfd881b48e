/- The row of the law TopFibre: called with any arguments it answers true, and leaves them as they were. -/
import Derived.Test.YtgbjlcaanagfnaaRows
import Derived.Test.YtgbjlcaanagfnaaHandTop
import Derived.Deep.Slices
import Derived.Deep.Fields
import Derived.Deep.Matrix
import Derived.ChangeSame
import Derived.Lib.SmallJoins
import Derived.WalkKit
import Derived.ProofKit
import Derived.OpenShut
import Derived.ChangeOld
import Derived.Below
import Derived.SizedLaws
import Derived.Carry
namespace Go.Proofs.Ytgbjlcaanagfnaa.Open
open Go.ChangeShapes Go.WideShapes Go.Deep Go.RowKit Go.Proofs.YtgbjlcaanagfnaaW.PrintWords Go.Proofs.YtgbjlcaanagfnaaW.PrintLast Go.Proofs.YtgbjlcaanagfnaaW.PrintMore
set_option linter.unusedVariables false
section
variable {H : Type} {enc : TypeId × Value → H} {P : Program} {w : World} {base : Nat} {held : Bool}

/-- The number in a cell. -/
def numOf : Option Value → Int
 | some (Value.int _ x) => x
 | _ => 0
theorem four_of (cs : List Value) (h : cs.length = 4) : ∃ u0 u1 u2 u3 : Value, cs = [u0, u1, u2, u3] := by
 match cs, h with
 | [y0, y1, y2, y3], _ => exact ⟨y0, y1, y2, y3, rfl⟩
/-- A slice of whole numbers. -/
theorem ints_C {t e : TypeId} {k : IntKind} {fuel : Nat} {v : Value} {x : DataW H × List MemPlace} (ht : P.underlying t = some (.slice e)) (he : P.underlying e = some (.int k)) (hce : P.cellsOf e = 1) (h : DataW.trod enc P w base (fun _ => true) held fuel t [v] = some x) :
  ∃ (A : Option Addr) (cap : Nat) (xs : List Int), v = .slice A xs.length cap ∧ xs.length ≤ cap ∧ Kd.C (Kd.int k) w A xs.length xs := by
 rcases open_ints ht he hce h with ⟨hcs, _⟩ | ⟨ad, l, c, zs, hcs, _, hl, hm, hz, _, hcell, _⟩
 ·exact ⟨none, 0, [], by simpa using hcs, Nat.le_refl _, rfl, by simp, fun h => absurd h (by simp)⟩
 ·have hz' : zs.length = c := by simpa using hz
  have hlen : (zs.take l).length = l := by simp; omega
  refine ⟨some ad, c, zs.take l, by rw [hlen]; simpa using hcs, by omega, rfl, by unfold maxLen at hm; omega, fun _ => ⟨ad, rfl, fun j p hj => ?_⟩⟩
  have hjl := (List.getElem?_eq_some_iff.1 hj).1
  refine ⟨[.int k p], rfl, rfl, fun i u hu => ?_⟩
  match i, hu with
  | 0, hu =>
   cases hu
   have h1 := hcell j (by omega)
   rw [show (Kd.int k).sz = 1 from rfl, Nat.mul_one, Nat.add_zero, h1]
   have h2 : zs[j]? = some p := by rw [← hj, List.getElem?_take]; simp; omega
   rw [List.getD_eq_getElem?_getD, h2]; rfl
  | i + 1, hu => simp at hu
/-- A slice of slices of whole numbers. -/
theorem rows_C {t e q : TypeId} {k : IntKind} {fuel : Nat} {v : Value} {x : DataW H × List MemPlace} (ht : P.underlying t = some (.slice e)) (he : P.underlying e = some (.slice q)) (hq : P.underlying q = some (.int k)) (ce : P.cellsOf e = 1) (cq : P.cellsOf q = 1) (h : DataW.trod enc P w base (fun _ => true) held fuel t [v] = some x) :
  ∃ (A : Option Addr) (cap : Nat) (xs : List (List Int)), v = .slice A xs.length cap ∧ xs.length ≤ cap ∧ Kd.C (Kd.slice q (Kd.int k)) w A xs.length xs := by
 rcases open_int_rows ht he hq ce cq h with ⟨hcs, _⟩ | ⟨ad, l, c, A, L, C, Z, hcs, _, hl, hm, _, hr⟩
 ·exact ⟨none, 0, [], by simpa using hcs, Nat.le_refl _, rfl, by simp, fun h => absurd h (by simp)⟩
 ·have hlen : ((List.range l).map fun r => (Z r).take (L r)).length = l := by simp
  refine ⟨some ad, c, (List.range l).map fun r => (Z r).take (L r), by rw [hlen]; simpa using hcs, by omega, rfl, by unfold maxLen at hm; omega, fun _ => ⟨ad, rfl, fun j p hj => ?_⟩⟩
  have hjl := (List.getElem?_eq_some_iff.1 hj).1
  rw [hlen] at hjl
  obtain rfl : (Z j).take (L j) = p := by simpa [hjl] using hj
  obtain ⟨h1, h2, h3, h4, _, h6, h7⟩ := hr j (by omega)
  have hzl : ((Z j).take (L j)).length = L j := by simp; omega
  refine ⟨[.slice (A j) (L j) (C j)], rfl, ⟨A j, C j, by rw [hzl], by omega, rfl, by unfold maxLen at h3; omega, fun hp => ?_⟩, fun i u hu => ?_⟩
  ·cases hA : A j with
   | none => have := h6 hA; omega
   | some a' =>
    refine ⟨a', rfl, fun i p hi => ?_⟩
    have hil := (List.getElem?_eq_some_iff.1 hi).1
    refine ⟨[.int k p], rfl, rfl, fun y u hu => ?_⟩
    match y, hu with
    | 0, hu =>
     cases hu
     have g1 := (h7 a' hA).2 i (by omega)
     rw [show (Kd.int k).sz = 1 from rfl, Nat.mul_one, Nat.add_zero, g1]
     have g2 : (Z j)[i]? = some p := by rw [← hi, List.getElem?_take]; simp; omega
     rw [List.getD_eq_getElem?_getD, g2]; rfl
    | y + 1, hu => simp at hu
  ·match i, hu with
   | 0, hu =>
    cases hu
    rw [show (Kd.slice q (Kd.int k)).sz = 1 from rfl, Nat.mul_one, Nat.add_zero]; exact h1
   | i + 1, hu => simp at hu
/-- A slice of structs of whole numbers: the cells of each element. -/
theorem structs_g {t e : TypeId} {fs : Array Field} {k : IntKind} {fuel : Nat} {v : Value} {x : DataW H × List MemPlace} (ht : P.underlying t = some (.slice e)) (he : P.underlying e = some (.struct fs)) (hone : oneCellFields P fs = true) (hC : P.cellsOf e = fs.size)
  (hi : ∀ f ∈ fs.toList, P.underlying f.type = some (.int k)) (h : DataW.trod enc P w base (fun _ => true) held fuel t [v] = some x) :
  ∃ (a : Option Addr) (len cap : Nat) (g : Nat → Nat → Int), v = .slice a len cap ∧ len ≤ cap ∧ len ≤ maxLen ∧
   (0 < len → ∃ ad, a = some ad ∧ ∀ i j, i < len → j < fs.size → w.cell? (ad.add (i * fs.size + j)) = some (.int k (g i j))) := by
 rcases open_slice ht h with ⟨hcs, _⟩ | ⟨ad, len, cap, m, n, D, Pl, hcs, hb, hl, hm, hmm, hx, hcells⟩
 ·exact ⟨none, 0, 0, fun _ _ => 0, by simpa using hcs, Nat.le_refl _, by unfold maxLen; omega, fun h0 => absurd h0 (Nat.lt_irrefl _)⟩
 ·have hlm : len ≤ m := by rw [hmm]; split <;> omega
  have hcell : ∀ i j, i < len → j < fs.size → ∃ x : Int, w.cell? (ad.add (i * fs.size + j)) = some (.int k x) := fun i j hil hj => by
   obtain ⟨cs', hc, ht'⟩ := hcells i (by omega)
   rw [hC] at hc
   obtain ⟨ys, n', _, _, hlen, hyl, hg⟩ := DataW.trod_struct he ht'
   obtain ⟨_, hcl, hat⟩ := World.cells?_some hc
   have hfj : fs[j]? = some fs[j] := Array.getElem?_eq_getElem hj
   obtain ⟨o0, k0⟩ := hone_of hone j fs[j] hfj
   have h1 := hg j fs[j] hfj
   rw [o0, k0, List.drop_eq_getElem_cons (by omega)] at h1
   rw [show ∀ (x : Value) (l : List Value), (x :: l).take 1 = [x] from fun _ _ => rfl, List.getElem?_eq_getElem (by omega)] at h1
   obtain ⟨x, hx, _, hw⟩ := DataW.trod_int (hi fs[j] (by simp)) h1
   refine ⟨x, ?_⟩
   rw [← Go.Deep.add_add, hat j hj]
   rw [List.getElem?_eq_getElem (by omega)]
   exact congrArg some (by simpa using hx)
  refine ⟨some ad, len, cap, fun i j => numOf (w.cell? (ad.add (i * fs.size + j))), by simpa using hcs, hl, by omega, fun _ => ⟨ad, rfl, fun i j hil hj => ?_⟩⟩
  obtain ⟨x, hx⟩ := hcell i j hil hj
  simp only [hx, numOf]
/-- A struct whose fields are of one cell each: each field is read. -/
theorem fields_one {r : Reach} {b0 : Nat} {t : TypeId} {fs : Array Field} {v : Value} {d : DataW H} {p : List MemPlace} (ht : P.underlying t = some (.struct fs)) (hone : oneCellFields P fs = true) (hC : P.cellsOf t = fs.size) (hv : Value.okWide P w r b0 t v) (h : DataW.Trod enc P w base (fun _ => true) held t v d p) :
  ∃ cs : List Value, v = .agg cs.toArray ∧ cs.length = fs.size ∧ ∀ i (hi : i < fs.size) u, cs[i]? = some u → ∃ fuel x, DataW.trod enc P w base (fun _ => true) held fuel (fs[i]).type [u] = some x := by
 obtain ⟨cs, rfl, hsz⟩ := okWide_struct ht hv
 rw [hC] at hsz
 obtain ⟨fuel, hf⟩ := h
 obtain ⟨ys, m, _, _, _, hlen, hg⟩ := DataW.trod_struct ht hf
 refine ⟨cs.toList, by simp, by simpa using hsz, fun i hil u hu => ?_⟩
 have hfi : fs[i]? = some fs[i] := Array.getElem?_eq_getElem hil
 have h1 := hg i fs[i] hfi
 obtain ⟨o0, k0⟩ := hone_of hone i fs[i] hfi
 rw [o0, k0] at h1
 have hl : i < cs.toList.length := by simpa [hsz] using hil
 have e1 : ((Value.agg cs).cells.toList.drop i).take 1 = [u] := by
  rw [show (Value.agg cs).cells = cs from rfl, List.drop_eq_getElem_cons hl]
  rw [List.getElem?_eq_getElem hl] at hu
  rw [Option.some.inj hu]; rfl
 rw [e1, List.getElem?_eq_getElem (by omega)] at h1
 exact ⟨_, _, h1⟩
end
end Go.Proofs.Ytgbjlcaanagfnaa.Open
namespace Go.Proofs.Ytgbjlcaanagfnaa.topFibre
open Go.ChangeShapes Go.WideShapes Go.ChangeAt Go.RowKit Go.Proofs.YtgbjlcaanagfnaaW.PrintWords Go.Proofs.YtgbjlcaanagfnaaW.PrintLast
set_option linter.unusedVariables false
set_option linter.unusedSimpArgs false
theorem own : ownKnob Try.prog.godebug = none := by kernel_rfl
theorem laidOut : laidOutB Try.prog = true := by kernel_rfl
set_option maxHeartbeats 2000000 in
set_option maxRecDepth 100000 in
theorem lifted (os : Os) (started : os.Started) (H : Type) (enc : TypeId × Value → H) :
  ReturnsInHanded {} Try.checked os 3 .any (Rows.topFibreSpec.pre6 enc Try.prog Try.f3 Rows.topFibreRow.domain false) (Rows.topFibreSpec.post enc Try.prog Try.f3 false true false false) := by
 refine returnsInHanded_of_change_sized (C := Try.checked) own started (by kernel_rfl) Try.func3
  (ChangeSpec.witness6 (enc := enc) (C := Try.checked) false ⟨#[], #[.agg #[.int .i64 0, .slice none 0 0, .slice none 0 0, .int .i64 0], .slice none 0 0, .slice none 0 0, .slice none 0 0], []⟩ 8 (by kernel_rfl) (by kernel_rfl) (by kernel_rfl) (by kernel_rfl)) ?_
 intro W base args ds gs before hval0 hW hcnd hsz0 _
 have hval : ∀ (j : Nat) t v, Try.f3.params[j]? = some t → args[j]? = some v → Value.okWide Try.prog W .any base t v := hval0
 have hW' := hW
 obtain ⟨p, q, hA0, hV, rfl, hfz, hnd⟩ := hW
 have hA : DataW.TrodAll enc Try.prog W 0 (fun _ => true) true Try.f3.params.toList args.toList ds p := hA0
 rw [Try.params3] at hA hval
 obtain ⟨v0, vs0, d0, ds0, p0, q0, hargs, rfl, rfl, h0, r0⟩ := trodAll_cons hA
 obtain ⟨v1, vs1, d1, ds1, p1, q1, rfl, rfl, rfl, h1, r1⟩ := trodAll_cons r0
 obtain ⟨v2, vs2, d2, ds2, p2, q2, rfl, rfl, rfl, h2, r2⟩ := trodAll_cons r1
 obtain ⟨v3, vs3, d3, ds3, p3, q3, rfl, rfl, rfl, h3, r3⟩ := trodAll_cons r2
 obtain ⟨rfl, rfl, rfl⟩ := trodAll_nil r3
 obtain rfl : args = #[v0, v1, v2, v3] := by cases args; simp_all
 obtain ⟨rfl, rfl⟩ := trodVars_none hV
 have k0 := h0
 have lt0 : ∀ x ∈ p0, x.block < W.heap.size := by obtain ⟨m, hm⟩ := k0; exact DataW.trod_lt m _ _ _ hm
 have k1 := h1
 have lt1 : ∀ x ∈ p1, x.block < W.heap.size := by obtain ⟨m, hm⟩ := k1; exact DataW.trod_lt m _ _ _ hm
 have k2 := h2
 have lt2 : ∀ x ∈ p2, x.block < W.heap.size := by obtain ⟨m, hm⟩ := k2; exact DataW.trod_lt m _ _ _ hm
 have k3 := h3
 have lt3 : ∀ x ∈ p3, x.block < W.heap.size := by obtain ⟨m, hm⟩ := k3; exact DataW.trod_lt m _ _ _ hm
 obtain ⟨cs, ev0, hcl, hcf⟩ := Open.fields_one Try.underlying25 (by kernel_rfl) (by kernel_rfl) (hval 0 25 v0 rfl rfl) h0
 subst ev0
 obtain ⟨u0, u1, u2, u3, hcs⟩ := Open.four_of cs hcl
 subst hcs
 obtain ⟨f0, x0, t0⟩ := hcf 0 (by decide) u0 rfl
 obtain ⟨f1, x1, t1⟩ := hcf 1 (by decide) u1 rfl
 obtain ⟨f2, x2, t2⟩ := hcf 2 (by decide) u2 rfl
 obtain ⟨f3, x3, t3⟩ := hcf 3 (by decide) u3 rfl
 obtain ⟨kinds, e0, _, _⟩ := DataW.trod_int Try.underlying3 t0
 obtain rfl : u0 = .int .i64 kinds := by simpa using e0
 obtain ⟨CA, ck, caps, rfl, hck, hcaps⟩ := Open.ints_C Try.underlying22 Try.underlying3 (by kernel_rfl) t1
 obtain ⟨PA, pn, pc, g2, rfl, hpc, hpm, hcell2⟩ := Open.structs_g Try.underlying23 Try.underlying35 (by kernel_rfl) (by kernel_rfl) (by intro f hf; simp at hf; rcases hf with rfl | rfl | rfl <;> exact Try.underlying3) t2
 obtain ⟨hold, e3, _, _⟩ := DataW.trod_int Try.underlying3 t3
 obtain rfl : u3 = .int .i64 hold := by simpa using e3
 obtain ⟨pu, hpu⟩ : ∃ pu : List (Int × Int × Int), pu = (List.range pn).map fun j => (g2 j 0, g2 j 1, g2 j 2) := ⟨_, rfl⟩
 have hg2 : ∀ j, j < pn → pu[j]? = some (g2 j 0, g2 j 1, g2 j 2) := fun j hj => by rw [hpu]; simp [hj]
 have hpn : pn = pu.length := by rw [hpu]; simp
 clear hpu
 subst hpn
 have hpuC : Kd.C P.kP W PA pu.length pu := by
  refine ⟨rfl, by unfold maxLen at hpm; omega, fun hp => ?_⟩
  obtain ⟨ad, rfl, hcell⟩ := hcell2 hp
  refine ⟨ad, rfl, fun j p hj => ?_⟩
  have hjl : j < pu.length := (List.getElem?_eq_some_iff.1 hj).1
  obtain rfl := Option.some.inj ((hg2 j hjl).symm.trans hj)
  refine ⟨[.int .i64 (g2 j 0), .int .i64 (g2 j 1), .int .i64 (g2 j 2)], rfl, ⟨[.int .i64 (g2 j 0)], [.int .i64 (g2 j 1), .int .i64 (g2 j 2)], rfl, rfl, [.int .i64 (g2 j 1)], [.int .i64 (g2 j 2)], rfl, rfl, rfl⟩, fun i u hu => ?_⟩
  match i, hu with
  | 0, hu => cases hu; exact hcell j 0 hjl (by decide)
  | 1, hu => cases hu; exact hcell j 1 hjl (by decide)
  | 2, hu => cases hu; exact hcell j 2 hjl (by decide)
  | z + 3, hu => simp at hu
 obtain ⟨a1, len1, cap1, rfl⟩ := okWide_slice Try.underlying26 (hval 1 26 v1 rfl rfl)
 obtain ⟨m1, hf1⟩ := h1
 obtain ⟨SA, sc, start, ev1, hsc, hst⟩ := Open.rows_C Try.underlying26 Try.underlying22 Try.underlying3 (by kernel_rfl) (by kernel_rfl) hf1
 injection ev1 with ia1 ib1 ic1
 subst ia1 ib1 ic1
 obtain ⟨a2, len2, cap2, rfl⟩ := okWide_slice Try.underlying22 (hval 2 22 v2 rfl rfl)
 obtain ⟨m2, hf2⟩ := h2
 obtain ⟨RA, rc, rp, ev2, hrc, hrp⟩ := Open.ints_C Try.underlying22 Try.underlying3 (by kernel_rfl) hf2
 injection ev2 with ia2 ib2 ic2
 subst ia2 ib2 ic2
 obtain ⟨a3, len3, cap3, rfl⟩ := okWide_slice Try.underlying27 (hval 3 27 v3 rfl rfl)
 obtain ⟨m3, hf3⟩ := h3
 obtain ⟨LA, ln, lc, g3, ev3, hlc, hlm, hcell3⟩ := Open.structs_g Try.underlying27 Try.underlying37 (by kernel_rfl) (by kernel_rfl) (by intro f hf; simp at hf; rcases hf with rfl | rfl <;> exact Try.underlying3) hf3
 injection ev3 with ia3 ib3 ic3
 subst ia3 ib3 ic3
 obtain ⟨l, hl⟩ : ∃ l : List (Int × Int), l = (List.range len3).map fun j => (g3 j 0, g3 j 1) := ⟨_, rfl⟩
 have hg3 : ∀ j, j < len3 → l[j]? = some (g3 j 0, g3 j 1) := fun j hj => by rw [hl]; simp [hj]
 have hln : len3 = l.length := by rw [hl]; simp
 clear hl
 subst hln
 have hlC : Kd.C P.kD W a3 l.length l := by
  refine ⟨rfl, by unfold maxLen at hlm; omega, fun hp => ?_⟩
  obtain ⟨ad, rfl, hcell⟩ := hcell3 hp
  refine ⟨ad, rfl, fun j p hj => ?_⟩
  have hjl : j < l.length := (List.getElem?_eq_some_iff.1 hj).1
  obtain rfl := Option.some.inj ((hg3 j hjl).symm.trans hj)
  refine ⟨[.int .i64 (g3 j 0), .int .i64 (g3 j 1)], rfl, ⟨[.int .i64 (g3 j 0)], [.int .i64 (g3 j 1)], rfl, rfl, rfl⟩, fun i u hu => ?_⟩
  match i, hu with
  | 0, hu => cases hu; exact hcell j 0 hjl (by decide)
  | 1, hu => cases hu; exact hcell j 1 hjl (by decide)
  | z + 2, hu => simp at hu
 clear hA0 hval0 hsz0
 refine (P.top_calls kinds hold CA ck caps PA pc pu a1 cap1 start a2 cap2 rp a3 cap3 l W hcaps hck hpuC hpc hst hsc hrp hrc hlC).mono fun e W' ⟨he, bel⟩ => ?_
 subst he
 exact ⟨_, rfl, _, _, _, [], _, [], hW', trodAll_mk1 (shut_bool Try.underlying4 _), (trodAll_cons_mk (Below.trod laidOut (by kernel_rfl) (of_decide_eq_true (by kernel_rfl)) k0 bel lt0) (trodAll_cons_mk (Below.trod laidOut (by kernel_rfl) (of_decide_eq_true (by kernel_rfl)) k1 bel lt1) (trodAll_cons_mk (Below.trod laidOut (by kernel_rfl) (of_decide_eq_true (by kernel_rfl)) k2 bel lt2) (trodAll_cons_mk (Below.trod laidOut (by kernel_rfl) (of_decide_eq_true (by kernel_rfl)) k3 bel lt3) trodAll_mk0)))), rfl, bel.frame _, fun h => by cases h⟩
theorem over : Rows.topFibreRow.holds Try.pinned (OpenSpec.ofChange Rows.topFibreSpec) :=
 OpenClaim.holds_of_wide 3 Try.f3 rfl rfl rfl rfl rfl rfl rfl ⟨rfl, rfl, rfl, rfl, rfl⟩ rfl rfl rfl rfl rfl (by kernel_rfl) Try.func3 (by kernel_rfl)
  (of_decide_eq_true (by kernel_rfl)) (by unfold Func.isWrapper; first | (rw [if_pos (by decide +kernel)]; kernel_rfl) | (rw [if_neg (by decide +kernel)]; exact ⟨rfl, rfl⟩))
  (fun os started H enc _ => lifted os started H enc)
theorem proved : Rows.TopFibreSaid := over
#print axioms proved
end Go.Proofs.Ytgbjlcaanagfnaa.topFibre
namespace Go.Proofs.Ytgbjlcaanagfnaa
/-- The row, under a short name, for the claim. -/
theorem topFibre_holds : Rows.TopFibreSaid := topFibre.proved
end Go.Proofs.Ytgbjlcaanagfnaa
