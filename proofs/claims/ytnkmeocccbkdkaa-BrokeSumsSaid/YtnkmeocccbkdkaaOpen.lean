/- Arguments opened: arrays and structs of whole numbers by value; slices of structs of whole numbers. -/
import Derived.Deep.Slices
import Derived.Deep.Fields
import Derived.ChangeSame
import Derived.OpenShut
import Derived.Lib.SmallJoins
import Derived.SizedLaws
import Derived.WalkKit
namespace Go.Proofs.Ytnkmeocccbkdkaa.Open
open Go.ChangeShapes Go.WideShapes Go.Deep Go.RowKit
section
variable {H : Type} {enc : TypeId × Value → H} {P : Program} {w : World} {base : Nat} {spare : Nat → Bool} {held : Bool}

/-- The number in a cell. -/
def numOf : Option Value → Int
  | some (Value.int _ x) => x
  | _ => 0

theorem okWide_array {r : Reach} {b0 : Nat} {t e : TypeId} {n : Nat} {v : Value} (ht : P.underlying t = some (.array n e)) (h : Value.okWide P w r b0 t v) : ∃ cs, v = .agg cs ∧ cs.size = P.cellsOf t := by
  simp only [Value.okWide, ht] at h
  obtain ⟨cs, h1, h2, _⟩ := h
  exact ⟨cs, h1, h2⟩

/-- An array of whole numbers, by value. -/
theorem open_arr {r : Reach} {b0 : Nat} {t e : TypeId} {n : Nat} {k : IntKind} {v : Value} {d : DataW H} {p : List MemPlace} (ht : P.underlying t = some (.array n e)) (he : P.underlying e = some (.int k)) (hce : P.cellsOf e = 1) (hC : P.cellsOf t = n)
    (hv : Value.okWide P w r b0 t v) (h : DataW.Trod enc P w base spare held t v d p) : ∃ xs : List Int, v = .agg (xs.map (Value.int k)).toArray ∧ xs.length = n ∧ ∀ x ∈ xs, (Lit.int k x).wf = true := by
  obtain ⟨cs, rfl, hsz⟩ := okWide_array ht hv
  rw [hC] at hsz
  obtain ⟨fuel, hf⟩ := h
  obtain ⟨ys, m, _, _, _, hlen, hg⟩ := DataW.trod_array ht hf
  have hcell : ∀ i (hi : i < n), ∃ x : Int, cs[i]? = some (.int k x) ∧ (Lit.int k x).wf = true := fun i hi => by
    have h1 := hg i hi
    rw [hce, Nat.mul_one] at h1
    have hl : i < cs.toList.length := by simpa [hsz] using hi
    have e1 : ((Value.agg cs).cells.toList.drop i).take 1 = [cs.toList[i]] := by
      rw [show (Value.agg cs).cells = cs from rfl, List.drop_eq_getElem_cons hl]; rfl
    rw [e1, List.getElem?_eq_getElem (by omega)] at h1
    obtain ⟨x, hx, _, hw⟩ := DataW.trod_int he h1
    refine ⟨x, ?_, hw⟩
    rw [Array.getElem?_eq_getElem (by omega)]
    simpa using hx
  refine ⟨(List.range n).map fun i => numOf cs[i]?, ?_, by simp, ?_⟩
  · congr 1
    apply Array.ext
    · simp [hsz]
    · intro i h1 h2
      obtain ⟨x, hx, _⟩ := hcell i (by omega)
      have hx' := hx
      rw [Array.getElem?_eq_getElem h1] at hx'
      simp [hx, numOf, Option.some.inj hx']
  · intro x hx
    simp only [List.mem_map, List.mem_range] at hx
    obtain ⟨i, hi, rfl⟩ := hx
    obtain ⟨x, hx, hw⟩ := hcell i hi
    rw [hx]; exact hw

/-- A struct of whole numbers of one kind, by value. -/
theorem open_str {r : Reach} {b0 : Nat} {t : TypeId} {fs : Array Field} {k : IntKind} {v : Value} {d : DataW H} {p : List MemPlace} (ht : P.underlying t = some (.struct fs)) (hone : oneCellFields P fs = true) (hC : P.cellsOf t = fs.size)
    (hi : ∀ f ∈ fs.toList, P.underlying f.type = some (.int k)) (hv : Value.okWide P w r b0 t v) (h : DataW.Trod enc P w base spare held t v d p) :
    ∃ xs : List Int, v = .agg (xs.map (Value.int k)).toArray ∧ xs.length = fs.size ∧ ∀ x ∈ xs, (Lit.int k x).wf = true := by
  obtain ⟨cs, rfl, hsz⟩ := okWide_struct ht hv
  rw [hC] at hsz
  obtain ⟨fuel, hf⟩ := h
  obtain ⟨ys, m, _, _, _, hlen, hg⟩ := DataW.trod_struct ht hf
  have hcell : ∀ i (hi : i < fs.size), ∃ x : Int, cs[i]? = some (.int k x) ∧ (Lit.int k x).wf = true := fun i hil => by
    have hfi : fs[i]? = some fs[i] := Array.getElem?_eq_getElem hil
    have h1 := hg i fs[i] hfi
    obtain ⟨o0, k0⟩ := hone_of hone i fs[i] hfi
    rw [o0, k0] at h1
    have hl : i < cs.toList.length := by simpa [hsz] using hil
    have e1 : ((Value.agg cs).cells.toList.drop i).take 1 = [cs.toList[i]] := by
      rw [show (Value.agg cs).cells = cs from rfl, List.drop_eq_getElem_cons hl]; rfl
    rw [e1, List.getElem?_eq_getElem (by omega)] at h1
    obtain ⟨x, hx, _, hw⟩ := DataW.trod_int (hi fs[i] (by simp)) h1
    refine ⟨x, ?_, hw⟩
    rw [Array.getElem?_eq_getElem (by omega)]
    simpa using hx
  refine ⟨(List.range fs.size).map fun i => numOf cs[i]?, ?_, by simp, ?_⟩
  · congr 1
    apply Array.ext
    · simp [hsz]
    · intro i h1 h2
      obtain ⟨x, hx, _⟩ := hcell i (by omega)
      have hx' := hx
      rw [Array.getElem?_eq_getElem h1] at hx'
      simp [hx, numOf, Option.some.inj hx']
  · intro x hx
    simp only [List.mem_map, List.mem_range] at hx
    obtain ⟨i, hi', rfl⟩ := hx
    obtain ⟨x, hx, hw⟩ := hcell i hi'
    rw [hx]; exact hw

/-- A slice of structs of whole numbers of one kind: the cells of each element; its length. -/
theorem open_rows {r : Reach} {b0 : Nat} {t e : TypeId} {fs : Array Field} {k : IntKind} {v : Value} {d : DataW H} {p : List MemPlace} (ht : P.underlying t = some (.slice e)) (he : P.underlying e = some (.struct fs)) (hone : oneCellFields P fs = true) (hC : P.cellsOf e = fs.size)
    (hi : ∀ f ∈ fs.toList, P.underlying f.type = some (.int k)) (hv : Value.okWide P w r b0 t v) (h : DataW.Trod enc P w base spare held t v d p) :
    ∃ (a : Option Addr) (len cap : Nat) (g : Nat → Nat → Int), v = .slice a len cap ∧ len ≤ cap ∧ len ≤ maxLen ∧ (∀ i j, (Lit.int k (g i j)).wf = true) ∧
      (0 < len → ∃ ad, a = some ad ∧ ∀ i j, i < len → j < fs.size → w.cell? (ad.add (i * fs.size + j)) = some (.int k (g i j))) := by
  obtain ⟨a, len, cap, rfl⟩ := okWide_slice ht hv
  obtain ⟨fuel, hf⟩ := h
  rcases open_slice ht hf with ⟨hcs, _⟩ | ⟨ad, l, c, m, n, D, Pl, hcs, hb, hl, hm, hmm, hx, hcells⟩
  · simp [Value.cells] at hcs
    obtain ⟨rfl, rfl, rfl⟩ := hcs
    refine ⟨none, 0, 0, fun _ _ => 0, rfl, Nat.le_refl _, by unfold maxLen; omega, fun _ _ => ?_, fun h0 => absurd h0 (Nat.lt_irrefl _)⟩
    cases k <;> rfl
  · simp [Value.cells] at hcs
    obtain ⟨rfl, rfl, rfl⟩ := hcs
    have hlm : len ≤ m := by rw [hmm]; split <;> omega
    have hcell : ∀ i j, i < len → j < fs.size → ∃ x : Int, w.cell? (ad.add (i * fs.size + j)) = some (.int k x) ∧ (Lit.int k x).wf = true := fun i j hil hj => by
      obtain ⟨cs', hc, ht'⟩ := hcells i (by omega)
      rw [hC] at hc
      obtain ⟨ys, n', _, _, hlen, hyl, hg⟩ := DataW.trod_struct he ht'
      obtain ⟨_, hcl, hat⟩ := World.cells?_some hc
      have hfj : fs[j]? = some fs[j] := Array.getElem?_eq_getElem hj
      obtain ⟨o0, k0⟩ := hone_of hone j fs[j] hfj
      have h1 := hg j fs[j] hfj
      rw [o0, k0, List.drop_eq_getElem_cons (by omega)] at h1
      rw [show ∀ (x : Value) (l : List Value), (x :: l).take 1 = [x] from fun _ _ => rfl, List.getElem?_eq_getElem (by omega)] at h1
      obtain ⟨x, hx, _, hw⟩ := DataW.trod_int (hi fs[j] (by simp)) h1
      refine ⟨x, ?_, hw⟩
      rw [← Go.Deep.add_add, hat j hj]
      rw [List.getElem?_eq_getElem (by omega)]
      exact congrArg some (by simpa using hx)
    refine ⟨some ad, len, cap, fun i j => if (Lit.int k (numOf (w.cell? (ad.add (i * fs.size + j))))).wf = true then numOf (w.cell? (ad.add (i * fs.size + j))) else 0, rfl, hl, by omega, fun i j => ?_, fun _ => ⟨ad, rfl, fun i j hil hj => ?_⟩⟩
    · dsimp only
      split
      · assumption
      · cases k <;> rfl
    · obtain ⟨x, hx, hw⟩ := hcell i j hil hj
      simp only [hx, numOf, hw, if_true]
end
end Go.Proofs.Ytnkmeocccbkdkaa.Open
