/- Plain facts about the printed functions of sums, of checked parts, and of lists that are added element by element. Plain facts about chests and pipes: what is drawn, filled and pushed; what a pump does to a plant that is in order. -/
import Derived.Test.YtgbjlcaanagfnaaHandSort
import Derived.Test.YtgbjlcaanagfnaaPlantW
import Derived.Test.YtgbjlcaanagfnaaHandPush
import Derived.Test.YtgbjlcaanagfnaaHandCopy
import Derived.Test.YtgbjlcaanagfnaaPx3
import Derived.Test.YtgbjlcaanagfnaaPx1
import Derived.Test.YtgbjlcaanagfnaaPx13
import Derived.Test.YtgbjlcaanagfnaaHandChecks
import Derived.Test.YtgbjlcaanagfnaaHandStore
import Derived.Test.YtgbjlcaanagfnaaHandChest
namespace Go.Proofs.Ytgbjlcaanagfnaa.P
open Go.RowKit Go.Proofs.YtgbjlcaanagfnaaW.PrintWords Go.Proofs.YtgbjlcaanagfnaaW.PrintLast
set_option linter.unusedVariables false
set_option linter.unusedSimpArgs false

theorem rd_at (l : List Int) (i : Nat) (h : i < l.length) : rd l (i : Int) = l[i] := by
 unfold rd; rw [Int.toNat_natCast, List.getD_eq_getElem?_getD, List.getElem?_eq_getElem h]; rfl
theorem drop_sum (l : List Int) (i : Nat) (h : i < l.length) : (l.drop i).sum = l[i] + (l.drop (i + 1)).sum := by
 rw [List.drop_eq_getElem_cons h, List.sum_cons]

theorem prep_sum_run (l : List Int) (hl : l.length ≤ 1000000) (hb : ∀ x ∈ l, 0 ≤ x) (hs : l.sum ≤ 4611686018427387904) : ∀ (d K i : Nat) (acc : Int), l.length - i = d → i ≤ l.length → d < K → acc + (l.drop i).sum = l.sum → 0 ≤ acc → prep_sum.l0 K acc l (l.length : Int) (i : Int) = some l.sum
 | 0, K, i, acc, hd, hi, hk, ha, h0 => by
  obtain ⟨K, rfl⟩ : ∃ m, K = m + 1 := ⟨K - 1, by omega⟩
  have e : i = l.length := by omega
  subst e
  simp only [prep_sum.l0]
  rw [if_neg (by omega)]
  rw [List.drop_length] at ha
  simpa using ha
 | d + 1, K, i, acc, hd, hi, hk, ha, h0 => by
  obtain ⟨K, rfl⟩ : ∃ m, K = m + 1 := ⟨K - 1, by omega⟩
  have hlt : i < l.length := by omega
  have hd' := drop_sum l i hlt
  have n2 : 0 ≤ (l.drop (i + 1)).sum := sum_nonneg _ (fun x hx => hb x (List.mem_of_mem_drop hx))
  have n1 : 0 ≤ l[i] := hb _ (List.getElem_mem hlt)
  have := prep_sum_run l hl hb hs d K (i + 1) (acc + l[i]) (by omega) (by omega) (by omega) (by omega) (by omega)
  simp only [prep_sum.l0]
  rw [if_pos (by omega), if_pos (by omega), if_pos (by omega), rd_at l i hlt, sw64 (by omega) (by omega), sw64 (x := (i : Int) + 1) (by omega) (by omega)]
  rwa [show ((i + 1 : Nat) : Int) = (i : Int) + 1 from by omega] at this
theorem prep_sum_eq {K : Nat} {l : List Int} (hl : l.length ≤ 1000000) (hk : l.length < K) (hb : ∀ x ∈ l, 0 ≤ x) (hs : l.sum ≤ 4611686018427387904) : prep_sum.f K l = some l.sum := by
 unfold prep_sum.f
 exact prep_sum_run l hl hb hs l.length K 0 0 (by omega) (by omega) hk (by simp) (by omega)

theorem pipe_sum_run (l : List Int) (hl : l.length ≤ 1000000) (hb : ∀ x ∈ l, 0 ≤ x) (hs : l.sum ≤ 4611686018427387904) : ∀ (d K i : Nat) (acc : Int), l.length - i = d → i ≤ l.length → d < K → acc + (l.drop i).sum = l.sum → 0 ≤ acc → pipe_sum.l0 K acc l (l.length : Int) (i : Int) = some l.sum
 | 0, K, i, acc, hd, hi, hk, ha, h0 => by
  obtain ⟨K, rfl⟩ : ∃ m, K = m + 1 := ⟨K - 1, by omega⟩
  have e : i = l.length := by omega
  subst e
  simp only [pipe_sum.l0]
  rw [if_neg (by omega)]
  rw [List.drop_length] at ha
  simpa using ha
 | d + 1, K, i, acc, hd, hi, hk, ha, h0 => by
  obtain ⟨K, rfl⟩ : ∃ m, K = m + 1 := ⟨K - 1, by omega⟩
  have hlt : i < l.length := by omega
  have hd' := drop_sum l i hlt
  have n2 : 0 ≤ (l.drop (i + 1)).sum := sum_nonneg _ (fun x hx => hb x (List.mem_of_mem_drop hx))
  have n1 : 0 ≤ l[i] := hb _ (List.getElem_mem hlt)
  have := pipe_sum_run l hl hb hs d K (i + 1) (acc + l[i]) (by omega) (by omega) (by omega) (by omega) (by omega)
  simp only [pipe_sum.l0]
  rw [if_pos (by omega), if_pos (by omega), if_pos (by omega), rd_at l i hlt, sw64 (by omega) (by omega), sw64 (x := (i : Int) + 1) (by omega) (by omega)]
  rwa [show ((i + 1 : Nat) : Int) = (i : Int) + 1 from by omega] at this
theorem pipe_sum_eq {K : Nat} {l : List Int} (hl : l.length ≤ 1000000) (hk : l.length < K) (hb : ∀ x ∈ l, 0 ≤ x) (hs : l.sum ≤ 4611686018427387904) : pipe_sum.f K l = some l.sum := by
 unfold pipe_sum.f
 exact pipe_sum_run l hl hb hs l.length K 0 0 (by omega) (by omega) hk (by simp) (by omega)

theorem chest_level_run (l : List Int) (hl : l.length ≤ 1000000) (hb : ∀ x ∈ l, 0 ≤ x) (hs : l.sum ≤ 4611686018427387904) : ∀ (d K i : Nat) (acc : Int), l.length - i = d → i ≤ l.length → d < K → acc + (l.drop i).sum = l.sum → 0 ≤ acc → chest_level.l0 K acc l (l.length : Int) (i : Int) = some l.sum
 | 0, K, i, acc, hd, hi, hk, ha, h0 => by
  obtain ⟨K, rfl⟩ : ∃ m, K = m + 1 := ⟨K - 1, by omega⟩
  have e : i = l.length := by omega
  subst e
  simp only [chest_level.l0]
  rw [if_neg (by omega)]
  rw [List.drop_length] at ha
  simpa using ha
 | d + 1, K, i, acc, hd, hi, hk, ha, h0 => by
  obtain ⟨K, rfl⟩ : ∃ m, K = m + 1 := ⟨K - 1, by omega⟩
  have hlt : i < l.length := by omega
  have hd' := drop_sum l i hlt
  have n2 : 0 ≤ (l.drop (i + 1)).sum := sum_nonneg _ (fun x hx => hb x (List.mem_of_mem_drop hx))
  have n1 : 0 ≤ l[i] := hb _ (List.getElem_mem hlt)
  have := chest_level_run l hl hb hs d K (i + 1) (acc + l[i]) (by omega) (by omega) (by omega) (by omega) (by omega)
  simp only [chest_level.l0]
  rw [if_pos (by omega), if_pos (by omega), if_pos (by omega), rd_at l i hlt, sw64 (by omega) (by omega), sw64 (x := (i : Int) + 1) (by omega) (by omega)]
  rwa [show ((i + 1 : Nat) : Int) = (i : Int) + 1 from by omega] at this
theorem chest_level_eq {K : Nat} {l : List Int} (hl : l.length ≤ 1000000) (hk : l.length < K) (hb : ∀ x ∈ l, 0 ≤ x) (hs : l.sum ≤ 4611686018427387904) : chest_level.f K l = some l.sum := by
 unfold chest_level.f
 exact chest_level_run l hl hb hs l.length K 0 0 (by omega) (by omega) hk (by simp) (by omega)

theorem fibre_sum_run (l : List Int) (hl : l.length ≤ 1000000) (hb : ∀ x ∈ l, 0 ≤ x) (hs : l.sum ≤ 4611686018427387904) : ∀ (d K i : Nat) (acc : Int), l.length - i = d → i ≤ l.length → d < K → acc + (l.drop i).sum = l.sum → 0 ≤ acc → fibre_sum.l0 K acc l (l.length : Int) (i : Int) = some l.sum
 | 0, K, i, acc, hd, hi, hk, ha, h0 => by
  obtain ⟨K, rfl⟩ : ∃ m, K = m + 1 := ⟨K - 1, by omega⟩
  have e : i = l.length := by omega
  subst e
  simp only [fibre_sum.l0]
  rw [if_neg (by omega)]
  rw [List.drop_length] at ha
  simpa using ha
 | d + 1, K, i, acc, hd, hi, hk, ha, h0 => by
  obtain ⟨K, rfl⟩ : ∃ m, K = m + 1 := ⟨K - 1, by omega⟩
  have hlt : i < l.length := by omega
  have hd' := drop_sum l i hlt
  have n2 : 0 ≤ (l.drop (i + 1)).sum := sum_nonneg _ (fun x hx => hb x (List.mem_of_mem_drop hx))
  have n1 : 0 ≤ l[i] := hb _ (List.getElem_mem hlt)
  have := fibre_sum_run l hl hb hs d K (i + 1) (acc + l[i]) (by omega) (by omega) (by omega) (by omega) (by omega)
  simp only [fibre_sum.l0]
  rw [if_pos (by omega), if_pos (by omega), if_pos (by omega), rd_at l i hlt, sw64 (by omega) (by omega), sw64 (x := (i : Int) + 1) (by omega) (by omega)]
  rwa [show ((i + 1 : Nat) : Int) = (i : Int) + 1 from by omega] at this
theorem fibre_sum_eq {K : Nat} {l : List Int} (hl : l.length ≤ 1000000) (hk : l.length < K) (hb : ∀ x ∈ l, 0 ≤ x) (hs : l.sum ≤ 4611686018427387904) : fibre_sum.f K l = some l.sum := by
 unfold fibre_sum.f
 exact fibre_sum_run l hl hb hs l.length K 0 0 (by omega) (by omega) hk (by simp) (by omega)

theorem papermilltop_grams_run (l : List Int) (hl : l.length ≤ 1000000) (hb : ∀ x ∈ l, 0 ≤ x) (hs : l.sum ≤ 4611686018427387904) : ∀ (d K i : Nat) (acc : Int), l.length - i = d → i ≤ l.length → d < K → acc + (l.drop i).sum = l.sum → 0 ≤ acc → papermilltop_grams.l0 K acc l (l.length : Int) (i : Int) = some l.sum
 | 0, K, i, acc, hd, hi, hk, ha, h0 => by
  obtain ⟨K, rfl⟩ : ∃ m, K = m + 1 := ⟨K - 1, by omega⟩
  have e : i = l.length := by omega
  subst e
  simp only [papermilltop_grams.l0]
  rw [if_neg (by omega)]
  rw [List.drop_length] at ha
  simpa using ha
 | d + 1, K, i, acc, hd, hi, hk, ha, h0 => by
  obtain ⟨K, rfl⟩ : ∃ m, K = m + 1 := ⟨K - 1, by omega⟩
  have hlt : i < l.length := by omega
  have hd' := drop_sum l i hlt
  have n2 : 0 ≤ (l.drop (i + 1)).sum := sum_nonneg _ (fun x hx => hb x (List.mem_of_mem_drop hx))
  have n1 : 0 ≤ l[i] := hb _ (List.getElem_mem hlt)
  have := papermilltop_grams_run l hl hb hs d K (i + 1) (acc + l[i]) (by omega) (by omega) (by omega) (by omega) (by omega)
  simp only [papermilltop_grams.l0]
  rw [if_pos (by omega), if_pos (by omega), if_pos (by omega), rd_at l i hlt, sw64 (by omega) (by omega), sw64 (x := (i : Int) + 1) (by omega) (by omega)]
  rwa [show ((i + 1 : Nat) : Int) = (i : Int) + 1 from by omega] at this
theorem papermilltop_grams_eq {K : Nat} {l : List Int} (hl : l.length ≤ 1000000) (hk : l.length < K) (hb : ∀ x ∈ l, 0 ≤ x) (hs : l.sum ≤ 4611686018427387904) : papermilltop_grams.f K l = some l.sum := by
 unfold papermilltop_grams.f
 exact papermilltop_grams_run l hl hb hs l.length K 0 0 (by omega) (by omega) hk (by simp) (by omega)

/-- Masses of n kinds. -/
def partsOk (m : List Int) (n : Int) : Prop := (1 ≤ n ∧ n ≤ 8) ∧ (m.length : Int) = n ∧ ∀ x ∈ m, 0 ≤ x ∧ x ≤ 1099511627776
theorem listed_eq (m : List Int) (n : Int) : fibre_listed.f m n = some (decide ((1 ≤ n ∧ n ≤ 8) ∧ (m.length : Int) = n)) := by
 unfold fibre_listed.f
 by_cases h1 : n ≥ 1
 ·rw [if_pos h1]
  by_cases h2 : n ≤ 8
  ·rw [if_pos h2]
   congr 1
   rw [show ((m.length : Int) == n) = decide ((m.length : Int) = n) from rfl]
   congr 1
   exact propext ⟨fun h => ⟨⟨h1, h2⟩, h⟩, fun h => h.2⟩
  ·rw [if_neg h2, decide_eq_false (fun h => h2 h.1.2)]
 ·rw [if_neg h1, decide_eq_false (fun h => h1 h.1.1)]
theorem within_iff (m : List Int) (a : Int) : (m.all fun x => decide (0 ≤ x ∧ x ≤ a)) = true ↔ ∀ x ∈ m, 0 ≤ x ∧ x ≤ a := by
 rw [List.all_eq_true]; simp
theorem parts_any (m : List Int) (n : Int) : ∃ q, fibre_Parts.f m n = some q ∧ (q = 0 ↔ partsOk m n) := by
 unfold fibre_Parts.f partsOk
 rw [listed_eq, Option.bind_some]
 by_cases h1 : (1 ≤ n ∧ n ≤ 8) ∧ (m.length : Int) = n
 ·rw [if_pos (decide_eq_true h1)]
  show ∃ q, ((some (m.all fun x => decide (0 ≤ x ∧ x ≤ 1099511627776))).bind _) = some q ∧ _
  rw [Option.bind_some]
  by_cases h2 : (m.all fun x => decide (0 ≤ x ∧ x ≤ 1099511627776)) = true
  ·rw [if_pos h2]; exact ⟨0, rfl, fun _ => ⟨h1.1, h1.2, (within_iff m _).1 h2⟩, fun _ => rfl⟩
  ·rw [if_neg h2]; exact ⟨1, rfl, fun h => absurd h (by decide), fun h => absurd ((within_iff m _).2 h.2.2) h2⟩
 ·rw [if_neg (by rw [decide_eq_false h1]; decide)]
  exact ⟨17, rfl, fun h => absurd h (by decide), fun h => absurd ⟨h.1, h.2.1⟩ h1⟩
theorem parts_good {m : List Int} {n : Int} (h : partsOk m n) : fibre_Parts.f m n = some 0 := by
 obtain ⟨q, hq, hi⟩ := parts_any m n
 rw [hq, hi.2 h]
theorem sum_le_mul (B : Int) : ∀ l : List Int, (∀ x ∈ l, x ≤ B) → l.sum ≤ l.length * B
 | [], _ => by simp
 | x :: l, h => by
  have h1 := h x (by simp); have h2 := sum_le_mul B l (fun y hy => h y (by simp [hy]))
  simp only [List.sum_cons, List.length_cons]
  rw [show (((l.length + 1 : Nat) : Int)) * B = l.length * B + B from by rw [Int.natCast_add, Int.add_mul]; simp]
  omega
theorem parts_sum {m : List Int} {n : Int} (h : partsOk m n) : 0 ≤ m.sum ∧ m.sum ≤ 8796093022208 := by
 obtain ⟨h1, h2, h3⟩ := h
 refine ⟨sum_nonneg _ (fun x hx => (h3 x hx).1), ?_⟩
 have := sum_le_mul 1099511627776 m (fun x hx => (h3 x hx).2)
 have : (m.length : Int) ≤ 8 := by omega
 omega

/-- The first i elements are changed. -/
def upd (f : Int → Int → Int) (a b : List Int) (i : Nat) : List Int := (List.zipWith f a b).take i ++ a.drop i
theorem upd_zero (f : Int → Int → Int) (a b : List Int) : upd f a b 0 = a := by simp [upd]
theorem upd_full (f : Int → Int → Int) (a b : List Int) (h : a.length = b.length) : upd f a b a.length = List.zipWith f a b := by
 unfold upd; rw [List.drop_length, List.append_nil, List.take_of_length_le (by simp [h])]
theorem upd_len (f : Int → Int → Int) (a b : List Int) (h : a.length = b.length) (i : Nat) (hi : i ≤ a.length) : (upd f a b i).length = a.length := by
 unfold upd; simp [List.length_zipWith]; omega
theorem upd_at (f : Int → Int → Int) (a b : List Int) (h : a.length = b.length) (i : Nat) (hi : i < a.length) : rd (upd f a b i) (i : Int) = a[i] := by
 unfold rd upd
 rw [Int.toNat_natCast, List.getD_eq_getElem?_getD, List.getElem?_append_right (by simp [List.length_zipWith]; omega)]
 simp only [List.length_take, List.length_zipWith, List.getElem?_drop]
 rw [show i + (i - min i (min a.length b.length)) = i from by omega, List.getElem?_eq_getElem hi]; rfl
theorem upd_step (f : Int → Int → Int) (a b : List Int) (h : a.length = b.length) (i : Nat) (hi : i < a.length) : (upd f a b i).set i (f a[i] (b[i]'(h ▸ hi))) = upd f a b (i + 1) := by
 unfold upd
 have hz : i < (List.zipWith f a b).length := by simp [List.length_zipWith]; omega
 rw [List.drop_eq_getElem_cons hi, List.take_succ_eq_append_getElem hz, List.set_append_right _ _ (by simp [List.length_zipWith]; omega)]
 simp only [List.length_take, List.length_zipWith]
 rw [show i - min i (min a.length b.length) = 0 from by omega, List.set_cons_zero, List.append_assoc]
 simp
/-- A list that is changed element by element, whatever the round's own spelling. -/
theorem run_zip (f : Int → Int → Int) (F : List Int → Nat → Int) (a b : List Int) (h : a.length = b.length) (g : Nat → List Int) (g0 : g 0 = a) (gs : ∀ i, g (i + 1) = (g i).set i (F (g i) i)) (hF : ∀ i (hi : i < a.length) (l : List Int), rd l (i : Int) = a[i] → F l i = f a[i] (b[i]'(h ▸ hi))) : g a.length = List.zipWith f a b := by
 have : ∀ i, i ≤ a.length → g i = upd f a b i := by
  intro i
  induction i with
  | zero => intro _; rw [g0, upd_zero]
  | succ i ih =>
   intro hi
   rw [gs, ih (by omega), hF i (by omega) _ (upd_at f a b h i (by omega)), upd_step f a b h i (by omega)]
 rw [this _ (Nat.le_refl _), upd_full f a b h]
def vadd (a b : List Int) : List Int := List.zipWith (· + ·) a b
def vsub (a b : List Int) : List Int := List.zipWith (· - ·) a b
theorem vadd_len {a b : List Int} (h : a.length = b.length) : (vadd a b).length = a.length := by simp [vadd, h]
theorem vsub_len {a b : List Int} (h : a.length = b.length) : (vsub a b).length = a.length := by simp [vsub, h]
theorem vadd_at (a b : List Int) (h : a.length = b.length) (k : Nat) : (vadd a b).getD k 0 = a.getD k 0 + b.getD k 0 := by
 unfold vadd
 simp only [List.getD_eq_getElem?_getD, List.getElem?_zipWith]
 by_cases hk : k < a.length
 ·rw [List.getElem?_eq_getElem hk, List.getElem?_eq_getElem (h ▸ hk)]; rfl
 ·rw [List.getElem?_eq_none (by omega), List.getElem?_eq_none (by omega)]; rfl
theorem vsub_at (a b : List Int) (h : a.length = b.length) (k : Nat) : (vsub a b).getD k 0 = a.getD k 0 - b.getD k 0 := by
 unfold vsub
 simp only [List.getD_eq_getElem?_getD, List.getElem?_zipWith]
 by_cases hk : k < a.length
 ·rw [List.getElem?_eq_getElem hk, List.getElem?_eq_getElem (h ▸ hk)]; rfl
 ·rw [List.getElem?_eq_none (by omega), List.getElem?_eq_none (by omega)]; rfl
theorem vadd_sum : ∀ (a b : List Int), a.length = b.length → (vadd a b).sum = a.sum + b.sum
 | [], [], _ => rfl
 | x :: a, y :: b, h => by
  have := vadd_sum a b (by simpa using h)
  unfold vadd at this ⊢
  simp only [List.zipWith_cons_cons, List.sum_cons, this]; omega
theorem vsub_sum : ∀ (a b : List Int), a.length = b.length → (vsub a b).sum = a.sum - b.sum
 | [], [], _ => rfl
 | x :: a, y :: b, h => by
  have := vsub_sum a b (by simpa using h)
  unfold vsub at this ⊢
  simp only [List.zipWith_cons_cons, List.sum_cons, this]; omega
theorem mem_zip {f : Int → Int → Int} {a b : List Int} {x : Int} (hx : x ∈ List.zipWith f a b) : ∃ i, ∃ (h1 : i < a.length) (h2 : i < b.length), x = f a[i] b[i] := by
 obtain ⟨i, hi, e⟩ := List.mem_iff_getElem.1 hx
 rw [List.length_zipWith] at hi
 exact ⟨i, by omega, by omega, by rw [← e, List.getElem_zipWith]⟩
/-- Elements that no sum of 64 bits carries away. -/
def fits (l : List Int) : Prop := ∀ x ∈ l, -2305843009213693952 ≤ x ∧ x ≤ 2305843009213693952
theorem fits_of {l : List Int} {B : Int} (h : ∀ x ∈ l, 0 ≤ x ∧ x ≤ B) (hB : B ≤ 2305843009213693952) : fits l := fun x hx => by have := h x hx; omega
theorem lvL_eq {a b : List Int} (h : a.length = b.length) (ha : fits a) (hb : fits b) : lvL a b b.length = vadd a b := by
 rw [← h]
 refine run_zip (· + ·) (fun l i => wrap64 (rd l (i : Int) + rd b (i : Int))) a b h (lvL a b) rfl (fun _ => rfl) (fun i hi l e => ?_)
 have h1 := ha _ (List.getElem_mem hi); have h2 := hb _ (List.getElem_mem (h ▸ hi))
 simp only [e, rd_at b i (h ▸ hi)]; rw [sw64 (by omega) (by omega)]
theorem rsTo_eq {a b : List Int} (h : a.length = b.length) (ha : fits a) (hb : fits b) : rsTo a b a.length = vsub a b := by
 refine run_zip (· - ·) (fun l i => wrap64 (rd l (i : Int) - rd b (i : Int))) a b h (rsTo a b) rfl (fun _ => rfl) (fun i hi l e => ?_)
 have h1 := ha _ (List.getElem_mem hi); have h2 := hb _ (List.getElem_mem (h ▸ hi))
 simp only [e, rd_at b i (h ▸ hi)]; rw [sw64 (by omega) (by omega)]
theorem outTo_eq {a b : List Int} (h : a.length = b.length) (ha : fits a) (hb : fits b) : outTo a b a.length = vsub a b := by
 refine run_zip (· - ·) (fun l i => wrap64 (rd l (i : Int) - rd b (i : Int))) a b h (outTo a b) rfl (fun _ => rfl) (fun i hi l e => ?_)
 have h1 := ha _ (List.getElem_mem hi); have h2 := hb _ (List.getElem_mem (h ▸ hi))
 simp only [e, rd_at b i (h ▸ hi)]; rw [sw64 (by omega) (by omega)]
theorem chg_add {a b : List Int} (h : a.length = b.length) (ha : fits a) (hb : fits b) : chgTo a b 1 b.length = vadd a b := by
 rw [← h]
 refine run_zip (· + ·) (fun l i => wrap64 (rd l i + wrap64 (1 * rd b i))) a b h (chgTo a b 1) rfl (fun _ => rfl) (fun i hi l e => ?_)
 have h1 := ha _ (List.getElem_mem hi); have h2 := hb _ (List.getElem_mem (h ▸ hi))
 simp only [e, rd_at b i (h ▸ hi)]; rw [sw64 (x := 1 * _) (by omega) (by omega), sw64 (by omega) (by omega)]; omega
theorem chg_sub {a b : List Int} (h : a.length = b.length) (ha : fits a) (hb : fits b) : chgTo a b (-1) b.length = vsub a b := by
 rw [← h]
 refine run_zip (· - ·) (fun l i => wrap64 (rd l i + wrap64 (-1 * rd b i))) a b h (chgTo a b (-1)) rfl (fun _ => rfl) (fun i hi l e => ?_)
 have h1 := ha _ (List.getElem_mem hi); have h2 := hb _ (List.getElem_mem (h ▸ hi))
 simp only [e, rd_at b i (h ▸ hi)]; rw [sw64 (x := -1 * _) (by omega) (by omega), sw64 (by omega) (by omega)]; omega
theorem lvM_eq (mis : Int) (b : List Int) (h0 : -4611686018427387904 ≤ mis ∧ mis ≤ 4611686018427387904) (hb : ∀ x ∈ b, 0 ≤ x) (hs : b.sum ≤ 4611686018427387904) : lvM mis b b.length = mis - b.sum := by
 have : ∀ i, i ≤ b.length → lvM mis b i = mis - (b.take i).sum := by
  intro i
  induction i with
  | zero => intro _; simp [lvM]
  | succ i ih =>
   intro hi
   have hlt : i < b.length := by omega
   have e1 : (b.take (i + 1)).sum = (b.take i).sum + b[i] := by rw [List.take_succ_eq_append_getElem hlt, List.sum_append, List.sum_cons, List.sum_nil]; omega
   have e2 := sum_take_drop b (i + 1)
   have n1 : 0 ≤ (b.take i).sum := sum_nonneg _ (fun x hx => hb x (List.mem_of_mem_take hx))
   have n2 : 0 ≤ (b.drop (i + 1)).sum := sum_nonneg _ (fun x hx => hb x (List.mem_of_mem_drop hx))
   have n3 : 0 ≤ b[i] := hb _ (List.getElem_mem hlt)
   simp only [lvM]
   rw [ih (by omega), rd_at b i hlt, sw64 (by omega) (by omega), e1]; omega
 rw [this _ (Nat.le_refl _), List.take_length]

theorem prep_add_run (b : List Int) (f : Int → Int → Int) (a : List Int) (h : a.length = b.length) (hl : a.length ≤ 1000000) (hF : ∀ i (hi : i < a.length), wrap64 (a[i] + b[i]'(h ▸ hi)) = f a[i] (b[i]'(h ▸ hi))) : ∀ (d K i : Nat), a.length - i = d → i ≤ a.length → d < K → prep_add.l0 K (upd f a b i) b (b.length : Int) (i : Int) = some (List.zipWith f a b)
 | 0, K, i, hd, hi, hk => by
  obtain ⟨K, rfl⟩ : ∃ m, K = m + 1 := ⟨K - 1, by omega⟩
  have e : i = a.length := by omega
  subst e
  simp only [prep_add.l0]
  rw [if_neg (by omega), upd_full f a b h]
 | d + 1, K, i, hd, hi, hk => by
  obtain ⟨K, rfl⟩ : ∃ m, K = m + 1 := ⟨K - 1, by omega⟩
  have hlt : i < a.length := by omega
  have := prep_add_run b f a h hl hF d K (i + 1) (by omega) (by omega) (by omega)
  have hul := upd_len f a b h i (by omega)
  simp only [prep_add.l0]
  rw [if_pos (by omega), if_pos (by omega), if_pos (by omega), if_pos (by omega), Int.toNat_natCast, upd_at f a b h i hlt, rd_at b i (h ▸ hlt), hF i hlt, upd_step f a b h i hlt, sw64 (x := (i : Int) + 1) (by omega) (by omega)]
  rwa [show ((i + 1 : Nat) : Int) = (i : Int) + 1 from by omega] at this

theorem papermilltop_more_run (b : List Int) (f : Int → Int → Int) (a : List Int) (h : a.length = b.length) (hl : a.length ≤ 1000000) (s : Int) (hF : ∀ i (hi : i < a.length), wrap64 (a[i] + wrap64 (s * b[i]'(h ▸ hi))) = f a[i] (b[i]'(h ▸ hi))) : ∀ (d K i : Nat), a.length - i = d → i ≤ a.length → d < K → papermilltop_more.l0 K (upd f a b i) b s (b.length : Int) (i : Int) = some (true, List.zipWith f a b)
 | 0, K, i, hd, hi, hk => by
  obtain ⟨K, rfl⟩ : ∃ m, K = m + 1 := ⟨K - 1, by omega⟩
  have e : i = a.length := by omega
  subst e
  simp only [papermilltop_more.l0]
  rw [if_neg (by omega), upd_full f a b h]
 | d + 1, K, i, hd, hi, hk => by
  obtain ⟨K, rfl⟩ : ∃ m, K = m + 1 := ⟨K - 1, by omega⟩
  have hlt : i < a.length := by omega
  have := papermilltop_more_run b f a h hl s hF d K (i + 1) (by omega) (by omega) (by omega)
  have hul := upd_len f a b h i (by omega)
  simp only [papermilltop_more.l0]
  rw [if_pos (by omega), if_pos (by omega), if_pos (by omega), if_pos (by omega), Int.toNat_natCast, upd_at f a b h i hlt, rd_at b i (h ▸ hlt), hF i hlt, upd_step f a b h i hlt, sw64 (x := (i : Int) + 1) (by omega) (by omega)]
  rwa [show ((i + 1 : Nat) : Int) = (i : Int) + 1 from by omega] at this

theorem add_eq {K : Nat} {a b : List Int} (h : a.length = b.length) (hl : a.length ≤ 1000000) (hk : a.length < K) (ha : fits a) (hb : fits b) : prep_add.f K a b = some (vadd a b) := by
 have := prep_add_run b (· + ·) a h hl (fun i hi => by have h1 := ha _ (List.getElem_mem hi); have h2 := hb _ (List.getElem_mem (h ▸ hi)); exact sw64 (by omega) (by omega)) a.length K 0 (by omega) (by omega) hk
 rw [upd_zero] at this
 exact this
theorem more_add {K : Nat} {a b : List Int} (h : a.length = b.length) (hl : a.length ≤ 1000000) (hk : a.length < K) (ha : fits a) (hb : fits b) : papermilltop_more.f K a b 1 = some (true, vadd a b) := by
 have := papermilltop_more_run b (· + ·) a h hl 1 (fun i hi => by have h1 := ha _ (List.getElem_mem hi); have h2 := hb _ (List.getElem_mem (h ▸ hi)); rw [sw64 (x := 1 * _) (by omega) (by omega), sw64 (by omega) (by omega)]; omega) a.length K 0 (by omega) (by omega) hk
 rw [upd_zero] at this
 unfold papermilltop_more.f
 rw [if_pos (by omega)]; exact this
theorem more_sub {K : Nat} {a b : List Int} (h : a.length = b.length) (hl : a.length ≤ 1000000) (hk : a.length < K) (ha : fits a) (hb : fits b) : papermilltop_more.f K a b (-1) = some (true, vsub a b) := by
 have := papermilltop_more_run b (· - ·) a h hl (-1) (fun i hi => by have h1 := ha _ (List.getElem_mem hi); have h2 := hb _ (List.getElem_mem (h ▸ hi)); rw [sw64 (x := -1 * _) (by omega) (by omega), sw64 (by omega) (by omega)]; omega) a.length K 0 (by omega) (by omega) hk
 rw [upd_zero] at this
 unfold papermilltop_more.f
 rw [if_pos (by omega)]; exact this
end Go.Proofs.Ytgbjlcaanagfnaa.P

namespace Go.Proofs.Ytgbjlcaanagfnaa.P
open Go.RowKit Go.Proofs.YtgbjlcaanagfnaaW.PrintWords Go.Proofs.YtgbjlcaanagfnaaW.PrintLast
set_option linter.unusedVariables false
set_option linter.unusedSimpArgs false

def chestOk (n : Nat) (c : S56) : Prop := (1 ≤ c.f0 ∧ c.f0 ≤ 1099511627776) ∧ c.f1.length = n ∧ (∀ x ∈ c.f1, 0 ≤ x) ∧ c.f1.sum ≤ c.f0
def plugOk (n : Nat) (q : List Int) : Prop := q.length = n ∧ (∀ x ∈ q, 0 ≤ x) ∧ 0 < q.sum
theorem le_sum {l : List Int} (h : ∀ x ∈ l, 0 ≤ x) {B : Int} (hB : l.sum ≤ B) : ∀ x ∈ l, 0 ≤ x ∧ x ≤ B := fun x hx => ⟨h x hx, Int.le_trans (mem_le_sum l h x hx) hB⟩
theorem parts_of {l : List Int} {n : Nat} (hn : 1 ≤ n ∧ n ≤ 8) (hl : l.length = n) (h : ∀ x ∈ l, 0 ≤ x) (hs : l.sum ≤ 1099511627776) : partsOk l (n : Int) := ⟨by omega, by omega, le_sum h hs⟩
theorem chest_check {K : Nat} (hK : 1000 ≤ K) {n : Nat} (hn : 1 ≤ n ∧ n ≤ 8) {c : S56} (h : chestOk n c) : chest_Check.f K c.f0 c.f1 = some 0 := by
 obtain ⟨⟨h1, h2⟩, h3, h4, h5⟩ := h
 obtain ⟨K, rfl⟩ : ∃ m, K = m + 1 := ⟨K - 1, by omega⟩
 unfold chest_Check.f
 rw [if_neg (by omega), decide_eq_false (by omega)]
 simp only [chest_Check.j0]
 rw [if_neg (by decide), h3, parts_good (parts_of hn h3 h4 (by omega)), Option.bind_some, if_pos rfl, chest_level_eq (by omega) (by omega) h4 (by omega), Option.bind_some, if_neg (by omega)]
theorem good_of {t : Int} {l : List Int} {n : Nat} (hn : 1 ≤ n ∧ n ≤ 8) (hl : l.length = n) (h : ∀ x ∈ l, 0 ≤ x) (hs : l.sum ≤ 1099511627776) (h0 : 0 ≤ t) (ht : t ≤ l.sum) : goodW t l :=
 ⟨h0, by omega, by omega, by omega, fun x hx => by have := le_sum h hs x hx; omega, by omega, fun e => by omega⟩
theorem getD_mem {l : List Int} {i : Nat} (h : i < l.length) : l.getD i 0 = l[i] := by rw [List.getD_eq_getElem?_getD, List.getElem?_eq_getElem h]; rfl
theorem split_nn {t : Int} {l : List Int} (h : goodW t l) : ∀ x ∈ splitL t l, 0 ≤ x := fun x hx => by
 obtain ⟨i, hi, rfl⟩ := List.mem_iff_getElem.1 hx
 rw [← getD_mem hi]; exact split_nonneg h i
theorem sub_nn {t : Int} {l : List Int} (h : goodW t l) (ht : t ≤ l.sum) : ∀ x ∈ vsub l (splitL t l), 0 ≤ x := fun x hx => by
 obtain ⟨i, h1, h2, rfl⟩ := mem_zip hx
 have := split_le h ht i h1
 rw [getD_mem h1, getD_mem h2] at this
 show 0 ≤ _ - _
 omega
theorem sub_nn2 {a b : List Int} (h : a.length = b.length) (hle : ∀ k, b.getD k 0 ≤ a.getD k 0) : ∀ x ∈ vsub a b, 0 ≤ x := fun x hx => by
 obtain ⟨i, h1, h2, rfl⟩ := mem_zip hx
 have := hle i
 rw [getD_mem h1, getD_mem h2] at this
 show 0 ≤ _ - _
 omega
theorem changed_eq {c0 : Int} {l m : List Int} {n : Nat} (hn : 1 ≤ n ∧ n ≤ 8) (hl : l.length = n) (hm : m.length = n) (s : Int) : chest_changed.f c0 l m s = some (c0, chgTo l m s m.length) := by
 unfold chest_changed.f; rw [if_pos (by omega)]
theorem fits_sum {l : List Int} (h : ∀ x ∈ l, 0 ≤ x) (hs : l.sum ≤ 2305843009213693952) : fits l := fits_of (le_sum h hs) (Int.le_refl _)
theorem draw_eq {K : Nat} (hK : 1000 ≤ K) {n : Nat} (hn : 1 ≤ n ∧ n ≤ 8) {c : S56} (h : chestOk n c) {mass : Int} (hm : 1 ≤ mass ∧ mass ≤ 1099511627776) :
  chest_Draw.f K c.f0 c.f1 mass = some (if c.f1.sum < mass then (0, [], [], 19) else (c.f0, vsub c.f1 (splitL mass c.f1), splitL mass c.f1, 0)) := by
 have hc := chest_check hK hn h
 obtain ⟨⟨h1, h2⟩, h3, h4, h5⟩ := h
 unfold chest_Draw.f
 obtain ⟨K, rfl⟩ : ∃ m, K = m + 1 := ⟨K - 1, by omega⟩
 rw [hc, Option.bind_some, if_pos rfl, if_neg (by omega), decide_eq_false (by omega)]
 simp only [chest_Draw.j0]
 rw [if_neg (by decide), chest_level_eq (by omega) (by omega) h4 (by omega), Option.bind_some]
 by_cases hlt : c.f1.sum < mass
 ·rw [if_pos hlt, if_pos hlt]
 ·rw [if_neg hlt, if_neg hlt]
  have hg := good_of (t := mass) hn h3 h4 (by omega) (by omega) (by omega)
  unfold share_Split.f
  rw [if_pos hg, Option.bind_some, if_pos rfl, changed_eq hn h3 (by rw [split_len]; exact h3), Option.bind_some]
  rw [chg_sub (by rw [split_len]) (fits_sum h4 (by omega)) (fits_sum (split_nn hg) (by rw [split_sum hg]; omega))]
theorem fill_any {K : Nat} (hK : 1000 ≤ K) {n : Nat} (hn : 1 ≤ n ∧ n ≤ 8) {c : S56} (h : chestOk n c) (m : List Int) :
  ∃ r1 r2 r3, chest_Fill.f K c.f0 c.f1 m = some (r1, r2, r3) ∧ (r3 = 0 → partsOk m n ∧ r1 = c.f0 ∧ r2 = vadd c.f1 m ∧ c.f1.sum + m.sum ≤ c.f0) := by
 have hc := chest_check hK hn h
 obtain ⟨⟨h1, h2⟩, h3, h4, h5⟩ := h
 unfold chest_Fill.f
 rw [hc, Option.bind_some, if_pos rfl, h3]
 obtain ⟨q, hq, hqi⟩ := parts_any m n
 rw [hq, Option.bind_some]
 by_cases hq0 : q = 0
 ·have hp := hqi.1 hq0
  have hps := parts_sum hp
  have hml : m.length = n := by have := hp.2.1; omega
  have h6 := sum_nonneg _ h4
  rw [if_pos hq0, chest_level_eq (by omega) (by omega) h4 (by omega), Option.bind_some, chest_level_eq (by omega) (by omega) (fun x hx => (hp.2.2 x hx).1) (by omega), Option.bind_some, sw64 (by omega) (by omega)]
  by_cases hov : c.f1.sum + m.sum > c.f0
  ·rw [if_pos hov]; exact ⟨_, _, _, rfl, fun h => absurd h (by decide)⟩
  ·rw [if_neg hov, changed_eq hn h3 hml, Option.bind_some]
   exact ⟨_, _, _, rfl, fun _ => ⟨hp, rfl, chg_add (by omega) (fits_sum h4 (by omega)) (fits_of hp.2.2 (by omega)), by omega⟩⟩
 ·rw [if_neg hq0]; exact ⟨_, _, _, rfl, fun h => absurd h hq0⟩
theorem chest_filled {n : Nat} {c : S56} (h : chestOk n c) {m : List Int} (hp : partsOk m n) (hs : c.f1.sum + m.sum ≤ c.f0) : chestOk n ⟨c.f0, vadd c.f1 m⟩ := by
 obtain ⟨h1, h3, h4, h5⟩ := h
 have hml : c.f1.length = m.length := by have := hp.2.1; omega
 refine ⟨h1, by show (vadd _ _).length = n; rw [vadd_len hml]; exact h3, fun x hx => ?_, by show (vadd _ _).sum ≤ c.f0; rw [vadd_sum _ _ hml]; exact hs⟩
 obtain ⟨i, i1, i2, rfl⟩ := mem_zip hx
 have a1 := h4 _ (List.getElem_mem i1); have a2 := (hp.2.2 _ (List.getElem_mem i2)).1
 show 0 ≤ _ + _
 omega
theorem chest_drawn {n : Nat} (hn : 1 ≤ n ∧ n ≤ 8) {c : S56} (h : chestOk n c) {mass : Int} (h0 : 1 ≤ mass) (hs : mass ≤ c.f1.sum) : chestOk n ⟨c.f0, vsub c.f1 (splitL mass c.f1)⟩ ∧ plugOk n (splitL mass c.f1) ∧ (splitL mass c.f1).sum = mass := by
 obtain ⟨h1, h3, h4, h5⟩ := h
 have hg := good_of (t := mass) hn h3 h4 (by omega) (by omega) hs
 have hl : c.f1.length = (splitL mass c.f1).length := by rw [split_len]
 have hss := split_sum hg
 exact ⟨⟨h1, by show (vsub _ _).length = n; rw [vsub_len hl]; exact h3, sub_nn hg hs, by show (vsub _ _).sum ≤ c.f0; rw [vsub_sum _ _ hl, hss]; omega⟩, ⟨by rw [← hl]; exact h3, split_nn hg, by omega⟩, hss⟩

/-! The pipe. -/
theorem map_sum_nn (f : List Int → Int) : ∀ l : List (List Int), (∀ q ∈ l, 0 ≤ f q) → 0 ≤ (l.map f).sum
 | [], _ => by simp
 | q :: l, h => by
  have := h q (by simp); have := map_sum_nn f l (fun y hy => h y (by simp [hy]))
  simp only [List.map_cons, List.sum_cons]; omega
theorem map_sum_le (f : List Int → Int) : ∀ l : List (List Int), (∀ q ∈ l, 0 ≤ f q) → ∀ q ∈ l, f q ≤ (l.map f).sum
 | [], _, q, h => by simp at h
 | y :: l, hp, q, h => by
  have h1 := map_sum_nn f l (fun z hz => hp z (by simp [hz]))
  have h2 := hp y (by simp)
  simp only [List.map_cons, List.sum_cons]
  rcases List.mem_cons.1 h with rfl | h
  ·omega
  ·have := map_sum_le f l (fun z hz => hp z (by simp [hz])) q h; omega
theorem rdL1_at (l : List (List Int)) (i : Nat) (h : i < l.length) : rd_L1 l (i : Int) = l[i] := by
 unfold rd_L1; rw [Int.toNat_natCast, List.getD_eq_getElem?_getD, List.getElem?_eq_getElem h]; rfl
structure PipeOk (n : Nat) (hold : Int) (l : List (List Int)) : Prop where
 n1 : 1 ≤ n ∧ n ≤ 8
 h1 : 1 ≤ hold ∧ hold ≤ 1099511627776
 len : 1 ≤ l.length ∧ l.length ≤ 256
 ok : ∀ q ∈ l, plugOk n q
 tot : (l.map List.sum).sum = hold
theorem PipeOk.le {n : Nat} {hold : Int} {l : List (List Int)} (h : PipeOk n hold l) : ∀ q ∈ l, q.sum ≤ 1099511627776 := fun q hq => by
 have := map_sum_le List.sum l (fun y hy => by have := (h.ok y hy).2.2; omega) q hq
 have := h.tot; have := h.h1; omega
theorem pipe_check_run {n : Nat} {hold : Int} {l : List (List Int)} (h : PipeOk n hold l) : ∀ (d K i : Nat) (acc : Int), l.length - i = d → i ≤ l.length → d + 20 < K → acc + ((l.drop i).map List.sum).sum = hold → 0 ≤ acc → pipe_Check.l0 K acc l (l.length : Int) (i : Int) hold l = some 0
 | 0, K, i, acc, hd, hi, hk, ha, h0 => by
  obtain ⟨K, rfl⟩ : ∃ m, K = m + 1 := ⟨K - 1, by omega⟩
  have e : i = l.length := by omega
  subst e
  simp only [pipe_Check.l0]
  rw [if_neg (by omega), if_pos (by rw [List.drop_length] at ha; simpa using ha)]
 | d + 1, K, i, acc, hd, hi, hk, ha, h0 => by
  obtain ⟨K, rfl⟩ : ∃ m, K = m + 1 := ⟨K - 1, by omega⟩
  have hlt : i < l.length := by omega
  have hq := h.ok _ (List.getElem_mem hlt)
  have hle := h.le _ (List.getElem_mem hlt)
  have hn := h.n1
  have hlen := h.len
  have hh := h.h1
  have hz := h.ok _ (List.getElem_mem (show 0 < l.length by omega))
  rw [List.drop_eq_getElem_cons hlt, List.map_cons, List.sum_cons] at ha
  have n2 : 0 ≤ ((l.drop (i + 1)).map List.sum).sum := map_sum_nn _ _ (fun q hq => by have := (h.ok q (List.mem_of_mem_drop hq)).2.2; omega)
  have := pipe_check_run h d K (i + 1) (acc + l[i].sum) (by omega) (by omega) (by omega) (by omega) (by have := hq.2.2; omega)
  simp only [pipe_Check.l0]
  have e0 := rdL1_at l 0 (by omega)
  rw [show ((0 : Nat) : Int) = 0 from rfl] at e0
  rw [if_pos (by omega), if_pos (by omega), if_pos (by omega), if_pos (by omega), rdL1_at l i hlt, e0, hz.1, parts_good (parts_of hn hq.1 hq.2.1 hle), Option.bind_some, if_pos rfl, pipe_sum_eq (by have := hq.1; omega) (by have := hq.1; omega) hq.2.1 (by omega), Option.bind_some, if_neg (by have := hq.2.2; omega), Option.bind_some, sw64 (by have := hq.2.2; omega) (by omega), sw64 (x := (i : Int) + 1) (by omega) (by omega)]
  rwa [show ((i + 1 : Nat) : Int) = (i : Int) + 1 from by omega] at this
theorem pipe_check {K : Nat} (hK : 1000 ≤ K) {n : Nat} {hold : Int} {l : List (List Int)} (h : PipeOk n hold l) : pipe_Check.f K hold l = some 0 := by
 obtain ⟨K, rfl⟩ : ∃ m, K = m + 1 := ⟨K - 1, by omega⟩
 have hh := h.h1
 have hl := h.len
 unfold pipe_Check.f
 rw [if_neg (by omega), decide_eq_false (by omega)]
 simp only [pipe_Check.j0]
 rw [if_neg (by decide), if_neg (by omega), if_neg (by omega)]
 exact pipe_check_run h l.length K 0 0 (by omega) (by omega) (by omega) (by rw [List.drop_zero, h.tot]; omega) (by omega)
/-- The content of a pipe. -/
def vtot (n : Nat) (l : List (List Int)) : List Int := l.foldl vadd (List.replicate n 0)
theorem vfold_at (k : Nat) : ∀ (l : List (List Int)) (a : List Int), (∀ q ∈ l, q.length = a.length) → (l.foldl vadd a).length = a.length ∧ (l.foldl vadd a).getD k 0 = a.getD k 0 + (l.map fun q => q.getD k 0).sum
 | [], a, _ => by simp
 | q :: l, a, h => by
  have h1 : a.length = q.length := (h q (by simp)).symm
  have h2 := vfold_at k l (vadd a q) (fun y hy => by rw [vadd_len h1]; exact h y (by simp [hy]))
  simp only [List.foldl_cons, List.map_cons, List.sum_cons]
  rw [vadd_len h1, vadd_at a q h1 k] at h2
  exact ⟨h2.1, by rw [h2.2]; omega⟩
theorem vfold_sum : ∀ (l : List (List Int)) (a : List Int), (∀ q ∈ l, q.length = a.length) → (l.foldl vadd a).sum = a.sum + (l.map List.sum).sum
 | [], a, _ => by simp
 | q :: l, a, h => by
  have h1 : a.length = q.length := (h q (by simp)).symm
  have h2 := vfold_sum l (vadd a q) (fun y hy => by rw [vadd_len h1]; exact h y (by simp [hy]))
  simp only [List.foldl_cons, List.map_cons, List.sum_cons]
  rw [h2, vadd_sum a q h1]; omega
theorem vfold_nn : ∀ (l : List (List Int)) (a : List Int), (∀ q ∈ l, ∀ x ∈ q, 0 ≤ x) → (∀ x ∈ a, 0 ≤ x) → ∀ x ∈ l.foldl vadd a, 0 ≤ x
 | [], a, _, ha => ha
 | q :: l, a, h, ha => vfold_nn l (vadd a q) (fun y hy => h y (by simp [hy])) (fun x hx => by
  obtain ⟨i, i1, i2, rfl⟩ := mem_zip hx
  have a1 := ha _ (List.getElem_mem i1); have a2 := h q (by simp) _ (List.getElem_mem i2)
  show 0 ≤ _ + _
  omega)
theorem pipe_content_in {n : Nat} (b : List Int) (a : List Int) (h : a.length = b.length) (hl : a.length ≤ 100) (hF : ∀ i (hi : i < a.length), wrap64 (a[i] + b[i]'(h ▸ hi)) = a[i] + b[i]'(h ▸ hi)) (l : List (List Int)) (z : Int) (j : Nat) (hj : j < 100000) : ∀ (d K i : Nat), a.length - i = d → i ≤ a.length → d < K → pipe_Content.l1 K (upd (· + ·) a b i) l z (j : Int) b (b.length : Int) (i : Int) = pipe_Content.l0 (K - 1 - d) (vadd a b) l z ((j + 1 : Nat) : Int)
 | 0, K, i, hd, hi, hk => by
  obtain ⟨K, rfl⟩ : ∃ m, K = m + 1 := ⟨K - 1, by omega⟩
  have e : i = a.length := by omega
  subst e
  simp only [pipe_Content.l1]
  rw [if_neg (by omega), upd_full _ a b h, sw64 (by omega) (by omega)]
  rfl
 | d + 1, K, i, hd, hi, hk => by
  obtain ⟨K, rfl⟩ : ∃ m, K = m + 1 := ⟨K - 1, by omega⟩
  have hlt : i < a.length := by omega
  have := pipe_content_in (n := n) b a h hl hF l z j hj d K (i + 1) (by omega) (by omega) (by omega)
  have hul := upd_len (· + ·) a b h i (by omega)
  simp only [pipe_Content.l1]
  rw [if_pos (by omega), if_pos (by omega), if_pos (by omega), if_pos (by omega), Int.toNat_natCast, upd_at _ a b h i hlt, rd_at b i (h ▸ hlt), hF i hlt, upd_step (· + ·) a b h i hlt, sw64 (x := (i : Int) + 1) (by omega) (by omega)]
  rw [show ((i + 1 : Nat) : Int) = (i : Int) + 1 from by omega] at this
  rw [this]
  congr 1
  omega
theorem pipe_content_run {n : Nat} {hold : Int} {l : List (List Int)} (h : PipeOk n hold l) : ∀ (d K i : Nat) (a : List Int), l.length - i = d → i ≤ l.length → d * 12 < K → a.length = n → (∀ x ∈ a, 0 ≤ x) → a.sum + ((l.drop i).map List.sum).sum = hold → pipe_Content.l0 K a l (l.length : Int) (i : Int) = some ((l.drop i).foldl vadd a, 0)
 | 0, K, i, a, hd, hi, hk, hal, ha, hs => by
  obtain ⟨K, rfl⟩ : ∃ m, K = m + 1 := ⟨K - 1, by omega⟩
  have e : i = l.length := by omega
  subst e
  simp only [pipe_Content.l0]
  rw [if_neg (by omega), List.drop_length]; rfl
 | d + 1, K, i, a, hd, hi, hk, hal, ha, hs => by
  obtain ⟨K, rfl⟩ : ∃ m, K = m + 1 := ⟨K - 1, by omega⟩
  have hlt : i < l.length := by omega
  have hq := h.ok _ (List.getElem_mem hlt)
  have hn := h.n1
  have hh := h.h1
  have hl := h.len
  rw [List.drop_eq_getElem_cons hlt, List.map_cons, List.sum_cons] at hs
  have n2 : 0 ≤ ((l.drop (i + 1)).map List.sum).sum := map_sum_nn _ _ (fun q hq => by have := (h.ok q (List.mem_of_mem_drop hq)).2.2; omega)
  have hsa := sum_nonneg a ha
  have hab : a.length = l[i].length := by rw [hal, hq.1]
  have b1 := le_sum ha (B := hold) (by have := hq.2.2; omega)
  have b2 := le_sum hq.2.1 (B := hold) (by omega)
  have hin := pipe_content_in (n := n) l[i] a hab (by omega) (fun j hj => by
   have c1 := b1 _ (List.getElem_mem hj); have c2 := b2 _ (List.getElem_mem (hab ▸ hj))
   exact sw64 (by omega) (by omega)) l (l.length : Int) i (by omega) a.length K 0 (by omega) (by omega) (by omega)
  rw [upd_zero] at hin
  have ih := pipe_content_run h d (K - 1 - a.length) (i + 1) (vadd a l[i]) (by omega) (by omega) (by omega) (by rw [vadd_len hab]; exact hal) (fun x hx => by
   obtain ⟨j, j1, j2, rfl⟩ := mem_zip hx
   have c1 := b1 _ (List.getElem_mem j1); have c2 := b2 _ (List.getElem_mem j2)
   show 0 ≤ _ + _
   omega) (by rw [vadd_sum _ _ hab]; omega)
  simp only [pipe_Content.l0]
  rw [if_pos (by omega), if_pos (by omega), if_pos (by omega), rdL1_at l i hlt]
  rw [show ((0 : Nat) : Int) = 0 from rfl] at hin
  rw [hin, ih, List.drop_eq_getElem_cons hlt, List.foldl_cons]
theorem pipe_content {K : Nat} (hK : 4000 ≤ K) {n : Nat} {hold : Int} {l : List (List Int)} (h : PipeOk n hold l) : pipe_Content.f K hold l = some (vtot n l, 0) := by
 have hl := h.len
 have hn := h.n1
 have hz := h.ok _ (List.getElem_mem (show 0 < l.length by omega))
 have e0 := rdL1_at l 0 (by omega)
 rw [show ((0 : Nat) : Int) = 0 from rfl] at e0
 unfold pipe_Content.f
 rw [pipe_check (by omega) h, Option.bind_some, if_pos rfl, if_pos (by omega), e0, hz.1, if_pos (by omega), Int.toNat_natCast, if_pos (by omega)]
 have := pipe_content_run h l.length K 0 (List.replicate n 0) (by omega) (by omega) (by omega) (by simp) (fun x hx => by rw [List.eq_of_mem_replicate hx]; exact Int.le_refl _) (by rw [List.drop_zero, h.tot]; simp)
 rw [List.drop_zero] at this
 exact this
end Go.Proofs.Ytgbjlcaanagfnaa.P
