/- Natural numbers of many limbs, plainly: values, and the one normal form of each. -/
import Derived.Test.YtnkmeocccbkdkaaPx0
namespace Go.Proofs.Ytnkmeocccbkdkaa.Pure
open Go.RowKit Go.Proofs.Ytnkmeocccbkdkaa.P Go.Proofs.YtnkmeocccbkdkaaW.PrintWords Go.Proofs.YtnkmeocccbkdkaaW.PrintLast
set_option linter.unusedVariables false

theorem w64 {x : Int} (h0 : -9223372036854775808 ≤ x) (h1 : x ≤ 9223372036854775807) : wrap64 x = x := by unfold wrap64; omega
theorem div_of {a b q r : Int} (hb : 0 < b) (h : a = b * q + r) (h0 : 0 ≤ r) (h1 : r < b) : a / b = q ∧ a % b = r := by
  subst h
  constructor
  · rw [Int.add_comm, Int.add_mul_ediv_left _ _ (by omega), Int.ediv_eq_zero_of_lt h0 h1]; omega
  · rw [Int.add_comm, Int.add_mul_emod_self_left, Int.emod_eq_of_lt h0 h1]
theorem td_nn {a b : Int} (h : 0 ≤ a) : Int.tdiv a b = a / b := Int.tdiv_eq_ediv_of_nonneg h
theorem tm_nn {a b : Int} (h : 0 ≤ a) : Int.tmod a b = a % b := Int.tmod_eq_emod_of_nonneg h

def val : List Int → Int
  | [] => 0
  | x :: xs => x + 1000000000 * val xs
def Dig : List Int → Prop
  | [] => True
  | x :: xs => 0 ≤ x ∧ x < 1000000000 ∧ Dig xs
def Nrm : List Int → Prop
  | [] => True
  | x :: xs => 0 ≤ x ∧ x < 1000000000 ∧ Nrm xs ∧ (xs = [] → x ≠ 0)

theorem Nrm.dig : ∀ {l : List Int}, Nrm l → Dig l
  | [], _ => trivial
  | x :: xs, h => ⟨h.1, h.2.1, Nrm.dig h.2.2.1⟩
theorem val_nonneg : ∀ {l : List Int}, Dig l → 0 ≤ val l
  | [], _ => Int.le_refl _
  | x :: xs, h => by have := val_nonneg h.2.2; have := h.1; simp only [val]; omega
theorem val_pos : ∀ {x : Int} {xs : List Int}, Nrm (x :: xs) → 0 < val (x :: xs)
  | x, [], h => by have := h.2.2.2 rfl; have := h.1; simp only [val]; omega
  | x, y :: ys, h => by have := val_pos h.2.2.1; have := h.1; simp only [val] at *; omega
theorem nrm_unique : ∀ {a b : List Int}, Nrm a → Nrm b → val a = val b → a = b
  | [], [], _, _, _ => rfl
  | [], y :: ys, _, hb, h => by have := val_pos hb; simp only [val] at h this; omega
  | x :: xs, [], ha, _, h => by have := val_pos ha; simp only [val] at h this; omega
  | x :: xs, y :: ys, ha, hb, h => by
    simp only [val] at h
    have := ha.1; have := ha.2.1; have := hb.1; have := hb.2.1
    have e : val xs = val ys := by omega
    rw [show x = y by omega, nrm_unique ha.2.2.1 hb.2.2.1 e]
theorem nrm_nil {a : List Int} (ha : Nrm a) (h : val a = 0) : a = [] := nrm_unique ha (b := []) trivial h
theorem val_append : ∀ (a b : List Int), val (a ++ b) = val a + 1000000000 ^ a.length * val b
  | [], b => by simp [val]
  | x :: xs, b => by
    have ih := val_append xs b
    simp only [List.cons_append, val, ih, List.length_cons]
    rw [Int.pow_succ, Int.mul_add, Int.mul_comm (1000000000 ^ xs.length) 1000000000, Int.mul_assoc]
    omega
theorem dig_append : ∀ {a b : List Int}, Dig (a ++ b) ↔ Dig a ∧ Dig b
  | [], b => by simp [Dig]
  | x :: xs, b => by simp only [List.cons_append, Dig, dig_append (a := xs)]; constructor <;> (intro h; simp [h])
theorem nrm_snoc : ∀ {a : List Int} {y : Int}, Dig a → 0 ≤ y → y < 1000000000 → y ≠ 0 → Nrm (a ++ [y])
  | [], y, _, h0, h1, h2 => ⟨h0, h1, trivial, fun _ => h2⟩
  | x :: xs, y, h, h0, h1, h2 => ⟨h.1, h.2.1, nrm_snoc h.2.2 h0 h1 h2, fun e => by simp at e⟩
theorem val_lt : ∀ {l : List Int}, Dig l → val l < 1000000000 ^ l.length
  | [], _ => by simp [val]
  | x :: xs, h => by
    have ih := val_lt h.2.2; have := h.2.1
    simp only [val, List.length_cons]
    rw [Int.pow_succ]
    omega
theorem cmp_len : ∀ {a b : List Int}, Nrm a → Nrm b → a.length < b.length → val a < val b
  | [], y :: ys, _, hb, _ => by have := val_pos hb; simpa [val] using this
  | x :: xs, y :: ys, ha, hb, h => by
    have := cmp_len ha.2.2.1 hb.2.2.1 (by simpa using h)
    have := ha.2.1; have := hb.1
    simp only [val]; omega
  | [], [], _, _, h => by simp at h
  | x :: xs, [], _, _, h => by simp at h
theorem len_le {a b : List Int} (ha : Nrm a) (hb : Nrm b) (h : val a ≤ val b) : a.length ≤ b.length := by
  rcases Nat.lt_or_ge b.length a.length with c | c
  · have := cmp_len hb ha c; omega
  · exact c

theorem rd_app (o : List Int) (c : Int) (t : List Int) : rd (o ++ c :: t) (o.length : Int) = c := by unfold rd; simp
theorem take_step (l : List Int) (i : Nat) (h : i < l.length) : l.take (i + 1) = l.take i ++ [rd l (i : Int)] := by
  rw [List.take_succ_eq_append_getElem h]; unfold rd; simp [h]
theorem drop_step (l : List Int) (i : Nat) (h : i < l.length) : l.drop i = rd l (i : Int) :: l.drop (i + 1) := by
  rw [List.drop_eq_getElem_cons h]; unfold rd; simp [h]
theorem dig_take (l : List Int) (h : Dig l) (i : Nat) : Dig (l.take i) := (dig_append.1 (by rw [List.take_append_drop i l]; exact h : Dig (l.take i ++ l.drop i))).1
theorem dig_drop (l : List Int) (h : Dig l) (i : Nat) : Dig (l.drop i) := (dig_append.1 (by rw [List.take_append_drop i l]; exact h : Dig (l.take i ++ l.drop i))).2
theorem dig_rd (l : List Int) (h : Dig l) (i : Nat) (hi : i < l.length) : 0 ≤ rd l (i : Int) ∧ rd l (i : Int) < 1000000000 := by
  have := dig_drop l h i
  rw [drop_step l i hi] at this
  exact ⟨this.1, this.2.1⟩
theorem val_drop_le : ∀ {l : List Int}, Dig l → ∀ i, val (l.drop i) ≤ val l
  | l, h, 0 => by simp
  | [], _, i + 1 => by simp
  | x :: xs, h, i + 1 => by
    have := val_drop_le h.2.2 i; have := val_nonneg h.2.2; have := h.1
    simp only [List.drop_succ_cons, val]; omega
theorem set_app (o : List Int) (c v : Int) (t : List Int) : (o ++ c :: t).set o.length v = o ++ v :: t := by
  induction o with
  | nil => rfl
  | cons x xs ih => simp only [List.cons_append, List.length_cons, List.set_cons_succ, ih]
theorem set_rep (i : Nat) (v : Int) (qs : List Int) : (List.replicate (i + 1) (0 : Int) ++ qs).set i v = List.replicate i 0 ++ v :: qs := by
  have := set_app (List.replicate i (0 : Int)) 0 v qs
  rw [List.length_replicate] at this
  rw [List.replicate_succ', List.append_assoc]; exact this
theorem nrm_last : ∀ {l : List Int}, Nrm l → l ≠ [] → rd l ((l.length : Int) - 1) ≠ 0
  | [], _, h => absurd rfl h
  | [x], h, _ => by have := h.2.2.2 rfl; simpa [rd] using this
  | x :: y :: ys, h, _ => by
    have ih := nrm_last h.2.2.1 (by simp)
    have e1 : (((x :: y :: ys).length : Int) - 1).toNat = ys.length + 1 := by simp only [List.length_cons]; omega
    have e2 : (((y :: ys).length : Int) - 1).toNat = ys.length := by simp only [List.length_cons]; omega
    unfold rd at *
    rw [e2] at ih
    rw [e1]
    simpa using ih
/-- Three way comparing. -/
def sgn (a b : Int) : Int := if a < b then -1 else if b < a then 1 else 0
theorem sgn_lt {a b : Int} : sgn a b < 0 ↔ a < b := by unfold sgn; split <;> (try split) <;> omega
theorem sgn_le {a b : Int} : sgn a b ≤ 0 ↔ a ≤ b := by unfold sgn; split <;> (try split) <;> omega
theorem sgn_take (a b : List Int) (ha : Dig a) (hb : Dig b) (i : Nat) (h1 : i < a.length) (h2 : i < b.length) :
    sgn (val (a.take (i + 1))) (val (b.take (i + 1))) = if rd a (i : Int) < rd b (i : Int) then -1 else if rd a (i : Int) > rd b (i : Int) then 1 else sgn (val (a.take i)) (val (b.take i)) := by
  have A := take_step a i h1; have B := take_step b i h2
  have u0 := val_nonneg (dig_take a ha i); have v0 := val_nonneg (dig_take b hb i)
  have u1 := val_lt (dig_take a ha i); have v1 := val_lt (dig_take b hb i)
  rw [A, B, val_append, val_append]
  simp only [List.length_take, Nat.min_eq_left (Nat.le_of_lt h1), Nat.min_eq_left (Nat.le_of_lt h2)] at *
  generalize rd a (i : Int) = x at *
  generalize rd b (i : Int) = y at *
  generalize (1000000000 : Int) ^ i = p at *
  simp only [val, Int.mul_zero, Int.add_zero]
  have key : ∀ {s t : Int}, s < t → p * s + p ≤ p * t := fun {s t} h => by
    have := Int.mul_le_mul_of_nonneg_left (show s + 1 ≤ t by omega) (show 0 ≤ p by omega)
    rw [Int.mul_add, Int.mul_one] at this; exact this
  by_cases c1 : x < y
  · rw [if_pos c1]; have := key c1; unfold sgn; rw [if_pos (by omega)]
  · rw [if_neg c1]
    by_cases c2 : x > y
    · rw [if_pos c2]; have := key c2; unfold sgn; rw [if_neg (by omega), if_pos (by omega)]
    · rw [if_neg c2]
      obtain rfl : x = y := by omega
      unfold sgn
      by_cases c : val (a.take i) < val (b.take i)
      · rw [if_pos c, if_pos (by omega)]
      · rw [if_neg c, if_neg (by omega)]
        by_cases d : val (b.take i) < val (a.take i)
        · rw [if_pos d, if_pos (by omega)]
        · rw [if_neg d, if_neg (by omega)]
/-- The limbs of a list times one limb. -/
def tmul (m : Int) : Int → List Int → List Int
  | c, [] => [c]
  | c, x :: xs => (c + x * m) % 1000000000 :: tmul m ((c + x * m) / 1000000000) xs
theorem mul_bnd {c x m : Int} (h0 : 0 ≤ c) (h1 : c < 1000000000) (h2 : 0 ≤ x) (h3 : x < 1000000000) (h4 : 0 ≤ m) (h5 : m < 1000000000) : 0 ≤ x * m ∧ x * m ≤ 999999998000000001 ∧ 0 ≤ c + x * m ∧ c + x * m < 999999999000000000 + 1 ∧ (c + x * m) / 1000000000 < 1000000000 ∧ 0 ≤ (c + x * m) / 1000000000 := by
  have a := Int.mul_nonneg h2 h4
  have b := Int.mul_le_mul (show x ≤ 999999999 by omega) (show m ≤ 999999999 by omega) h4 (by omega)
  omega
theorem tmul_dig (m : Int) (h4 : 0 ≤ m) (h5 : m < 1000000000) : ∀ (xs : List Int) (c : Int), Dig xs → 0 ≤ c → c < 1000000000 → Dig (tmul m c xs) ∧ val (tmul m c xs) = c + val xs * m ∧ (tmul m c xs).length = xs.length + 1
  | [], c, _, h0, h1 => by simp [tmul, Dig, val, h0, h1]
  | x :: xs, c, hd, h0, h1 => by
    have B := mul_bnd h0 h1 hd.1 hd.2.1 h4 h5
    have ih := tmul_dig m h4 h5 xs ((c + x * m) / 1000000000) hd.2.2 B.2.2.2.2.2 B.2.2.2.2.1
    refine ⟨⟨by omega, by omega, ih.1⟩, ?_, by simp [tmul, ih.2.2]⟩
    simp only [tmul, val, ih.2.1]
    rw [Int.add_mul, Int.mul_assoc]
    omega
/-- The limbs of a difference. -/
def msub : Int → List Int → List Int → List Int
  | _, [], _ => []
  | br, x :: xs, ys => if x - ys.headD 0 - br < 0 then (x - ys.headD 0 - br + 1000000000) :: msub 1 xs ys.tail else (x - ys.headD 0 - br) :: msub 0 xs ys.tail
theorem msub_dig : ∀ (xs ys : List Int) (br : Int), Dig xs → Dig ys → 0 ≤ br → br ≤ 1 → val ys + br ≤ val xs → Dig (msub br xs ys) ∧ val (msub br xs ys) = val xs - val ys - br ∧ (msub br xs ys).length = xs.length
  | [], ys, br, _, hy, h0, h1, h => by
    have := val_nonneg hy
    simp only [val] at h
    refine ⟨trivial, ?_, rfl⟩
    simp only [msub, val]; omega
  | x :: xs, ys, br, hx, hy, h0, h1, h => by
    have a0 := hx.1; have a1 := hx.2.1
    have hz : 0 ≤ ys.headD 0 ∧ ys.headD 0 < 1000000000 ∧ Dig ys.tail ∧ val ys = ys.headD 0 + 1000000000 * val ys.tail := by
      cases ys with
      | nil => simp [val, Dig]
      | cons y ys => exact ⟨hy.1, hy.2.1, hy.2.2, rfl⟩
    simp only [val] at h
    simp only [msub]
    by_cases c : x - ys.headD 0 - br < 0
    · rw [if_pos c]
      have ih := msub_dig xs ys.tail 1 hx.2.2 hz.2.2.1 (by omega) (by omega) (by omega)
      refine ⟨⟨by omega, by omega, ih.1⟩, ?_, by simp [ih.2.2]⟩
      simp only [val, ih.2.1]; omega
    · rw [if_neg c]
      have ih := msub_dig xs ys.tail 0 hx.2.2 hz.2.2.1 (by omega) (by omega) (by omega)
      refine ⟨⟨by omega, by omega, ih.1⟩, ?_, by simp [ih.2.2]⟩
      simp only [val, ih.2.1]; omega
end Go.Proofs.Ytnkmeocccbkdkaa.Pure
