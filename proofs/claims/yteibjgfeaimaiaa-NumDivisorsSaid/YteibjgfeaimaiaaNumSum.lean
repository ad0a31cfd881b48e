/- What num.Sum and its reference answer: one plain function of the list. -/
import Derived.Test.YteibjgfeaimaiaaNumIn
import Derived.Test.YteibjgfeaimaiaaPx2
import Derived.Test.YteibjgfeaimaiaaPx7
import Derived.Test.YteibjgfeaimaiaaRefBase
namespace Go.Proofs.Yteibjgfeaimaiaa.P
open Go.RowKit Go.Proofs.YteibjgfeaimaiaaW.PrintWords Go.Proofs.YteibjgfeaimaiaaW.PrintLast Go.Proofs.Yteibjgfeaimaiaa.Math
set_option linter.unusedVariables false

theorem tdm (x d : Int) (hd : 0 < d) : d * x.tdiv d + x.tmod d = x ∧ -d < x.tmod d ∧ x.tmod d < d ∧ (0 ≤ x → 0 ≤ x.tmod d) ∧ (x ≤ 0 → x.tmod d ≤ 0) := by
  refine ⟨Int.mul_tdiv_add_tmod x d, ?_⟩
  rcases Int.le_total 0 x with h | h
  · rw [Int.tmod_eq_emod_of_nonneg h]
    have h1 := Int.emod_nonneg x (show d ≠ 0 by omega)
    have h2 := Int.emod_lt_of_pos x hd
    refine ⟨by omega, h2, fun _ => h1, fun h3 => ?_⟩
    have : x = 0 := by omega
    rw [this]; simp
  · have e : x.tmod d = -((-x).tmod d) := by rw [Int.neg_tmod, Int.neg_neg]
    rw [e, Int.tmod_eq_emod_of_nonneg (show 0 ≤ -x by omega)]
    have h1 := Int.emod_nonneg (-x) (show d ≠ 0 by omega)
    have h2 := Int.emod_lt_of_pos (-x) hd
    refine ⟨by omega, by omega, fun h3 => ?_, fun _ => by omega⟩
    have : x = 0 := by omega
    rw [this]; simp

theorem tdiv_le (x d B : Int) (hd : 0 < d) (hB : 0 ≤ B) (h1 : -(d * B) ≤ x) (h2 : x ≤ d * B) : -B ≤ x.tdiv d ∧ x.tdiv d ≤ B := by
  obtain ⟨e, g1, g2, g3, g4⟩ := tdm x d hd
  generalize x.tdiv d = q at *
  generalize x.tmod d = r at *
  have e1 : d * (B + 1) = d * B + d := by grind
  have e2 : d * (-B - 1) = -(d * B) - d := by grind
  constructor
  · rcases Int.lt_or_le q (-B) with h | h
    · have : d * q ≤ d * (-B - 1) := Int.mul_le_mul_of_nonneg_left (by omega) (by omega)
      omega
    · exact h
  · rcases Int.lt_or_le B q with h | h
    · have : d * (B + 1) ≤ d * q := Int.mul_le_mul_of_nonneg_left (by omega) (by omega)
      omega
    · exact h

/-- What Sum answers. -/
def sumSpec (l : List Int) : Int × Int :=
  if 65536 < l.length then (0, 8) else if l.all inR = false then (0, 1) else if l.sum < -1125899906842624 ∨ 1125899906842624 < l.sum then (0, 2) else (l.sum, 0)

theorem num_result_eq (x : Int) (k : Nat) (hk : 1 < k) : num_result.f k x = some (if x < -1125899906842624 ∨ 1125899906842624 < x then (0, 2) else (x, 0)) := by
  unfold num_result.f
  rw [num_in_eq [x] (by simp) k (by simpa using hk)]
  simp only [Option.bind_some]
  by_cases h : -1125899906842624 ≤ x ∧ x ≤ 1125899906842624
  · have : ([x] : List Int).all inR = true := by simp [rInR_iff, h]
    rw [if_pos this, if_neg (by omega)]
  · have : ¬ ([x] : List Int).all inR = true := by simp [rInR_iff]; omega
    rw [if_neg this, if_pos (by omega)]

theorem sum_take_succ (l : List Int) (i : Nat) (h : i < l.length) : (l.take (i + 1)).sum = (l.take i).sum + l[i] := by
  rw [List.take_succ_eq_append_getElem h, List.sum_append]; simp

theorem num_Sum_l0 (l : List Int) (hl : l.length ≤ 65536) (hr : l.all inR = true) (d : Nat) : ∀ (k : Nat) (i : Nat) (hi lo : Int), l.length - i = d → i ≤ l.length → d + 2 < k →
    33554432 * hi + lo = (l.take i).sum → -(33554432 * i) ≤ hi → hi ≤ 33554432 * i → -(33554432 * i) ≤ lo → lo ≤ 33554432 * i →
    num_Sum.l0 k hi lo l (l.length : Int) i = some (if l.sum < -1125899906842624 ∨ 1125899906842624 < l.sum then (0, 2) else (l.sum, 0)) := by
  induction d with
  | zero =>
    intro k i hi lo hd hile hk hs h1 h2 h3 h4
    obtain ⟨k, rfl⟩ : ∃ m, k = m + 1 := ⟨k - 1, by omega⟩
    have hi' : i = l.length := by omega
    rw [hi', List.take_length] at hs
    simp only [num_Sum.l0]
    rw [if_neg (by omega)]
    obtain ⟨e, g1, g2, g3, g4⟩ := tdm lo 33554432 (by omega)
    obtain ⟨b1, b2⟩ := tdiv_le lo 33554432 i (by omega) (by omega) (by omega) (by omega)
    generalize lo.tdiv 33554432 = q at *
    generalize lo.tmod 33554432 = r at *
    rw [wrap64_id (x := q) (by omega) (by omega), wrap64_id (x := hi + q) (by omega) (by omega)]
    by_cases c1 : hi + q > 33554433
    · rw [if_pos c1, if_pos (by omega)]
    · rw [if_neg c1]
      by_cases c2 : hi + q < -33554433
      · rw [if_pos c2, if_pos (by omega)]
      · rw [if_neg c2, wrap64_id (x := (hi + q) * 33554432) (by omega) (by omega), wrap64_id (by omega) (by omega), num_result_eq _ _ (by omega)]
        have : (hi + q) * 33554432 + r = l.sum := by omega
        rw [this]; rfl
  | succ d ih =>
    intro k i hi lo hd hile hk hs h1 h2 h3 h4
    obtain ⟨k, rfl⟩ : ∃ m, k = m + 1 := ⟨k - 1, by omega⟩
    have hlt : i < l.length := by omega
    have e : rd l (i : Int) = l[i] := by simp [rd, hlt]
    have hx := (rInR_iff _).1 (List.all_eq_true.1 hr l[i] (List.getElem_mem hlt))
    simp only [num_Sum.l0]
    rw [if_pos (by omega), if_pos (by omega), if_pos (by omega), e]
    have hst := sum_take_succ l i hlt
    generalize l[i] = x at *
    obtain ⟨e0, g1, g2, g3, g4⟩ := tdm x 33554432 (by omega)
    obtain ⟨b1, b2⟩ := tdiv_le x 33554432 33554432 (by omega) (by omega) (by omega) (by omega)
    generalize x.tdiv 33554432 = q at *
    generalize x.tmod 33554432 = r at *
    rw [wrap64_id (x := q) (by omega) (by omega), wrap64_id (x := hi + q) (by omega) (by omega), wrap64_id (x := lo + r) (by omega) (by omega), wrap64_id (x := (i : Int) + 1) (by omega) (by omega)]
    have := ih k (i + 1) (hi + q) (lo + r) (by omega) (by omega) (by omega) (by rw [hst]; omega) (by omega) (by omega) (by omega) (by omega)
    rwa [show ((i + 1 : Nat) : Int) = (i : Int) + 1 from by omega] at this

theorem num_Sum_eq (l : List Int) (hl : l.length ≤ 9223372036854775806) (k : Nat) (hk : l.length + 2 < k) : num_Sum.f k l = some (sumSpec l) := by
  unfold num_Sum.f sumSpec
  by_cases c : 65536 < l.length
  · rw [if_pos (by omega), if_pos c]
  · rw [if_neg (by omega), if_neg c, num_in_eq l (by omega) k (by omega)]
    simp only [Option.bind_some]
    cases h : l.all inR with
    | false => simp
    | true =>
      rw [if_pos rfl, if_neg (by simp)]
      exact num_Sum_l0 l (by omega) h l.length k 0 0 0 (by omega) (by omega) (by omega) (by simp) (by omega) (by omega) (by omega) (by omega)

theorem ref_Sum_l0 (l : List Int) (hl : l.length ≤ 65536) (d : Nat) : ∀ (k : Nat) (i : Nat) (hi lo : Int), l.length - i = d → i ≤ l.length → d < k →
    33554432 * hi + lo = (l.take i).sum → -(33554432 * i) ≤ hi → hi ≤ 33554432 * i → -(33554432 * i) ≤ lo → lo ≤ 33554432 * i →
    papermillref01_Sum.l0 k l hi lo i = some (if (l.drop i).all inR = false then (0, 1) else if l.sum < -1125899906842624 ∨ 1125899906842624 < l.sum then (0, 2) else (l.sum, 0)) := by
  induction d with
  | zero =>
    intro k i hi lo hd hile hk hs h1 h2 h3 h4
    obtain ⟨k, rfl⟩ : ∃ m, k = m + 1 := ⟨k - 1, by omega⟩
    have hi' : i = l.length := by omega
    rw [hi', List.take_length] at hs
    simp only [papermillref01_Sum.l0]
    rw [if_neg (by omega), List.drop_of_length_le (by omega), if_neg (by simp), rabs_eq hi (by omega) (by omega)]
    simp only [Option.bind_some]
    by_cases c1 : (if hi < 0 then -hi else hi) > 134217728
    · rw [if_pos c1, if_pos (by split at c1 <;> omega)]
    · have c2 : -134217728 ≤ hi ∧ hi ≤ 134217728 := by split at c1 <;> omega
      rw [if_neg c1, wrap64_id (x := hi * 33554432) (by omega) (by omega), wrap64_id (by omega) (by omega), rresult_eq]
      have : hi * 33554432 + lo = l.sum := by omega
      rw [this]; rfl
  | succ d ih =>
    intro k i hi lo hd hile hk hs h1 h2 h3 h4
    obtain ⟨k, rfl⟩ : ∃ m, k = m + 1 := ⟨k - 1, by omega⟩
    have hlt : i < l.length := by omega
    have e : rd l (i : Int) = l[i] := by simp [rd, hlt]
    simp only [papermillref01_Sum.l0]
    rw [if_pos (by omega), if_pos (by omega), e, rIn_eq]
    simp only [Option.bind_some]
    rw [List.drop_eq_getElem_cons hlt, List.all_cons]
    have hst := sum_take_succ l i hlt
    cases hx : inR l[i] with
    | false => rw [if_neg (by simp), if_pos (by simp)]
    | true =>
      rw [if_pos rfl, Bool.true_and]
      have hx2 := (rInR_iff _).1 hx
      clear hx
      generalize l[i] = x at *
      obtain ⟨e0, g1, g2, g3, g4⟩ := tdm x 33554432 (by omega)
      obtain ⟨b1, b2⟩ := tdiv_le x 33554432 33554432 (by omega) (by omega) (by omega) (by omega)
      generalize x.tdiv 33554432 = q at *
      generalize x.tmod 33554432 = r at *
      rw [wrap64_id (x := q) (by omega) (by omega), wrap64_id (x := hi + q) (by omega) (by omega), wrap64_id (x := lo + r) (by omega) (by omega), wrap64_id (x := (i : Int) + 1) (by omega) (by omega)]
      have := ih k (i + 1) (hi + q) (lo + r) (by omega) (by omega) (by omega) (by rw [hst]; omega) (by omega) (by omega) (by omega) (by omega)
      rwa [show ((i + 1 : Nat) : Int) = (i : Int) + 1 from by omega] at this

theorem ref_Sum_eq (l : List Int) (hl : l.length ≤ 9223372036854775806) (k : Nat) (hk : l.length < k) : papermillref01_Sum.f k l = some (sumSpec l) := by
  unfold papermillref01_Sum.f sumSpec
  by_cases c : 65536 < l.length
  · rw [if_pos (by omega), if_pos c]
  · rw [if_neg (by omega), if_neg c]
    have := ref_Sum_l0 l (by omega) l.length k 0 0 0 (by omega) (by omega) hk (by simp) (by omega) (by omega) (by omega) (by omega)
    simpa using this
end Go.Proofs.Yteibjgfeaimaiaa.P
