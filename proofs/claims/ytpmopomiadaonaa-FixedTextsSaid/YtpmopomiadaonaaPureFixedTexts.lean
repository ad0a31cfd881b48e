/- The statement FixedTexts over numbers alone: Text and its reference answer alike, for any integer. -/
import Derived.Test.YtpmopomiadaonaaPx12
import Derived.Test.YtpmopomiadaonaaPx11
import Derived.Test.YtpmopomiadaonaaPx10
import Derived.Test.YtpmopomiadaonaaFixedAwake
import Derived.Test.YtpmopomiadaonaaFixedIn
namespace Go.Proofs.Ytpmopomiadaonaa.Pure
open Go.RowKit Go.Proofs.Ytpmopomiadaonaa.P Go.Proofs.YtpmopomiadaonaaW.PrintWords Go.Proofs.YtpmopomiadaonaaW.PrintLast Go.Proofs.Ytpmopomiadaonaa.Math
set_option linter.unusedVariables false

theorem cut_dig (d : Nat) (h : d < 10) : ((⟨#[48, 49, 50, 51, 52, 53, 54, 55, 56, 57]⟩ : ByteArray).extract ((d : Int)).toNat ((d : Int) + 1).toNat) = dig1 d := by
  obtain rfl | rfl | rfl | rfl | rfl | rfl | rfl | rfl | rfl | rfl : d = 0 ∨ d = 1 ∨ d = 2 ∨ d = 3 ∨ d = 4 ∨ d = 5 ∨ d = 6 ∨ d = 7 ∨ d = 8 ∨ d = 9 := by omega
  all_goals decide +kernel

theorem ref_digits (f : Nat) : ∀ (k n : Nat), n < 10 ^ f → n ≤ 1099511627776 → 1 ≤ f → f ≤ 30 → f ≤ k → papermillref23_digits.f k n = some (dig f n) := by
  induction f with
  | zero => intro k n h1 h2 h3; omega
  | succ f ih =>
    intro k n h1 h2 h3 h4 hk
    obtain ⟨k, rfl⟩ : ∃ m, k = m + 1 := ⟨k - 1, by omega⟩
    have hr : Int.tmod (n : Int) 10 = ((n % 10 : Nat) : Int) := by rw [Int.tmod_eq_emod_of_nonneg (by omega)]; omega
    have hq : Int.tdiv (n : Int) 10 = ((n / 10 : Nat) : Int) := by rw [Int.tdiv_eq_ediv_of_nonneg (by omega)]; omega
    have hm : n % 10 < 10 := by omega
    simp only [papermillref23_digits.f]
    rw [hr, hq, wrap64_id (x := ((n % 10 : Nat) : Int) + 1) (by omega) (by omega), wrap64_id (x := ((n / 10 : Nat) : Int)) (by omega) (by omega), cut_dig _ hm, if_pos (by omega), if_pos (by omega), if_pos (by omega)]
    by_cases c : n < 10
    · rw [if_neg (by omega)]
      have : n % 10 = n := by omega
      rw [this, dig, if_pos c]
    · rw [if_pos (by omega)]
      have hf : 1 ≤ f := by
        cases f with
        | zero => simp at h1; omega
        | succ f => omega
      rw [ih k (n / 10) (by rw [Nat.pow_succ] at h1; omega) (by omega) hf (by omega) (by omega)]
      simp only [Option.bind_some]
      have s1 := dig_size f (n / 10)
      have s2 := dig1_size (n % 10)
      rw [if_pos (by omega), dig, if_neg c]

theorem pow30 (x : Nat) (h : x ≤ 1099511627776) : x < 10 ^ 30 := by
  have : (10 : Nat) ^ 30 = 1000000000000000000000000000000 := by decide
  omega

theorem ba_assoc (a b c : ByteArray) : (a ++ b) ++ c = a ++ (b ++ c) := by
  apply ByteArray.ext
  simp [ByteArray.data_append, Array.append_assoc]

theorem ba_nil (a : ByteArray) : a ++ (⟨#[]⟩ : ByteArray) = a := by
  apply ByteArray.ext
  simp [ByteArray.data_append]

theorem ref_text_l0 (j : Nat) : ∀ (k n r : Nat) (s : ByteArray), n + j = 16 → left n r → r < 65536 → s.size ≤ 100 + n → j + 40 ≤ k → papermillref23_Text.l0 k s r = some (s ++ (⟨(asc (places j r)).toArray⟩ : ByteArray), 0) := by
  induction j with
  | zero =>
    intro k n r s hn hL hr hs hk
    obtain ⟨k, rfl⟩ : ∃ m, k = m + 1 := ⟨k - 1, by omega⟩
    have hr0 : r = 0 := by
      by_cases c : 0 < r
      · have := left_lt hL c hr; omega
      · omega
    subst hr0
    simp only [papermillref23_Text.l0]
    rw [if_neg (by omega)]
    have e : asc (places 0 0) = [] := rfl
    rw [e]
    exact congrArg some (Prod.ext (ba_nil s).symm rfl)
  | succ j ih =>
    intro k n r s hn hL hr hs hk
    obtain ⟨k, rfl⟩ : ∃ m, k = m + 1 := ⟨k - 1, by omega⟩
    simp only [papermillref23_Text.l0]
    by_cases c : 0 < r
    · have hd1 : Int.tdiv (10 * (r : Int)) 65536 = ((r * 10 / 65536 : Nat) : Int) := by rw [Int.tdiv_eq_ediv_of_nonneg (by omega)]; omega
      have hm1 : Int.tmod (10 * (r : Int)) 65536 = ((r * 10 % 65536 : Nat) : Int) := by rw [Int.tmod_eq_emod_of_nonneg (by omega)]; omega
      have hd9 : r * 10 / 65536 < 10 := by omega
      have hdig : dig 30 (r * 10 / 65536) = dig1 (r * 10 / 65536) := by rw [dig, if_pos hd9]
      rw [if_pos (by omega), wrap64_id (x := 10 * (r : Int)) (by omega) (by omega), hd1, hm1, wrap64_id (x := ((r * 10 / 65536 : Nat) : Int)) (by omega) (by omega),
        ref_digits 30 k (r * 10 / 65536) (pow30 _ (by omega)) (by omega) (by omega) (by omega) (by omega), hdig]
      simp only [Option.bind_some]
      have s2 := dig1_size (r * 10 / 65536)
      rw [if_pos (by omega), ih k (n + 1) (r * 10 % 65536) (s ++ dig1 (r * 10 / 65536)) (by omega) (left_step hL (by omega)) (by omega) (by rw [ByteArray.size_append]; omega) (by omega), ba_assoc]
      have e : (dig1 (r * 10 / 65536) ++ (⟨(asc (places j (r * 10 % 65536))).toArray⟩ : ByteArray)) = (⟨(asc (places (j + 1) r)).toArray⟩ : ByteArray) := by
        rw [places, if_neg (by omega)]
        apply ByteArray.ext
        simp [ByteArray.data_append, asc, dig1]
      rw [e]
    · rw [if_neg (by omega)]
      have hr0 : r = 0 := by omega
      subst hr0
      have e : asc (places (j + 1) 0) = [] := rfl
      rw [e]
      exact congrArg some (Prod.ext (ba_nil s).symm rfl)

theorem ref_text_j0 (m : Nat) (hm : m ≤ 1099511627776) (sg : ByteArray) (hs : sg.size ≤ 1) : papermillref23_Text.j0 200 (m : Int) sg = some (textB m sg, 0) := by
  have hq : Int.tdiv (m : Int) 65536 = ((m / 65536 : Nat) : Int) := by rw [Int.tdiv_eq_ediv_of_nonneg (by omega)]; omega
  have hr : Int.tmod (m : Int) 65536 = ((m % 65536 : Nat) : Int) := by rw [Int.tmod_eq_emod_of_nonneg (by omega)]; omega
  have hlt : m % 65536 < 65536 := by omega
  have s1 := dig_size 30 (m / 65536)
  have hl : ∀ (k : Nat) (s : ByteArray), 60 ≤ k → s.size ≤ 100 → papermillref23_Text.l0 k s ((m % 65536 : Nat) : Int) = some (s ++ (⟨(asc (places 16 (m % 65536))).toArray⟩ : ByteArray), 0) :=
    fun k s hk hs => ref_text_l0 16 k 0 (m % 65536) s (by omega) ⟨m % 65536, by omega⟩ hlt (by omega) (by omega)
  simp only [papermillref23_Text.j0]
  rw [hq, hr, wrap64_id (x := ((m / 65536 : Nat) : Int)) (by omega) (by omega), ref_digits 30 199 (m / 65536) (pow30 _ (by omega)) (by omega) (by omega) (by omega) (by omega)]
  simp only [Option.bind_some]
  have hsz : (sg ++ dig 30 (m / 65536)).size ≤ 31 := by rw [ByteArray.size_append]; omega
  have hdot : ((sg ++ dig 30 (m / 65536)) ++ (⟨#[46]⟩ : ByteArray)).size ≤ 32 := by
    rw [ByteArray.size_append]; have : (⟨#[46]⟩ : ByteArray).size = 1 := rfl
    omega
  rw [if_pos (by omega)]
  unfold textB
  by_cases c : m % 65536 = 0
  · rw [if_neg (by omega), if_pos c]
    simp only [papermillref23_Text.j1]
    rw [hl _ _ (by omega) (by omega), c]
    have e : asc (places 16 0) = [] := rfl
    rw [e]
    exact congrArg some (Prod.ext (ba_nil _) rfl)
  · rw [if_pos (by omega), if_pos (by omega), if_neg c]
    simp only [papermillref23_Text.j1]
    rw [hl _ _ (by omega) (by omega), ba_assoc (sg ++ dig 30 (m / 65536))]

theorem ref_text (a : Int) : papermillref23_Text.f 200 a = fixed_Text.f a := by
  unfold papermillref23_Text.f fixed_Text.f
  rw [fIn_eq]
  simp only [Option.bind_some]
  by_cases h : inF a = true
  · have hb := (inF_iff a).1 h
    rw [if_pos h, if_pos h]
    by_cases c : a < 0
    · rw [if_pos c, if_pos c, wrap64_id (x := -a) (by omega) (by omega)]
      have e : -a = ((a.natAbs : Nat) : Int) := by omega
      rw [e]
      exact ref_text_j0 _ (by omega) _ (by decide)
    · rw [if_neg c, if_neg c]
      have e := ref_text_j0 a.natAbs (by omega) ⟨#[]⟩ (by decide)
      rwa [show ((a.natAbs : Nat) : Int) = a by omega] at e
  · rw [if_neg h, if_neg h]

theorem FixedTexts : papermilllaw23_FixedTexts.Pure := by
  intro a _
  refine ⟨200, ?_⟩
  unfold papermilllaw23_FixedTexts.f
  rw [ref_text, fixed_awake _ (by omega)]
  unfold fixed_Text.f
  simp

end Go.Proofs.Ytpmopomiadaonaa.Pure
