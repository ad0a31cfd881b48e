/- The program's natural numbers, function by function, in values. -/
import Derived.Test.YtnkmeocccbkdkaaNatBase
import Derived.Test.YtnkmeocccbkdkaaPx2
import Derived.Test.YtnkmeocccbkdkaaPx6
import Derived.Test.YtnkmeocccbkdkaaPx11
namespace Go.Proofs.Ytnkmeocccbkdkaa.Pure
open Go.RowKit Go.Proofs.Ytnkmeocccbkdkaa.P Go.Proofs.YtnkmeocccbkdkaaW.PrintWords Go.Proofs.YtnkmeocccbkdkaaW.PrintLast
set_option linter.unusedVariables false

theorem trimmed_l0 (l : List Int) (hd : Dig l) (hl : l.length ≤ 60) : ∀ (i k : Nat), i ≤ l.length → i < k → ∃ r, nat_trimmed.l0 k l (i : Int) = some r ∧ Nrm r ∧ val r = val (l.take i) ∧ r.length ≤ i := by
  intro i
  induction i with
  | zero =>
    intro k _ hk
    obtain ⟨k, rfl⟩ : ∃ j, k = j + 1 := ⟨k - 1, by omega⟩
    exact ⟨[], by simp [nat_trimmed.l0], trivial, by simp, by simp⟩
  | succ i ih =>
    intro k h hk
    obtain ⟨k, rfl⟩ : ∃ j, k = j + 1 := ⟨k - 1, by omega⟩
    simp only [nat_trimmed.l0]
    rw [if_pos (by omega), w64 (by omega) (by omega), show ((i + 1 : Nat) : Int) - 1 = (i : Int) by omega, if_pos (by omega), if_pos (by omega)]
    have hr := dig_rd l hd i (by omega)
    by_cases c : rd l (i : Int) = 0
    · rw [if_pos c]
      obtain ⟨r, e1, e2, e3, e4⟩ := ih k (by omega) (by omega)
      refine ⟨r, e1, e2, ?_, by omega⟩
      rw [e3, take_step l i (by omega), val_append, c]; simp [val]
    · rw [if_neg c, if_pos (by omega), if_pos (by omega), Int.toNat_natCast]
      refine ⟨_, rfl, ?_, rfl, by simp; omega⟩
      rw [take_step l i (by omega)]
      exact nrm_snoc (dig_take l hd i) hr.1 hr.2 c

theorem trimmed_eq (l : List Int) (hd : Dig l) (hl : l.length ≤ 60) (k : Nat) (hk : 100 ≤ k) : ∃ r, nat_trimmed.f k l = some r ∧ Nrm r ∧ val r = val l ∧ r.length ≤ l.length := by
  obtain ⟨r, e1, e2, e3, e4⟩ := trimmed_l0 l hd hl l.length k (Nat.le_refl _) (by omega)
  exact ⟨r, e1, e2, by rw [e3, List.take_length], e4⟩

theorem of_l0 : ∀ (j k : Nat) (n : Int) (acc : List Int), 0 ≤ n → n ≤ 9000000000000000000 → n < 1000000000 ^ j → acc.length + j ≤ 1000 → j < k → ∃ r, nat_Of.l0 k n acc = some (acc ++ r, 0) ∧ Nrm r ∧ val r = n ∧ r.length ≤ j := by
  intro j
  induction j with
  | zero =>
    intro k n acc h0 _ h _ hk
    obtain ⟨k, rfl⟩ : ∃ j, k = j + 1 := ⟨k - 1, by omega⟩
    obtain rfl : n = 0 := by simp at h; omega
    exact ⟨[], by simp [nat_Of.l0], trivial, rfl, by simp⟩
  | succ j ih =>
    intro k n acc h0 hm h hl hk
    obtain ⟨k, rfl⟩ : ∃ j, k = j + 1 := ⟨k - 1, by omega⟩
    simp only [nat_Of.l0]
    by_cases c : n > 0
    · rw [if_pos c, if_pos (by omega), td_nn h0, tm_nn h0, w64 (by omega) (by omega)]
      rw [Int.pow_succ] at h
      obtain ⟨r, e1, e2, e3, e4⟩ := ih k (n / 1000000000) (acc ++ [n % 1000000000]) (by omega) (by omega) (by omega) (by simp; omega) (by omega)
      refine ⟨n % 1000000000 :: r, by rw [e1]; simp, ⟨by omega, by omega, e2, fun e => ?_⟩, by simp only [val, e3]; omega, by simp; omega⟩
      subst e; simp only [val] at e3; omega
    · rw [if_neg c]
      exact ⟨[], by simp, trivial, by simp only [val]; omega, by simp⟩

theorem of_eq (n : Int) (h0 : 0 ≤ n) (h1 : n < 1000000000000000000) (k : Nat) (hk : 100 ≤ k) : ∃ r, nat_Of.f k n = some (r, 0) ∧ Nrm r ∧ val r = n ∧ r.length ≤ 2 := by
  unfold nat_Of.f
  rw [if_neg (by omega)]
  obtain ⟨r, e1, e2, e3, e4⟩ := of_l0 2 k n [] h0 (by omega) (by simpa using h1) (by simp) (by omega)
  exact ⟨r, by simpa using e1, e2, e3, e4⟩

theorem valid_l0 (l : List Int) (hn : Nrm l) (hl : l.length ≤ 48) (d : Nat) : ∀ (k i : Nat), i + d = l.length → d < k → nat_Valid.l0 k l (l.length : Int) (i : Int) = some true := by
  induction d with
  | zero =>
    intro k i hi hk
    obtain ⟨k, rfl⟩ : ∃ j, k = j + 1 := ⟨k - 1, by omega⟩
    simp only [nat_Valid.l0]
    rw [if_neg (by omega)]
    by_cases c : (l.length : Int) = 0
    · rw [if_pos c]
    · have := nrm_last hn (by intro e; subst e; simp at c)
      rw [if_neg c, w64 (by omega) (by omega), if_pos (by omega), if_pos (by omega), bne_iff_ne.2 this]
  | succ d ih =>
    intro k i hi hk
    obtain ⟨k, rfl⟩ : ∃ j, k = j + 1 := ⟨k - 1, by omega⟩
    have hr := dig_rd l hn.dig i (by omega)
    simp only [nat_Valid.l0]
    rw [if_pos (by omega), if_pos (by omega), if_pos (by omega), if_neg (by omega), if_neg (by omega), w64 (by omega) (by omega)]
    exact ih k (i + 1) (by omega) (by omega)

theorem valid_eq (l : List Int) (hn : Nrm l) (hl : l.length ≤ 48) (k : Nat) (hk : 100 ≤ k) : nat_Valid.f k l = some true := by
  unfold nat_Valid.f
  rw [if_neg (by omega)]
  exact valid_l0 l hn hl l.length k 0 (by omega) (by omega)

theorem compare_l0 (a b : List Int) (ha : Dig a) (hb : Dig b) (hl : a.length ≤ 60) (e : a.length = b.length) : ∀ (i k : Nat), i ≤ a.length → i < k → nat_compare.l0 k a b ((i : Int) - 1) = some (sgn (val (a.take i)) (val (b.take i))) := by
  intro i
  induction i with
  | zero =>
    intro k _ hk
    obtain ⟨k, rfl⟩ : ∃ j, k = j + 1 := ⟨k - 1, by omega⟩
    simp only [nat_compare.l0]
    rw [if_neg (by omega)]; simp [sgn]
  | succ i ih =>
    intro k h hk
    obtain ⟨k, rfl⟩ : ∃ j, k = j + 1 := ⟨k - 1, by omega⟩
    simp only [nat_compare.l0]
    rw [show ((i + 1 : Nat) : Int) - 1 = (i : Int) by omega, if_pos (by omega), if_pos (by omega), if_pos (by omega), if_pos (by omega), sgn_take a b ha hb i (by omega) (by omega), w64 (by omega) (by omega), ih k (by omega) (by omega)]
    split
    · rfl
    · split <;> rfl

theorem compare_eq (a b : List Int) (ha : Nrm a) (hb : Nrm b) (hl : a.length ≤ 60) (k : Nat) (hk : 100 ≤ k) : nat_compare.f k a b = some (sgn (val a) (val b)) := by
  unfold nat_compare.f
  by_cases e : (a.length : Int) = (b.length : Int)
  · rw [if_pos e, w64 (by omega) (by omega), compare_l0 a b ha.dig hb.dig hl (by omega) a.length k (Nat.le_refl _) (by omega), List.take_length, show a.length = b.length by omega, List.take_length]
  · rw [if_neg e]
    by_cases c : (a.length : Int) < (b.length : Int)
    · have := cmp_len ha hb (by omega)
      rw [if_pos c]; unfold sgn; rw [if_pos this]
    · have := cmp_len hb ha (by omega)
      rw [if_neg c]; unfold sgn; rw [if_neg (by omega), if_pos this]

theorem short_l0 (a : List Int) (m : Int) (hd : Dig a) (hl : a.length ≤ 48) (hm : 0 < m) (hm' : m < 1000000000) : ∀ (i k : Nat) (qs : List Int) (rest : Int), i + qs.length = a.length → Dig qs → 0 ≤ rest → rest < m → val (a.drop i) = m * val qs + rest → i + 200 ≤ k →
    ∃ q r, nat_short.l0 k a m (List.replicate i 0 ++ qs) rest ((i : Int) - 1) = some (q, r) ∧ Nrm q ∧ Nrm r ∧ val q = val a / m ∧ val r = val a % m ∧ q.length ≤ a.length ∧ r.length ≤ 1 := by
  intro i
  induction i with
  | zero =>
    intro k qs rest h1 h2 h3 h4 h5 hk
    obtain ⟨k, rfl⟩ : ∃ j, k = j + 1 := ⟨k - 1, by omega⟩
    obtain ⟨q, e1, e2, e3, e4⟩ := trimmed_eq qs h2 (by omega) k (by omega)
    obtain ⟨r, f1, f2, f3, f4⟩ := trimmed_eq [rest] ⟨h3, by omega, trivial⟩ (by simp) k (by omega)
    have hv := div_of hm (by simpa using h5) h3 h4
    refine ⟨q, r, ?_, e2, f2, by rw [e3, hv.1], by rw [f3, hv.2]; simp [val], by omega, by simpa using f4⟩
    simp only [nat_short.l0]
    rw [if_neg (by omega), List.replicate_zero, List.nil_append, e1, f1]; rfl
  | succ i ih =>
    intro k qs rest h1 h2 h3 h4 h5 hk
    obtain ⟨k, rfl⟩ : ∃ j, k = j + 1 := ⟨k - 1, by omega⟩
    have hr := dig_rd a hd i (by omega)
    have hs : 0 ≤ rest * 1000000000 + rd a (i : Int) := by omega
    have hs2 : rest * 1000000000 + rd a (i : Int) < 1000000000 * m := by omega
    have hq : (rest * 1000000000 + rd a (i : Int)) / m < 1000000000 := Int.ediv_lt_of_lt_mul hm hs2
    have hq0 : 0 ≤ (rest * 1000000000 + rd a (i : Int)) / m := Int.ediv_nonneg hs (by omega)
    have hdm := Int.mul_ediv_add_emod (rest * 1000000000 + rd a (i : Int)) m
    have hm0 := Int.emod_nonneg (rest * 1000000000 + rd a (i : Int)) (show m ≠ 0 by omega)
    have hm1 := Int.emod_lt_of_pos (rest * 1000000000 + rd a (i : Int)) hm
    simp only [nat_short.l0]
    rw [show ((i + 1 : Nat) : Int) - 1 = (i : Int) by omega, if_pos (by omega), if_pos (by omega), if_pos (by omega), if_neg (by omega), if_pos (by simp; omega), Int.toNat_natCast, set_rep,
      w64 (x := rest * 1000000000) (by omega) (by omega), w64 (x := rest * 1000000000 + rd a (i : Int)) (by omega) (by omega), td_nn hs, tm_nn hs, w64 (by omega) (by omega), w64 (x := (i : Int) - 1) (by omega) (by omega)]
    refine ih k _ _ (by simp; omega) ⟨hq0, hq, h2⟩ hm0 hm1 ?_ (by omega)
    rw [drop_step a i (by omega)]
    simp only [val, h5]
    rw [Int.mul_add m, Int.mul_add 1000000000, Int.mul_left_comm m 1000000000]
    omega

theorem short_eq (a : List Int) (m : Int) (hd : Dig a) (hl : a.length ≤ 48) (hm : 0 < m) (hm' : m < 1000000000) (k : Nat) (hk : 300 ≤ k) : ∃ q r, nat_short.f k a m = some (q, r) ∧ Nrm q ∧ Nrm r ∧ val q = val a / m ∧ val r = val a % m ∧ q.length ≤ a.length ∧ r.length ≤ 1 := by
  unfold nat_short.f
  rw [if_pos (by omega), if_pos (by omega), Int.toNat_natCast, w64 (by omega) (by omega)]
  have := short_l0 a m hd hl hm hm' a.length k [] 0 (by simp) trivial (by omega) hm (by simp [val]) (by omega)
  simpa using this

theorem small_l0 (a : List Int) (hd : Dig a) (hl : a.length ≤ 48) (hv : val a ≤ 4000000000000000000) : ∀ (i k : Nat), i ≤ a.length → i < k → nat_small.l0 k a (val (a.drop i)) ((i : Int) - 1) = some (val a) := by
  intro i
  induction i with
  | zero =>
    intro k _ hk
    obtain ⟨k, rfl⟩ : ∃ j, k = j + 1 := ⟨k - 1, by omega⟩
    simp only [nat_small.l0]
    rw [if_neg (by omega)]; simp
  | succ i ih =>
    intro k h hk
    obtain ⟨k, rfl⟩ : ∃ j, k = j + 1 := ⟨k - 1, by omega⟩
    have hr := dig_rd a hd i (by omega)
    have n0 := val_nonneg (dig_drop a hd (i + 1))
    have n1 := val_drop_le hd i
    have e : val (a.drop i) = rd a (i : Int) + 1000000000 * val (a.drop (i + 1)) := by rw [drop_step a i (by omega)]; rfl
    simp only [nat_small.l0]
    rw [show ((i + 1 : Nat) : Int) - 1 = (i : Int) by omega, if_pos (by omega), if_pos (by omega), if_pos (by omega), w64 (x := val (a.drop (i + 1)) * 1000000000) (by omega) (by omega), w64 (by omega) (by omega), w64 (x := (i : Int) - 1) (by omega) (by omega), show val (a.drop (i + 1)) * 1000000000 + rd a (i : Int) = val (a.drop i) by omega]
    exact ih k (by omega) (by omega)

theorem small_eq (a : List Int) (hd : Dig a) (hl : a.length ≤ 48) (hv : val a ≤ 4000000000000000000) (k : Nat) (hk : 100 ≤ k) : nat_small.f k a = some (val a) := by
  unfold nat_small.f
  have := small_l0 a hd hl hv a.length k (Nat.le_refl _) (by omega)
  rw [List.drop_length] at this
  rw [w64 (by omega) (by omega)]
  exact this

theorem gcd_l1 : ∀ (n X Y k : Nat), Y < n → X < 1000000000000000000 → Y < 1000000000000000000 → n + 100 ≤ k → ∃ r, nat_Gcd.l1 k (X : Int) (Y : Int) = some (r, 0) ∧ Nrm r ∧ val r = (Nat.gcd X Y : Nat) ∧ r.length ≤ 2 := by
  intro n
  induction n with
  | zero => intro X Y k h; omega
  | succ n ih =>
    intro X Y k h hx hy hk
    obtain ⟨k, rfl⟩ : ∃ j, k = j + 1 := ⟨k - 1, by omega⟩
    simp only [nat_Gcd.l1]
    by_cases c : Y = 0
    · subst c
      obtain ⟨r, e1, e2, e3, e4⟩ := of_eq (X : Int) (by omega) (by omega) k (by omega)
      rw [if_neg (by omega), e1]
      exact ⟨r, rfl, e2, by rw [e3, Nat.gcd_zero_right], e4⟩
    · have hlt := Nat.mod_lt X (show 0 < Y by omega)
      rw [if_pos (by omega), if_neg (by omega), tm_nn (by omega), ← Int.natCast_emod]
      obtain ⟨r, e1, e2, e3, e4⟩ := ih Y (X % Y) k (by omega) hy (by omega) (by omega)
      refine ⟨r, e1, e2, ?_, e4⟩
      rw [e3, Nat.gcd_comm X Y, Nat.gcd_rec Y X, Nat.gcd_comm]

theorem gcd_eq (a b : List Int) (ha : Nrm a) (hb : Nrm b) (la : a.length ≤ 2) (lb : b.length ≤ 2) (hb0 : b ≠ []) (A B : Nat) (va : val a = A) (vb : val b = B) (hA : A < 1000000000000000000) (hB : B < 1000000000000000000) (k : Nat) (hk : B + 200 ≤ k) :
    ∃ r, nat_Gcd.f k a b = some (r, 0) ∧ Nrm r ∧ val r = (Nat.gcd A B : Nat) ∧ r.length ≤ 2 := by
  obtain ⟨k, rfl⟩ : ∃ j, k = j + 4 := ⟨k - 4, by omega⟩
  have hl : 0 < b.length := by cases b with | nil => exact absurd rfl hb0 | cons x xs => simp
  unfold nat_Gcd.f
  rw [valid_eq a ha (by omega) _ (by omega), valid_eq b hb (by omega) _ (by omega)]
  simp only [Option.bind_some, if_true, Bool.not_true, nat_Gcd.j0]
  rw [if_neg (by simp)]
  simp only [nat_Gcd.l0]
  rw [if_pos (by omega), if_neg (by omega), if_neg (by omega)]
  simp only [nat_Gcd.j2]
  rw [if_neg (by omega), small_eq a ha.dig (by omega) (by omega) _ (by omega), small_eq b hb.dig (by omega) (by omega) _ (by omega), va, vb]
  exact gcd_l1 (B + 1) A B _ (by omega) hA hB (by omega)

theorem divided_eq (a b : List Int) (ha : Nrm a) (hb : Nrm b) (la : a.length ≤ 48) (lb : b.length = 1) (k : Nat) (hk : 400 ≤ k) :
    ∃ q r, nat_divided.f k a b = some (q, r) ∧ Nrm q ∧ Nrm r ∧ val q = val a / val b ∧ val r = val a % val b := by
  unfold nat_divided.f
  rw [compare_eq a b ha hb (by omega) _ (by omega)]
  simp only [Option.bind_some]
  obtain ⟨m, rfl⟩ : ∃ m, b = [m] := List.length_eq_one_iff.1 lb
  have vm : val [m] = m := by simp [val]
  have hm := hb.1; have hm2 := hb.2.1; have hm3 := hb.2.2.2 rfl
  by_cases c : sgn (val a) (val [m]) < 0
  · rw [if_pos c]
    rw [sgn_lt] at c
    have h0 := val_nonneg ha.dig
    obtain ⟨r, e1, e2, e3, e4⟩ := trimmed_eq a ha.dig (by omega) k (by omega)
    rw [show nat_padded.f a (a.length : Int) = some a from by unfold nat_padded.f; rw [if_pos ⟨rfl, by omega⟩]]
    simp only [Option.bind_some]
    rw [e1]
    refine ⟨[], r, rfl, trivial, e2, ?_, ?_⟩
    · rw [Int.ediv_eq_zero_of_lt h0 c]; rfl
    · rw [e3, Int.emod_eq_of_lt h0 c]
  · rw [if_neg c, if_pos (by simp), if_pos (by simp)]
    obtain ⟨q, r, e1, e2, e3, e4, e5, _, _⟩ := short_eq a m ha.dig la (by omega) hm2 k (by omega)
    have : rd [m] 0 = m := by simp [rd]
    rw [this, e1]
    exact ⟨q, r, rfl, e2, e3, by rw [e4, vm], by rw [e5, vm]⟩

theorem divmod_eq (a b : List Int) (ha : Nrm a) (hb : Nrm b) (la : a.length ≤ 48) (lb : b.length = 1) (k : Nat) (hk : 500 ≤ k) :
    ∃ q r, nat_DivMod.f k a b = some (q, r, 0) ∧ Nrm q ∧ Nrm r ∧ val q = val a / val b ∧ val r = val a % val b := by
  obtain ⟨k, rfl⟩ : ∃ j, k = j + 1 := ⟨k - 1, by omega⟩
  obtain ⟨q, r, e1, e2, e3, e4, e5⟩ := divided_eq a b ha hb la lb k (by omega)
  unfold nat_DivMod.f
  rw [valid_eq a ha la _ (by omega), valid_eq b hb (by omega) _ (by omega)]
  simp only [Option.bind_some, if_true, Bool.not_true, nat_DivMod.j0]
  rw [if_neg (by simp), if_neg (by omega), e1]
  exact ⟨q, r, rfl, e2, e3, e4, e5⟩
end Go.Proofs.Ytnkmeocccbkdkaa.Pure
