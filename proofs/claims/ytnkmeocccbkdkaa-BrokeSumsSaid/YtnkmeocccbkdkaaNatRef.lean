/- The reference's natural numbers, function by function, in values. -/
import Derived.Test.YtnkmeocccbkdkaaNatBase
import Derived.Test.YtnkmeocccbkdkaaPx2
import Derived.Test.YtnkmeocccbkdkaaPx18
namespace Go.Proofs.Ytnkmeocccbkdkaa.Pure
open Go.RowKit Go.Proofs.Ytnkmeocccbkdkaa.P Go.Proofs.YtnkmeocccbkdkaaW.PrintWords Go.Proofs.YtnkmeocccbkdkaaW.PrintLast
set_option linter.unusedVariables false

theorem refof_l0 : ∀ (j k : Nat) (n : Int) (acc : List Int), 0 ≤ n → n ≤ 9000000000000000000 → n < 1000000000 ^ j → acc.length + j ≤ 1000 → j < k → ∃ r, papermillref02_Of.l0 k n acc = some (acc ++ r, 0) ∧ Nrm r ∧ val r = n ∧ r.length ≤ j := by
  intro j
  induction j with
  | zero =>
    intro k n acc h0 _ h _ hk
    obtain ⟨k, rfl⟩ : ∃ j, k = j + 1 := ⟨k - 1, by omega⟩
    obtain rfl : n = 0 := by simp at h; omega
    exact ⟨[], by simp [papermillref02_Of.l0], trivial, rfl, by simp⟩
  | succ j ih =>
    intro k n acc h0 hm h hl hk
    obtain ⟨k, rfl⟩ : ∃ j, k = j + 1 := ⟨k - 1, by omega⟩
    simp only [papermillref02_Of.l0]
    by_cases c : n > 0
    · rw [if_pos c, if_pos (by omega), td_nn h0, tm_nn h0, w64 (by omega) (by omega)]
      rw [Int.pow_succ] at h
      obtain ⟨r, e1, e2, e3, e4⟩ := ih k (n / 1000000000) (acc ++ [n % 1000000000]) (by omega) (by omega) (by omega) (by simp; omega) (by omega)
      refine ⟨n % 1000000000 :: r, by rw [e1]; simp, ⟨by omega, by omega, e2, fun e => ?_⟩, by simp only [val, e3]; omega, by simp; omega⟩
      subst e; simp only [val] at e3; omega
    · rw [if_neg c]
      exact ⟨[], by simp, trivial, by simp only [val]; omega, by simp⟩

theorem refof_eq (n : Int) (h0 : 0 ≤ n) (h1 : n < 1000000000000000000) (k : Nat) (hk : 100 ≤ k) : ∃ r, papermillref02_Of.f k n = some (r, 0) ∧ Nrm r ∧ val r = n ∧ r.length ≤ 2 := by
  unfold papermillref02_Of.f
  rw [if_neg (by omega)]
  obtain ⟨r, e1, e2, e3, e4⟩ := refof_l0 2 k n [] h0 (by omega) (by simpa using h1) (by simp) (by omega)
  exact ⟨r, by simpa using e1, e2, e3, e4⟩

theorem refvalid_l0 (l : List Int) (hn : Dig l) (hl : l.length ≤ 48) (d : Nat) : ∀ (k i : Nat), i + d = l.length → d < k → papermillref02_Valid.l0 k l (i : Int) = some true := by
  induction d with
  | zero =>
    intro k i hi hk
    obtain ⟨k, rfl⟩ : ∃ j, k = j + 1 := ⟨k - 1, by omega⟩
    simp only [papermillref02_Valid.l0]
    rw [if_neg (by omega)]
  | succ d ih =>
    intro k i hi hk
    obtain ⟨k, rfl⟩ : ∃ j, k = j + 1 := ⟨k - 1, by omega⟩
    have hr := dig_rd l hn i (by omega)
    simp only [papermillref02_Valid.l0]
    rw [if_pos (by omega), if_pos (by omega), if_neg (by omega), if_neg (by omega), w64 (by omega) (by omega)]
    exact ih k (i + 1) (by omega) (by omega)

theorem refvalid_eq (l : List Int) (hn : Nrm l) (hl : l.length ≤ 48) (k : Nat) (hk : 100 ≤ k) : papermillref02_Valid.f k l = some true := by
  obtain ⟨k, rfl⟩ : ∃ j, k = j + 1 := ⟨k - 1, by omega⟩
  have F := refvalid_l0 l hn.dig hl l.length k 0 (by omega) (by omega)
  unfold papermillref02_Valid.f
  rw [if_neg (by omega)]
  by_cases c : (l.length : Int) > 0
  · have := nrm_last hn (by intro e; subst e; simp at c)
    rw [if_pos c, w64 (by omega) (by omega), if_pos (by omega), if_pos (by omega), beq_eq_false_iff_ne.2 this]
    simp only [papermillref02_Valid.j0]
    rw [if_neg (by simp)]; exact F
  · rw [if_neg c]
    simp only [papermillref02_Valid.j0]
    rw [if_neg (by simp)]; exact F

theorem refcompare_l0 (a b : List Int) (ha : Dig a) (hb : Dig b) (hl : a.length ≤ 60) (e : a.length = b.length) : ∀ (i k : Nat), i ≤ a.length → i < k → papermillref02_compare.l0 k a b ((i : Int) - 1) = some (sgn (val (a.take i)) (val (b.take i))) := by
  intro i
  induction i with
  | zero =>
    intro k _ hk
    obtain ⟨k, rfl⟩ : ∃ j, k = j + 1 := ⟨k - 1, by omega⟩
    simp only [papermillref02_compare.l0]
    rw [if_neg (by omega)]; simp [sgn]
  | succ i ih =>
    intro k h hk
    obtain ⟨k, rfl⟩ : ∃ j, k = j + 1 := ⟨k - 1, by omega⟩
    simp only [papermillref02_compare.l0]
    rw [show ((i + 1 : Nat) : Int) - 1 = (i : Int) by omega, if_pos (by omega), if_pos (by omega), if_pos (by omega), if_pos (by omega), sgn_take a b ha hb i (by omega) (by omega), w64 (by omega) (by omega), ih k (by omega) (by omega)]
    split
    · rfl
    · split <;> rfl

theorem refcompare_eq (a b : List Int) (ha : Nrm a) (hb : Nrm b) (hl : a.length ≤ 60) (k : Nat) (hk : 100 ≤ k) : papermillref02_compare.f k a b = some (sgn (val a) (val b)) := by
  unfold papermillref02_compare.f
  by_cases e : (a.length : Int) = (b.length : Int)
  · rw [if_pos e, w64 (by omega) (by omega), refcompare_l0 a b ha.dig hb.dig hl (by omega) a.length k (Nat.le_refl _) (by omega), List.take_length, show a.length = b.length by omega, List.take_length]
  · rw [if_neg e]
    by_cases c : (a.length : Int) < (b.length : Int)
    · have := cmp_len ha hb (by omega)
      rw [if_pos c]; unfold sgn; rw [if_pos this]
    · have := cmp_len hb ha (by omega)
      rw [if_neg c]; unfold sgn; rw [if_neg (by omega), if_pos this]

theorem fit_l0 (l : List Int) (hd : Dig l) (hl : l.length ≤ 48) : ∀ (i k : Nat), i ≤ l.length → i < k → ∃ r, papermillref02_fit.l0 k l (i : Int) = some (r, 0) ∧ Nrm r ∧ val r = val (l.take i) ∧ r.length ≤ i := by
  intro i
  induction i with
  | zero =>
    intro k _ hk
    obtain ⟨k, rfl⟩ : ∃ j, k = j + 1 := ⟨k - 1, by omega⟩
    exact ⟨[], by simp [papermillref02_fit.l0], trivial, by simp, by simp⟩
  | succ i ih =>
    intro k h hk
    obtain ⟨k, rfl⟩ : ∃ j, k = j + 1 := ⟨k - 1, by omega⟩
    simp only [papermillref02_fit.l0]
    rw [if_pos (by omega), w64 (by omega) (by omega), show ((i + 1 : Nat) : Int) - 1 = (i : Int) by omega, if_pos (by omega), if_pos (by omega)]
    have hr := dig_rd l hd i (by omega)
    by_cases c : rd l (i : Int) = 0
    · rw [if_pos c]
      obtain ⟨r, e1, e2, e3, e4⟩ := ih k (by omega) (by omega)
      refine ⟨r, e1, e2, ?_, by omega⟩
      rw [e3, take_step l i (by omega), val_append, c]; simp [val]
    · rw [if_neg c, if_neg (by omega)]
      simp only [Option.bind_some]
      rw [if_pos (by omega), if_pos (by omega), Int.toNat_natCast, if_pos (by simp; omega)]
      refine ⟨_, rfl, ?_, by simp, by simp; omega⟩
      rw [List.nil_append, take_step l i (by omega)]
      exact nrm_snoc (dig_take l hd i) hr.1 hr.2 c

theorem fit_eq (l : List Int) (hd : Dig l) (hl : l.length ≤ 48) (k : Nat) (hk : 100 ≤ k) : ∃ r, papermillref02_fit.f k l = some (r, 0) ∧ Nrm r ∧ val r = val l ∧ r.length ≤ l.length := by
  obtain ⟨r, e1, e2, e3, e4⟩ := fit_l0 l hd hl l.length k (Nat.le_refl _) (by omega)
  exact ⟨r, e1, e2, by rw [e3, List.take_length], e4⟩

theorem times_l2 (l : List Int) (hd : Dig l) (hl : l.length ≤ 60) : ∀ (i k : Nat), i ≤ l.length → i < k → ∃ r, papermillref02_times.l2 k l (i : Int) = some r ∧ Nrm r ∧ val r = val (l.take i) ∧ r.length ≤ i := by
  intro i
  induction i with
  | zero =>
    intro k _ hk
    obtain ⟨k, rfl⟩ : ∃ j, k = j + 1 := ⟨k - 1, by omega⟩
    exact ⟨[], by simp [papermillref02_times.l2], trivial, by simp, by simp⟩
  | succ i ih =>
    intro k h hk
    obtain ⟨k, rfl⟩ : ∃ j, k = j + 1 := ⟨k - 1, by omega⟩
    simp only [papermillref02_times.l2]
    rw [if_pos (by omega), w64 (by omega) (by omega), show ((i + 1 : Nat) : Int) - 1 = (i : Int) by omega, if_pos (by omega), if_pos (by omega)]
    have hr := dig_rd l hd i (by omega)
    by_cases c : rd l (i : Int) = 0
    · rw [if_pos c]
      obtain ⟨r, e1, e2, e3, e4⟩ := ih k (by omega) (by omega)
      refine ⟨r, e1, e2, ?_, by omega⟩
      rw [e3, take_step l i (by omega), val_append, c]; simp [val]
    · rw [if_neg c, if_pos (by omega), if_pos (by omega), Int.toNat_natCast]
      refine ⟨_, rfl, ?_, rfl, by simp; omega⟩
      rw [take_step l i (by omega)]
      exact nrm_snoc (dig_take l hd i) hr.1 hr.2 c

theorem at_in (l : List Int) (i : Nat) (h : i < l.length) : papermillref02_at.f l (i : Int) = some (rd l (i : Int)) := by
  unfold papermillref02_at.f; rw [if_pos (by omega), if_pos (by omega)]
theorem at_out (l : List Int) (i : Nat) (h : l.length ≤ i) : papermillref02_at.f l (i : Int) = some 0 := by
  unfold papermillref02_at.f; rw [if_neg (by omega)]

/-- One limb of the product, and what is carried. -/
theorem times_step (b : List Int) (m : Int) (hb : Dig b) (lb : b.length ≤ 50) (h4 : 0 ≤ m) (h5 : m < 1000000000) (o : List Int) (c : Int) (n k : Nat) (hc0 : 0 ≤ c) (hc1 : c < 1000000000) (ho : o.length < b.length) (hn : o.length + 1 + n ≤ 60) (hn1 : 1 ≤ n) (hk : 4 ≤ k) :
    ∃ k', k ≤ k' + 3 ∧ papermillref02_times.l1 k b [m] (o ++ c :: List.replicate n 0) (o.length : Int) 0 0 = papermillref02_times.l0 k' b [m] ((o ++ [(c + rd b (o.length : Int) * m) % 1000000000]) ++ (c + rd b (o.length : Int) * m) / 1000000000 :: List.replicate (n - 1) 0) ((o.length + 1 : Nat) : Int) := by
  obtain ⟨k, rfl⟩ : ∃ j, k = j + 4 := ⟨k - 4, by omega⟩
  have hr := dig_rd b hb o.length ho
  generalize hx : rd b (o.length : Int) = x at *
  have B := mul_bnd hc0 hc1 hr.1 hr.2 h4 h5
  have hlen : (o ++ c :: List.replicate n 0).length = o.length + 1 + n := by simp; omega
  have e1 : papermillref02_at.f [m] 0 = some m := by simp [papermillref02_at.f, rd]
  have e2 : papermillref02_at.f [m] 1 = some 0 := by simp [papermillref02_at.f]
  simp only [papermillref02_times.l1]
  rw [if_pos (by simp), show wrap64 ((o.length : Int) + 0) = (o.length : Int) from by rw [w64 (by omega) (by omega)]; omega, if_pos (by omega), if_pos (by rw [hlen]; omega), if_pos (by omega), if_pos (by omega), e1, Option.bind_some, rd_app, hx, Int.toNat_natCast, set_app,
    w64 (x := x * m) (by omega) (by omega), w64 (x := c + x * m) (by omega) (by omega), Int.add_zero, w64 (x := c + x * m) (by omega) (by omega), tm_nn B.2.2.1, td_nn B.2.2.1, w64 (x := (c + x * m) / 1000000000) (by omega) (by omega), show wrap64 (0 + 1) = 1 from by rw [w64 (by omega) (by omega)]; rfl]
  generalize (c + x * m) / 1000000000 = q at *
  generalize (c + x * m) % 1000000000 = r at *
  rw [if_neg (by simp)]
  obtain ⟨n, rfl⟩ : ∃ j, n = j + 1 := ⟨n - 1, by omega⟩
  have hsp : o ++ r :: List.replicate (n + 1) 0 = (o ++ [r]) ++ 0 :: List.replicate n 0 := by simp [List.replicate_succ]
  have hl1 : (((o ++ [r]).length : Nat) : Int) = (o.length : Int) + 1 := by simp
  by_cases cq : q > 0
  · rw [if_pos cq, w64 (x := (o.length : Int) + 1) (by omega) (by omega), if_pos (by omega), if_pos (by simp; omega), if_pos (by omega), if_pos (by omega), e2, Option.bind_some, hsp, ← hl1, rd_app, Int.toNat_natCast, set_app, Int.mul_zero, w64 (x := 0) (by omega) (by omega), Int.add_zero, w64 (x := 0) (by omega) (by omega), Int.zero_add, w64 (x := q) (by omega) (by omega), tm_nn (by omega), td_nn (by omega), Int.emod_eq_of_lt (by omega) (by omega), Int.ediv_eq_zero_of_lt (by omega) (by omega), w64 (x := 0) (by omega) (by omega), w64 (x := 1 + 1) (by omega) (by omega)]
    rw [if_neg (by simp), if_neg (by omega), hl1]
    exact ⟨k + 1, by omega, by simp⟩
  · obtain rfl : q = 0 := by omega
    rw [if_neg (by omega), hsp, w64 (by omega) (by omega)]
    exact ⟨k + 2, by omega, by simp⟩

theorem times_l0 (b : List Int) (m : Int) (hb : Dig b) (lb : b.length ≤ 50) (h4 : 0 ≤ m) (h5 : m < 1000000000) : ∀ (xs o : List Int) (c : Int) (k : Nat), b.drop o.length = xs → o.length + xs.length = b.length → Dig o → 0 ≤ c → c < 1000000000 → 5 * xs.length + 100 ≤ k →
    ∃ k' , 90 ≤ k' ∧ papermillref02_times.l0 k b [m] (o ++ c :: List.replicate xs.length 0) (o.length : Int) = papermillref02_times.l2 k' (o ++ tmul m c xs) (((o ++ tmul m c xs).length : Nat) : Int) := by
  intro xs
  induction xs with
  | nil =>
    intro o c k hd hl _ _ _ hk
    obtain ⟨k, rfl⟩ : ∃ j, k = j + 1 := ⟨k - 1, by omega⟩
    simp only [papermillref02_times.l0]
    simp only [List.length_nil] at hl hk
    rw [if_neg (by omega)]
    exact ⟨k, by omega, by simp [tmul]⟩
  | cons x xs ih =>
    intro o c k hd hl ho h0 h1 hk
    obtain ⟨k, rfl⟩ : ∃ j, k = j + 1 := ⟨k - 1, by omega⟩
    simp only [List.length_cons] at hl hk ⊢
    have hst := drop_step b o.length (by omega)
    rw [hd] at hst
    injection hst with hx hxs
    have hr := dig_rd b hb o.length (by omega)
    rw [← hx] at hr
    have B := mul_bnd h0 h1 hr.1 hr.2 h4 h5
    simp only [papermillref02_times.l0]
    rw [if_pos (by omega)]
    obtain ⟨k1, hk1, e⟩ := times_step b m hb lb h4 h5 o c (xs.length + 1) k h0 h1 (by omega) (by omega) (by omega) (by omega)
    rw [e, ← hx]
    have := ih (o ++ [(c + x * m) % 1000000000]) ((c + x * m) / 1000000000) k1 (by simpa using hxs.symm) (by simp; omega) (dig_append.2 ⟨ho, by omega, by omega, trivial⟩) (by omega) (by omega) (by omega)
    simpa [tmul] using this

theorem times_eq (b : List Int) (m : Int) (hb : Dig b) (lb : b.length ≤ 48) (h4 : 0 ≤ m) (h5 : m < 1000000000) (k : Nat) (hk : 400 ≤ k) : ∃ r, papermillref02_times.f k b [m] = some r ∧ Nrm r ∧ val r = val b * m ∧ r.length ≤ b.length + 1 := by
  unfold papermillref02_times.f
  rw [w64 (by simp; omega) (by simp; omega), if_pos (by omega), if_pos (by simp; omega)]
  have e : ((b.length : Int) + ([m].length : Int)).toNat = b.length + 1 := by simp
  rw [e, List.replicate_succ]
  obtain ⟨k', hk', e⟩ := times_l0 b m hb (by omega) h4 h5 b [] 0 k (by simp) (by simp) trivial (by omega) (by omega) (by omega)
  have D := tmul_dig m h4 h5 b 0 hb (by omega) (by omega)
  rw [List.nil_append, List.nil_append] at e
  obtain ⟨r, f1, f2, f3, f4⟩ := times_l2 (tmul m 0 b) D.1 (by omega) _ k' (Nat.le_refl _) (by omega)
  refine ⟨r, by rw [← f1, ← e]; rfl, f2, ?_, by omega⟩
  rw [f3, List.take_length, D.2.1]; omega

theorem digit_l0 (r b : List Int) (hr : Nrm r) (hb : Nrm b) (lb : b.length ≤ 47) (hb0 : 0 < val b) : ∀ (j k : Nat) (lo hi : Int), hi - lo < 2 ^ j → 0 ≤ lo → lo ≤ hi → hi ≤ 999999999 → val b * lo ≤ val r → val r < val b * (hi + 1) → j + 500 ≤ k → papermillref02_digit.l0 k r b lo hi = some (val r / val b) := by
  intro j
  induction j with
  | zero =>
    intro k lo hi hj h0 h1 h2 h3 h4 hk
    obtain ⟨k, rfl⟩ : ∃ j, k = j + 1 := ⟨k - 1, by omega⟩
    simp only [papermillref02_digit.l0]
    rw [if_neg (by simp at hj; omega)]
    obtain rfl : lo = hi := by simp at hj; omega
    rw [Int.mul_add, Int.mul_one] at h4
    rw [(div_of (a := val r) (q := lo) (r := val r - val b * lo) hb0 (by omega) (by omega) (by omega)).1]
  | succ j ih =>
    intro k lo hi hj h0 h1 h2 h3 h4 hk
    obtain ⟨k, rfl⟩ : ∃ j, k = j + 1 := ⟨k - 1, by omega⟩
    rw [Int.pow_succ] at hj
    simp only [papermillref02_digit.l0]
    by_cases c : lo < hi
    · rw [if_pos c, w64 (x := lo + hi) (by omega) (by omega), w64 (x := lo + hi + 1) (by omega) (by omega), td_nn (by omega), w64 (x := (lo + hi + 1) / 2) (by omega) (by omega)]
      obtain ⟨t, e1, e2, e3, e4⟩ := times_eq b ((lo + hi + 1) / 2) hb.dig (by omega) (by omega) (by omega) k (by omega)
      rw [e1, Option.bind_some, refcompare_eq t r e2 hr (by omega) k (by omega), Option.bind_some, e3]
      by_cases d : sgn (val b * ((lo + hi + 1) / 2)) (val r) ≤ 0
      · rw [if_pos d]
        rw [sgn_le] at d
        exact ih k _ _ (by omega) (by omega) (by omega) h2 d h4 (by omega)
      · rw [if_neg d, w64 (by omega) (by omega)]
        rw [sgn_le] at d
        exact ih k _ _ (by omega) h0 (by omega) (by omega) h3 (by rw [show (lo + hi + 1) / 2 - 1 + 1 = (lo + hi + 1) / 2 by omega]; omega) (by omega)
    · rw [if_neg c]
      obtain rfl : lo = hi := by omega
      rw [Int.mul_add, Int.mul_one] at h4
      rw [(div_of (a := val r) (q := lo) (r := val r - val b * lo) hb0 (by omega) (by omega) (by omega)).1]

theorem digit_eq (r b : List Int) (hr : Nrm r) (hb : Nrm b) (lb : b.length ≤ 47) (hb0 : 0 < val b) (hlt : val r < val b * 1000000000) (k : Nat) (hk : 600 ≤ k) : papermillref02_digit.f k r b = some (val r / val b) := by
  unfold papermillref02_digit.f
  have := val_nonneg hr.dig
  exact digit_l0 r b hr hb lb hb0 30 k 0 999999999 (by decide) (by omega) (by omega) (by omega) (by omega) (by simpa using hlt) (by omega)

theorem minus_l0 (a b : List Int) (ha : Dig a) (hb : Dig b) (la : a.length ≤ 48) : ∀ (d i k : Nat) (out : List Int) (br : Int), i + d = a.length → out.length = i → 0 ≤ br → br ≤ 1 → d < k →
    ∃ k', k ≤ k' + d + 1 ∧ papermillref02_minus.l0 k a b out br (i : Int) = ((papermillref02_fit.f k' (out ++ msub br (a.drop i) (b.drop i))).bind fun bt => some bt.1) := by
  intro d
  induction d with
  | zero =>
    intro i k out br hi ho h0 h1 hk
    obtain ⟨k, rfl⟩ : ∃ j, k = j + 1 := ⟨k - 1, by omega⟩
    simp only [papermillref02_minus.l0]
    rw [if_neg (by omega), List.drop_of_length_le (l := a) (by omega)]
    exact ⟨k, by omega, by simp [msub]⟩
  | succ d ih =>
    intro i k out br hi ho h0 h1 hk
    obtain ⟨k, rfl⟩ : ∃ j, k = j + 1 := ⟨k - 1, by omega⟩
    have hx := dig_rd a ha i (by omega)
    have hat : ∃ y, papermillref02_at.f b (i : Int) = some y ∧ (b.drop i).headD 0 = y ∧ 0 ≤ y ∧ y < 1000000000 := by
      by_cases c : i < b.length
      · exact ⟨rd b (i : Int), at_in b i c, by rw [drop_step b i c]; rfl, (dig_rd b hb i c).1, (dig_rd b hb i c).2⟩
      · exact ⟨0, at_out b i (by omega), by rw [List.drop_of_length_le (by omega)]; rfl, by omega, by omega⟩
    obtain ⟨y, e1, e2, e3, e4⟩ := hat
    have e5 : (b.drop i).tail = b.drop (i + 1) := by simp
    simp only [papermillref02_minus.l0]
    rw [if_pos (by omega), if_pos (by omega), e1, Option.bind_some, drop_step a i (by omega)]
    generalize rd a (i : Int) = x at *
    rw [w64 (x := x - y) (by omega) (by omega), w64 (x := x - y - br) (by omega) (by omega)]
    simp only [msub, e2, e5]
    by_cases c : x - y - br < 0
    · rw [if_pos c, if_pos (by omega), w64 (x := x - y - br + 1000000000) (by omega) (by omega), w64 (x := (i : Int) + 1) (by omega) (by omega), if_pos c]
      obtain ⟨k', h1, h2⟩ := ih (i + 1) k (out ++ [x - y - br + 1000000000]) 1 (by omega) (by simp; omega) (by omega) (by omega) (by omega)
      refine ⟨k', by omega, ?_⟩
      rw [show ((i : Int) + 1) = ((i + 1 : Nat) : Int) by omega, h2, List.append_assoc]; rfl
    · rw [if_neg c, if_pos (by omega), w64 (x := (i : Int) + 1) (by omega) (by omega), if_neg c]
      obtain ⟨k', h1, h2⟩ := ih (i + 1) k (out ++ [x - y - br]) 0 (by omega) (by simp; omega) (by omega) (by omega) (by omega)
      refine ⟨k', by omega, ?_⟩
      rw [show ((i : Int) + 1) = ((i + 1 : Nat) : Int) by omega, h2, List.append_assoc]; rfl

theorem minus_eq (a b : List Int) (ha : Dig a) (hb : Dig b) (la : a.length ≤ 48) (hv : val b ≤ val a) (k : Nat) (hk : 200 ≤ k) : ∃ r, papermillref02_minus.f k a b = some r ∧ Nrm r ∧ val r = val a - val b ∧ r.length ≤ a.length := by
  unfold papermillref02_minus.f
  obtain ⟨k', h1, h2⟩ := minus_l0 a b ha hb la a.length 0 k [] 0 (by omega) rfl (by omega) (by omega) (by omega)
  have D := msub_dig a b 0 ha hb (by omega) (by omega) (by omega)
  obtain ⟨r, e1, e2, e3, e4⟩ := fit_eq (msub 0 a b) D.1 (by omega) k' (by omega)
  simp only [List.drop_zero, List.nil_append] at h2
  refine ⟨r, ?_, e2, by rw [e3, D.2.1]; omega, by omega⟩
  rw [show ((0 : Nat) : Int) = 0 from rfl] at h2
  rw [h2, e1]; rfl

theorem nrm_cons {x : Int} {r : List Int} (h0 : 0 ≤ x) (h1 : x < 1000000000) (hr : Nrm r) (h : r = [] → x ≠ 0) : Nrm (x :: r) := ⟨h0, h1, hr, h⟩

theorem dm_j2 (a b : List Int) (ha : Nrm a) (hb : Nrm b) (la : a.length ≤ 48) (lb : b.length ≤ 47) (hb0 : 0 < val b)
    (i k : Nat) (hi : i < a.length) (qs r' : List Int) (hl : i + 1 + qs.length = a.length) (hr : Nrm r') (hrl : r'.length ≤ 48) (hlt : val r' < val b * 1000000000) (hk : 700 ≤ k) :
    ∃ r, papermillref02_DivMod.j2 (k + 1) a b (List.replicate (i + 1) 0 ++ qs) r' (i : Int) = papermillref02_DivMod.l0 k a b (List.replicate i 0 ++ (val r' / val b) :: qs) r ((i : Int) - 1) ∧ Nrm r ∧ val r = val r' % val b ∧ r.length ≤ r'.length := by
  have n0 := val_nonneg hr.dig
  have d0 : 0 ≤ val r' / val b := Int.ediv_nonneg n0 (by omega)
  have d1 : val r' / val b < 1000000000 := Int.ediv_lt_of_lt_mul hb0 (by rw [Int.mul_comm]; exact hlt)
  have dm := Int.mul_ediv_add_emod (val r') (val b)
  have m0 := Int.emod_nonneg (val r') (show val b ≠ 0 by omega)
  have m1 := Int.emod_lt_of_pos (val r') hb0
  simp only [papermillref02_DivMod.j2]
  rw [digit_eq r' b hr hb lb hb0 hlt k (by omega), Option.bind_some, if_pos (by omega), if_pos (by simp; omega), Option.bind_some, Int.toNat_natCast, set_rep, w64 (by omega) (by omega)]
  by_cases c : val r' / val b > 0
  · rw [if_pos c]
    obtain ⟨t, e1, e2, e3, e4⟩ := times_eq b (val r' / val b) hb.dig (by omega) d0 d1 k (by omega)
    obtain ⟨r, f1, f2, f3, f4⟩ := minus_eq r' t hr.dig e2.dig hrl (by omega) k (by omega)
    rw [e1, Option.bind_some, f1, Option.bind_some]
    exact ⟨r, rfl, f2, by omega, f4⟩
  · rw [if_neg c]
    have z : val r' / val b = 0 := by omega
    rw [z, Int.mul_zero] at dm
    exact ⟨r', rfl, hr, by omega, Nat.le_refl _⟩

theorem dm_l0 (a b : List Int) (ha : Nrm a) (hb : Nrm b) (la : a.length ≤ 48) (lb : b.length ≤ 47) (hb0 : 0 < val b) : ∀ (i k : Nat) (qs r : List Int), i + qs.length = a.length → Dig qs → Nrm r → val r < val b → r.length ≤ qs.length → val (a.drop i) = val b * val qs + val r → 2 * i + 800 ≤ k →
    ∃ q r', papermillref02_DivMod.l0 k a b (List.replicate i 0 ++ qs) r ((i : Int) - 1) = some (q, r', 0) ∧ Nrm q ∧ Nrm r' ∧ val q = val a / val b ∧ val r' = val a % val b ∧ q.length ≤ a.length ∧ r'.length ≤ a.length := by
  intro i
  induction i with
  | zero =>
    intro k qs r h1 h2 h3 h4 h5 h6 hk
    obtain ⟨k, rfl⟩ : ∃ j, k = j + 1 := ⟨k - 1, by omega⟩
    obtain ⟨q, e1, e2, e3, e4⟩ := fit_eq qs h2 (by omega) k (by omega)
    have hv := div_of hb0 (by simpa using h6) (val_nonneg h3.dig) h4
    refine ⟨q, r, ?_, e2, h3, by rw [e3, hv.1], by rw [hv.2], by omega, by omega⟩
    simp only [papermillref02_DivMod.l0]
    rw [if_neg (by omega), List.replicate_zero, List.nil_append, e1]; rfl
  | succ i ih =>
    intro k qs r h1 h2 h3 h4 h5 h6 hk
    obtain ⟨k, rfl⟩ : ∃ j, k = j + 2 := ⟨k - 2, by omega⟩
    have hr := dig_rd a ha.dig i (by omega)
    have hst := drop_step a i (by omega)
    have n0 := val_nonneg h3.dig
    generalize hx : rd a (i : Int) = x at *
    -- what is brought down
    have key : ∃ r', Nrm r' ∧ val r' = x + 1000000000 * val r ∧ r'.length ≤ r.length + 1 ∧ papermillref02_DivMod.l0 (k + 2) a b (List.replicate (i + 1) 0 ++ qs) r (((i + 1 : Nat) : Int) - 1) = papermillref02_DivMod.j2 (k + 1) a b (List.replicate (i + 1) 0 ++ qs) r' (i : Int) := by
      simp only [papermillref02_DivMod.l0]
      rw [show ((i + 1 : Nat) : Int) - 1 = (i : Int) by omega, if_pos (by omega), if_pos (by omega), if_pos (by omega), Option.bind_some, if_pos (by simp; omega), Option.bind_some, hx]
      have hl : (([x] ++ r).length : Int) = (r.length : Int) + 1 := by simp
      rw [hl, w64 (by omega) (by omega), show (r.length : Int) + 1 - 1 = (r.length : Int) by omega, if_pos (by omega), if_pos (by omega)]
      by_cases c : r = [] ∧ x = 0
      · obtain ⟨rfl, rfl⟩ := c
        rw [if_pos (by simp [rd])]
        exact ⟨[], trivial, by simp [val], by simp, rfl⟩
      · have hN : Nrm (x :: r) := nrm_cons hr.1 hr.2 h3 (fun e z => c ⟨e, z⟩)
        have hne := nrm_last hN (by simp)
        have e : ((x :: r).length : Int) - 1 = (r.length : Int) := by simp
        rw [e] at hne
        rw [if_neg (by simpa using hne)]
        exact ⟨x :: r, hN, rfl, by simp, rfl⟩
    obtain ⟨r', g1, g2, g3, g4⟩ := key
    obtain ⟨r2, f1, f2, f3, f4⟩ := dm_j2 a b ha hb la lb hb0 i k (by omega) qs r' (by omega) g1 (by omega) (by omega) (by omega)
    rw [g4, f1]
    have dm := Int.mul_ediv_add_emod (val r') (val b)
    have d0 : 0 ≤ val r' / val b := Int.ediv_nonneg (by omega) (by omega)
    have d1 : val r' / val b < 1000000000 := Int.ediv_lt_of_lt_mul hb0 (by omega)
    refine ih k (val r' / val b :: qs) r2 (by simp; omega) ⟨d0, d1, h2⟩ f2 (by rw [f3]; exact Int.emod_lt_of_pos _ hb0) (by simp; omega) ?_ (by omega)
    rw [hst]
    simp only [val, h6]
    rw [Int.mul_add (val b), Int.mul_add 1000000000, Int.mul_left_comm (val b) 1000000000, f3]
    omega

theorem refdivmod_eq (a b : List Int) (ha : Nrm a) (hb : Nrm b) (la : a.length ≤ 48) (lb : b.length ≤ 47) (hb0 : 0 < val b) (k : Nat) (hk : 1000 ≤ k) :
    ∃ q r, papermillref02_DivMod.f k a b = some (q, r, 0) ∧ Nrm q ∧ Nrm r ∧ val q = val a / val b ∧ val r = val a % val b ∧ q.length ≤ a.length ∧ r.length ≤ a.length := by
  obtain ⟨k, rfl⟩ : ∃ j, k = j + 1 := ⟨k - 1, by omega⟩
  have hl : b.length ≠ 0 := by intro e; rw [List.length_eq_zero_iff] at e; subst e; simp [val] at hb0
  unfold papermillref02_DivMod.f
  rw [refvalid_eq a ha la _ (by omega), refvalid_eq b hb (by omega) _ (by omega)]
  simp only [Option.bind_some, if_true, Bool.not_true, papermillref02_DivMod.j0]
  rw [if_neg (by simp), if_neg (by omega), if_pos (by omega), if_pos (by omega), Int.toNat_natCast, w64 (by omega) (by omega)]
  have := dm_l0 a b ha hb la lb hb0 a.length k [] [] (by simp) trivial trivial (by simpa [val] using hb0) (by simp) (by simp [val]) (by omega)
  simpa using this

theorem refgcd_l0 : ∀ (n : Nat) (a b : List Int) (A B k : Nat), B < n → Nrm a → Nrm b → a.length ≤ 47 → b.length ≤ 47 → val a = A → val b = B → n + 1100 ≤ k → ∃ r, papermillref02_Gcd.l0 k a b = some (r, 0) ∧ Nrm r ∧ val r = (Nat.gcd A B : Nat) ∧ r.length ≤ 47 := by
  intro n
  induction n with
  | zero => intro a b A B k h; omega
  | succ n ih =>
    intro a b A B k h ha hb la lb va vb hk
    obtain ⟨k, rfl⟩ : ∃ j, k = j + 1 := ⟨k - 1, by omega⟩
    simp only [papermillref02_Gcd.l0]
    by_cases c : (b.length : Int) > 0
    · have hb0 : 0 < val b := by
        cases b with
        | nil => simp at c
        | cons y ys => exact val_pos hb
      have hB : 0 < B := by omega
      have hlt := Nat.mod_lt A hB
      obtain ⟨q, r, e1, e2, e3, e4, e5, e6, e7⟩ := refdivmod_eq a b ha hb (by omega) lb hb0 k (by omega)
      rw [if_pos c, e1, Option.bind_some, Option.bind_some, if_pos (by simp; omega)]
      have hr : val r = ((A % B : Nat) : Int) := by rw [e5, va, vb, Int.natCast_emod]
      obtain ⟨g, f1, f2, f3, f4⟩ := ih ([] ++ b) r B (A % B) k (by omega) hb e3 lb (by omega) vb hr (by omega)
      refine ⟨g, f1, f2, ?_, f4⟩
      rw [f3, Nat.gcd_comm A B, Nat.gcd_rec B A, Nat.gcd_comm]
    · have : b = [] := List.eq_nil_of_length_eq_zero (by omega)
      subst this
      rw [if_neg c]
      have : B = 0 := by simp [val] at vb; omega
      exact ⟨a, rfl, ha, by rw [va, this, Nat.gcd_zero_right], la⟩

theorem refgcd_eq (a b : List Int) (A B k : Nat) (ha : Nrm a) (hb : Nrm b) (la : a.length ≤ 47) (lb : b.length ≤ 47) (va : val a = A) (vb : val b = B) (hk : B + 1200 ≤ k) : ∃ r, papermillref02_Gcd.f k a b = some (r, 0) ∧ Nrm r ∧ val r = (Nat.gcd A B : Nat) ∧ r.length ≤ 47 := by
  obtain ⟨k, rfl⟩ : ∃ j, k = j + 1 := ⟨k - 1, by omega⟩
  unfold papermillref02_Gcd.f
  rw [refvalid_eq a ha (by omega) _ (by omega), refvalid_eq b hb (by omega) _ (by omega)]
  simp only [Option.bind_some, if_true, Bool.not_true, papermillref02_Gcd.j0]
  rw [if_neg (by simp), if_pos (by simp; omega)]
  exact refgcd_l0 (B + 1) ([] ++ a) b A B k (by omega) ha hb la lb va vb (by omega)
end Go.Proofs.Ytnkmeocccbkdkaa.Pure
