/- What broke.Check answers, in plain words, and that the code answers so. -/
import Derived.Test.YtnkmeocccbkdkaaPx34
namespace Go.Proofs.Ytnkmeocccbkdkaa.P
open Go.RowKit Go.Proofs.YtnkmeocccbkdkaaW.PrintWords Go.Proofs.YtnkmeocccbkdkaaW.PrintLast Go.Proofs.YtnkmeocccbkdkaaW.PrintMore
set_option linter.unusedVariables false

theorem w64 {x : Int} (h0 : -9223372036854775808 ≤ x) (h1 : x ≤ 9223372036854775807) : wrap64 x = x := by unfold wrap64; omega

/-- The error of one movement. -/
def chk1 (x : S63) : Int :=
  if x.f0 < 0 ∨ 2147483647 < x.f0 then 1 else if x.f1 < 1 ∨ 7 < x.f1 then 17 else if x.f2 < 1 ∨ 1099511627776 < x.f2 then 1 else if x.f3 < 0 ∨ 206158430208000 < x.f3 then 1 else 0

/-- The first error of a list of movements, each by itself. -/
def firstErr : List S63 → Int
  | [] => 0
  | x :: l => if chk1 x = 0 then firstErr l else chk1 x

def sgn (x : S63) : Int := if x.f1 = 6 then -x.f2 else x.f2

/-- The error of the account. -/
def chk2 (cap : Int) : Int → Int → List S63 → Int
  | _, _, [] => 0
  | lv, pr, x :: l => if x.f0 < pr then 9 else if x.f1 = 6 ∧ lv < x.f2 then 19 else if cap < lv + sgn x then 8 else chk2 cap (lv + sgn x) x.f0 l

def chk (l : List S63) (cap : Int) : Int :=
  if cap < 0 ∨ 1099511627776 < cap then 1 else if 512 < l.length then 8 else if firstErr l = 0 then chk2 cap 0 0 l else firstErr l

theorem chk1_zero (x : S63) : chk1 x = 0 ↔ 0 ≤ x.f0 ∧ x.f0 ≤ 2147483647 ∧ 1 ≤ x.f1 ∧ x.f1 ≤ 7 ∧ 1 ≤ x.f2 ∧ x.f2 ≤ 1099511627776 ∧ 0 ≤ x.f3 ∧ x.f3 ≤ 206158430208000 := by
  unfold chk1
  split
  · omega
  · split
    · omega
    · split
      · omega
      · split <;> omega

theorem firstErr_zero (l : List S63) : firstErr l = 0 ↔ ∀ x ∈ l, chk1 x = 0 := by
  induction l with
  | nil => simp [firstErr]
  | cons x l ih =>
    unfold firstErr
    by_cases h : chk1 x = 0
    · rw [if_pos h, ih]; simp [h]
    · rw [if_neg h]; simp [h]

theorem rdT_get (l : List S63) (i : Nat) (h : i < l.length) : rd_T63 l (i : Int) = l[i] := by
  unfold rd_T63
  rw [Int.toNat_natCast, List.getD_eq_getElem?_getD, List.getElem?_eq_getElem h]; rfl

theorem checkOne_eq (x : S63) (k : Nat) (hk : 5 ≤ k) : broke_checkOne.f k x.f0 x.f1 x.f2 x.f3 = some (chk1 x) := by
  obtain ⟨k, rfl⟩ : ∃ m, k = m + 3 := ⟨k - 3, by omega⟩
  have j0 : ∀ b, broke_checkOne.j0 (k + 3) b x.f0 x.f1 x.f2 x.f3 = some (if b = true then 1 else if x.f1 < 1 ∨ 7 < x.f1 then 17 else if x.f2 < 1 ∨ 1099511627776 < x.f2 then 1 else if x.f3 < 0 ∨ 206158430208000 < x.f3 then 1 else 0) := by
    intro b
    simp only [broke_checkOne.j0, broke_checkOne.j1, broke_checkOne.j2]
    cases b with
    | true => simp
    | false =>
      simp only [Bool.false_eq_true, if_false]
      by_cases c1 : x.f1 < 1
      · rw [if_pos c1, if_pos (show x.f1 < 1 ∨ 7 < x.f1 by omega)]; simp
      · rw [if_neg c1]
        by_cases c2 : x.f1 > 7
        · rw [decide_eq_true c2, if_pos (show x.f1 < 1 ∨ 7 < x.f1 by omega)]; simp
        · rw [decide_eq_false c2, if_neg (show ¬ (x.f1 < 1 ∨ 7 < x.f1) by omega)]
          simp only [Bool.false_eq_true, if_false]
          by_cases c3 : x.f2 < 1
          · rw [if_pos c3, if_pos (show x.f2 < 1 ∨ 1099511627776 < x.f2 by omega)]; simp
          · rw [if_neg c3]
            by_cases c4 : x.f2 > 1099511627776
            · rw [decide_eq_true c4, if_pos (show x.f2 < 1 ∨ 1099511627776 < x.f2 by omega)]; simp
            · rw [decide_eq_false c4, if_neg (show ¬ (x.f2 < 1 ∨ 1099511627776 < x.f2) by omega)]
              simp only [Bool.false_eq_true, if_false]
              by_cases c5 : x.f3 < 0
              · rw [if_pos c5, if_pos (show x.f3 < 0 ∨ 206158430208000 < x.f3 by omega)]
              · rw [if_neg c5]
                by_cases c6 : x.f3 > 206158430208000
                · rw [if_pos c6, if_pos (show x.f3 < 0 ∨ 206158430208000 < x.f3 by omega)]
                · rw [if_neg c6, if_neg (by omega)]
  unfold broke_checkOne.f chk1
  by_cases c1 : x.f0 < 0
  · rw [if_pos c1, j0, if_pos rfl, if_pos (show x.f0 < 0 ∨ 2147483647 < x.f0 by omega)]
  · rw [if_neg c1, j0]
    by_cases c2 : x.f0 > 2147483647
    · rw [decide_eq_true c2, if_pos rfl, if_pos (show x.f0 < 0 ∨ 2147483647 < x.f0 by omega)]
    · rw [decide_eq_false c2, if_neg (by simp), if_neg (show ¬ (x.f0 < 0 ∨ 2147483647 < x.f0) by omega)]

theorem signed_eq (x : S63) (h : chk1 x = 0) (k : Nat) (hk : 2 ≤ k) : broke_signed.f k x.f0 x.f1 x.f2 x.f3 = some (sgn x) := by
  obtain ⟨h1, h2, h3, h4, h5, h6, h7, h8⟩ := (chk1_zero x).1 h
  obtain ⟨k, rfl⟩ : ∃ m, k = m + 1 := ⟨k - 1, by omega⟩
  unfold broke_signed.f sgn
  simp only [broke_signed.j0]
  obtain e | e | e | e | e | e | e : x.f1 = 1 ∨ x.f1 = 2 ∨ x.f1 = 3 ∨ x.f1 = 4 ∨ x.f1 = 5 ∨ x.f1 = 6 ∨ x.f1 = 7 := by omega
  all_goals rw [e]
  all_goals simp
  rw [w64 (by omega) (by omega)]

def prevOf (l : List S63) (i : Nat) : Int := if i = 0 then 0 else (rd_T63 l ((i : Int) - 1)).f0

theorem prevOf_succ (l : List S63) (i : Nat) (h : i < l.length) : prevOf l (i + 1) = l[i].f0 := by
  unfold prevOf
  rw [if_neg (by omega), show ((i + 1 : Nat) : Int) - 1 = (i : Int) by omega, rdT_get l i h]

theorem check_l1 (l : List S63) (cap : Int) (hv : ∀ x ∈ l, chk1 x = 0) (hl : l.length ≤ 512) (hc : cap ≤ 1099511627776) (d : Nat) : ∀ (k i : Nat) (lv : Int), l.length - i = d → i ≤ l.length → 3 * d + 5 ≤ k → 0 ≤ lv → lv ≤ 1099511627776 →
    broke_Check.l1 k l cap lv (l.length : Int) i = some (chk2 cap lv (prevOf l i) (l.drop i)) := by
  induction d with
  | zero =>
    intro k i lv hd hi hk h0 h1
    obtain ⟨k, rfl⟩ : ∃ m, k = m + 1 := ⟨k - 1, by omega⟩
    simp only [broke_Check.l1]
    rw [if_neg (by omega), List.drop_of_length_le (by omega)]; rfl
  | succ d ih =>
    intro k i lv hd hi hk h0 h1
    obtain ⟨k, rfl⟩ : ∃ m, k = m + 3 := ⟨k - 3, by omega⟩
    have hlt : i < l.length := by omega
    have hx := hv _ (List.getElem_mem hlt)
    obtain ⟨x1, x2, x3, x4, x5, x6, x7, x8⟩ := (chk1_zero _).1 hx
    rw [List.drop_eq_getElem_cons hlt]
    have hj : ∀ b : Bool, b = decide (l[i].f0 < prevOf l i) → broke_Check.j3 (k + 2) l cap lv (l.length : Int) i b l[i].f0 l[i].f1 l[i].f2 l[i].f3 = some (chk2 cap lv (prevOf l i) (l[i] :: l.drop (i + 1))) := by
      intro b hb
      simp only [broke_Check.j3, chk2]
      by_cases c1 : l[i].f0 < prevOf l i
      · rw [hb, decide_eq_true c1, if_pos rfl, if_pos c1]
      · rw [hb, decide_eq_false c1, if_neg (by simp), if_neg c1]
        have h4 : ∀ b : Bool, b = decide (l[i].f1 = 6 ∧ lv < l[i].f2) → broke_Check.j4 (k + 1) l cap lv (l.length : Int) i b l[i].f0 l[i].f1 l[i].f2 l[i].f3 = some (if l[i].f1 = 6 ∧ lv < l[i].f2 then 19 else if cap < lv + sgn l[i] then 8 else chk2 cap (lv + sgn l[i]) l[i].f0 (l.drop (i + 1))) := by
          intro b hb
          simp only [broke_Check.j4]
          by_cases c2 : l[i].f1 = 6 ∧ lv < l[i].f2
          · rw [hb, decide_eq_true c2, if_pos rfl, if_pos c2]
          · rw [hb, decide_eq_false c2, if_neg (by simp), if_neg c2, signed_eq _ hx k (by omega)]
            simp only [Option.bind_some]
            have hs : 0 ≤ lv + sgn l[i] ∧ lv + sgn l[i] ≤ 2199023255552 := by
              unfold sgn
              split <;> omega
            rw [w64 (by omega) (by omega)]
            by_cases c3 : lv + sgn l[i] > cap
            · rw [if_pos c3, if_pos c3]
            · rw [if_neg c3, if_neg c3, w64 (by omega) (by omega)]
              have := ih k (i + 1) (lv + sgn l[i]) (by omega) (by omega) (by omega) (by omega) (by omega)
              rw [show ((i + 1 : Nat) : Int) = (i : Int) + 1 from by omega, prevOf_succ l i hlt] at this
              exact this
        by_cases c2 : l[i].f1 = 6
        · rw [if_pos c2]; exact h4 _ (by rw [Bool.eq_iff_iff]; simp; omega)
        · rw [if_neg c2]; exact h4 _ (by rw [Bool.eq_iff_iff]; simp; omega)
    simp only [broke_Check.l1]
    rw [if_pos (by omega), if_pos (by omega), if_pos (by omega), rdT_get l i hlt]
    by_cases c0 : i = 0
    · rw [if_neg (by omega)]
      exact hj _ (by subst c0; rw [show prevOf l 0 = 0 from rfl, decide_eq_false (by omega)])
    · rw [if_pos (by omega), w64 (by omega) (by omega), if_pos (by omega), if_pos (by omega)]
      exact hj _ (by unfold prevOf; rw [if_neg c0])

theorem check_l0 (l : List S63) (cap : Int) (hl : l.length ≤ 512) (hc : cap ≤ 1099511627776) (d : Nat) : ∀ (k i : Nat), l.length - i = d → i ≤ l.length → d + 1600 ≤ k → (∀ x ∈ l.take i, chk1 x = 0) →
    broke_Check.l0 k l cap (l.length : Int) i = some (if firstErr (l.drop i) = 0 then chk2 cap 0 0 l else firstErr (l.drop i)) := by
  induction d with
  | zero =>
    intro k i hd hi hk hv
    obtain ⟨k, rfl⟩ : ∃ m, k = m + 1 := ⟨k - 1, by omega⟩
    simp only [broke_Check.l0]
    rw [if_neg (by omega), List.drop_of_length_le (by omega), if_pos (show firstErr [] = 0 from rfl)]
    rw [List.take_of_length_le (by omega)] at hv
    have := check_l1 l cap hv hl hc l.length k 0 0 (by omega) (by omega) (by omega) (by omega) (by omega)
    simpa [prevOf] using this
  | succ d ih =>
    intro k i hd hi hk hv
    obtain ⟨k, rfl⟩ : ∃ m, k = m + 1 := ⟨k - 1, by omega⟩
    have hlt : i < l.length := by omega
    simp only [broke_Check.l0]
    rw [if_pos (by omega), if_pos (by omega), if_pos (by omega), rdT_get l i hlt, checkOne_eq _ k (by omega), List.drop_eq_getElem_cons hlt]
    simp only [Option.bind_some]
    have hfe : firstErr (l[i] :: l.drop (i + 1)) = if chk1 l[i] = 0 then firstErr (l.drop (i + 1)) else chk1 l[i] := rfl
    by_cases c : chk1 l[i] = 0
    · rw [if_pos c] at hfe
      simp only [hfe]
      rw [if_pos c, w64 (by omega) (by omega)]
      have := ih k (i + 1) (by omega) (by omega) (by omega) (by
        rw [List.take_succ_eq_append_getElem hlt]
        intro x hx
        rcases List.mem_append.1 hx with hx | hx
        · exact hv x hx
        · rw [List.mem_singleton.1 hx]; exact c)
      rw [show ((i + 1 : Nat) : Int) = (i : Int) + 1 from by omega] at this
      exact this
    · rw [if_neg c] at hfe
      simp only [hfe]
      rw [if_neg c, if_neg c]

theorem check_eq (l : List S63) (cap : Int) (k : Nat) (hk : 2200 ≤ k) : broke_Check.f k l cap = some (chk l cap) := by
  obtain ⟨k, rfl⟩ : ∃ m, k = m + 1 := ⟨k - 1, by omega⟩
  unfold broke_Check.f chk
  simp only [broke_Check.j0]
  by_cases c1 : cap < 0
  · rw [if_pos c1, if_pos (show cap < 0 ∨ 1099511627776 < cap by omega)]; simp
  · rw [if_neg c1]
    by_cases c2 : cap > 1099511627776
    · rw [decide_eq_true c2, if_pos (show cap < 0 ∨ 1099511627776 < cap by omega)]; simp
    · rw [decide_eq_false c2, if_neg (show ¬ (cap < 0 ∨ 1099511627776 < cap) by omega)]
      simp only [Bool.false_eq_true, if_false]
      by_cases c3 : (l.length : Int) > 512
      · rw [if_pos c3, if_pos (by omega)]
      · rw [if_neg c3, if_neg (show ¬ 512 < l.length by omega)]
        have := check_l0 l cap (by omega) (by omega) l.length k 0 (by omega) (by omega) (by omega) (by simp)
        simpa using this

/-- A valid account: what Check has seen. -/
theorem chk_zero (l : List S63) (cap : Int) (h : chk l cap = 0) : 0 ≤ cap ∧ cap ≤ 1099511627776 ∧ l.length ≤ 512 ∧ (∀ x ∈ l, chk1 x = 0) ∧ chk2 cap 0 0 l = 0 := by
  unfold chk at h
  split at h
  · omega
  · split at h
    · omega
    · split at h
      · rename_i h3
        exact ⟨by omega, by omega, by omega, (firstErr_zero l).1 h3, h⟩
      · exact absurd h (by assumption)

/-- The sums of the masses of each kind. -/
def stepS (acc : List Int) (x : S63) : List Int := acc.set (x.f1 - 1).toNat (acc.getD (x.f1 - 1).toNat 0 + x.f2)
def sumsF (l : List S63) : List Int := l.foldl stepS (List.replicate 7 0)
theorem stepS_len (acc : List Int) (x : S63) : (stepS acc x).length = acc.length := by unfold stepS; simp
theorem foldS_len (l : List S63) : ∀ acc, (l.foldl stepS acc).length = acc.length := by
  induction l with
  | nil => intro acc; rfl
  | cons x l ih => intro acc; rw [List.foldl_cons, ih, stepS_len]
theorem sumsF_len (l : List S63) : (sumsF l).length = 7 := by unfold sumsF; rw [foldS_len]; rfl
theorem foldS_bound (l : List S63) : ∀ (acc : List Int) (n : Nat), (∀ x ∈ l, chk1 x = 0) → (∀ j, 0 ≤ acc.getD j 0 ∧ acc.getD j 0 ≤ (n : Int) * 1099511627776) → ∀ j, 0 ≤ (l.foldl stepS acc).getD j 0 ∧ (l.foldl stepS acc).getD j 0 ≤ ((n + l.length : Nat) : Int) * 1099511627776 := by
  induction l with
  | nil => intro acc n _ h; simpa using h
  | cons x l ih =>
    intro acc n hv h j
    have hx := (chk1_zero x).1 (hv x (by simp))
    have := ih (stepS acc x) (n + 1) (fun y hy => hv y (by simp [hy])) (fun j => by
      have h1 := h j
      have h2 := h (x.f1 - 1).toNat
      unfold stepS
      rw [List.getD_eq_getElem?_getD, List.getElem?_set]
      split
      · split
        · simp only [Option.getD_some]; omega
        · simp only [Option.getD_none]; omega
      · rw [← List.getD_eq_getElem?_getD]; omega) j
    rw [List.foldl_cons, List.length_cons]
    rw [show n + (l.length + 1) = n + 1 + l.length by omega]
    exact this
theorem sumsF_bound (l : List S63) (hv : ∀ x ∈ l, chk1 x = 0) (j : Nat) : 0 ≤ (sumsF l).getD j 0 ∧ (sumsF l).getD j 0 ≤ (l.length : Int) * 1099511627776 := by
  have := foldS_bound l (List.replicate 7 0) 0 hv (fun j => by
    rw [List.getD_eq_getElem?_getD, List.getElem?_replicate]
    split <;> simp) j
  simpa [sumsF] using this
end Go.Proofs.Ytnkmeocccbkdkaa.P
