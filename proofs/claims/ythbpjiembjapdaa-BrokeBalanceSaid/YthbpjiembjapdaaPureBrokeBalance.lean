/- The statement BrokeBalance over numbers alone: the level after all movements is what came in less what was used, and never negative or above the capacity. -/
import Derived.Test.YthbpjiembjapdaaPx8
import Derived.Test.YthbpjiembjapdaaBrokeLevel
import Derived.Test.YthbpjiembjapdaaHandSums
namespace Go.Proofs.Ythbpjiembjapdaa.Pure
open Go.RowKit Go.Proofs.Ythbpjiembjapdaa.P Go.Proofs.YthbpjiembjapdaaW.PrintWords Go.Proofs.YthbpjiembjapdaaW.PrintLast
set_option linter.unusedVariables false

theorem lev_late (cap t : Int) (l : List S32) : ∀ (lv pr acc : Int), chk2 cap lv pr l = 0 → t < pr → levF t acc l = acc := by
  induction l with
  | nil => intro lv pr acc _ _; rfl
  | cons x l ih =>
    intro lv pr acc h ht
    unfold chk2 at h
    split at h
    · omega
    · split at h
      · omega
      · split at h
        · omega
        · rw [levF, if_neg (by omega)]
          exact ih _ _ _ h (by omega)

theorem lev_in (cap t : Int) (l : List S32) : ∀ (lv pr : Int), (∀ x ∈ l, chk1 x = 0) → chk2 cap lv pr l = 0 → 0 ≤ lv → lv ≤ cap → 0 ≤ levF t lv l ∧ levF t lv l ≤ cap := by
  induction l with
  | nil => intro lv pr _ _ h0 h1; exact ⟨h0, h1⟩
  | cons x l ih =>
    intro lv pr hv h h0 h1
    have hx := (chk1_zero x).1 (hv x (by simp))
    unfold chk2 at h
    split at h
    · omega
    · split at h
      · omega
      · split at h
        · omega
        · rw [levF]
          have hs : 0 ≤ lv + sgn x ∧ lv + sgn x ≤ cap := by
            unfold sgn at *
            split <;> split at * <;> omega
          by_cases c : x.f0 ≤ t
          · rw [if_pos c]; exact ih _ _ (fun y hy => hv y (by simp [hy])) h hs.1 hs.2
          · rw [if_neg c, lev_late cap t l _ _ lv h (by omega)]; exact ⟨h0, h1⟩

def totIn : Int → List S32 → Int
  | a, [] => a
  | a, x :: l => totIn (if x.f1 = 6 then a else a + x.f2) l
def totOut : Int → List S32 → Int
  | a, [] => a
  | a, x :: l => totOut (if x.f1 = 6 then a + x.f2 else a) l

theorem lev_all (l : List S32) : ∀ (a b : Int), (∀ x ∈ l, chk1 x = 0) → levF 2147483647 (a - b) l = totIn a l - totOut b l := by
  induction l with
  | nil => intro a b _; rfl
  | cons x l ih =>
    intro a b hv
    have hx := (chk1_zero x).1 (hv x (by simp))
    rw [levF, totIn, totOut, if_pos (by omega)]
    rw [← ih _ _ (fun y hy => hv y (by simp [hy]))]
    congr 1
    unfold sgn
    split <;> omega

def inSum (l : List Int) : Int := l.getD 0 0 + l.getD 1 0 + l.getD 2 0 + l.getD 3 0 + l.getD 4 0 + l.getD 6 0

theorem sum_step (acc : List Int) (h : acc.length = 7) (x : S32) (hx : chk1 x = 0) : inSum (stepS acc x) = (if x.f1 = 6 then inSum acc else inSum acc + x.f2) ∧ (stepS acc x).getD 5 0 = (if x.f1 = 6 then acc.getD 5 0 + x.f2 else acc.getD 5 0) := by
  have hb := (chk1_zero x).1 hx
  match acc, h with
  | [y0, y1, y2, y3, y4, y5, y6], _ =>
    unfold inSum stepS
    obtain e | e | e | e | e | e | e : x.f1 = 1 ∨ x.f1 = 2 ∨ x.f1 = 3 ∨ x.f1 = 4 ∨ x.f1 = 5 ∨ x.f1 = 6 ∨ x.f1 = 7 := by omega
    all_goals
      rw [e]
      simp
      try omega

theorem sum_tot (l : List S32) : ∀ acc : List Int, acc.length = 7 → (∀ x ∈ l, chk1 x = 0) → inSum (l.foldl stepS acc) = totIn (inSum acc) l ∧ (l.foldl stepS acc).getD 5 0 = totOut (acc.getD 5 0) l := by
  induction l with
  | nil => intro acc _ _; exact ⟨rfl, rfl⟩
  | cons x l ih =>
    intro acc h hv
    have hs := sum_step acc h x (hv x (by simp))
    have := ih (stepS acc x) (by rw [stepS_len]; exact h) (fun y hy => hv y (by simp [hy]))
    rw [List.foldl_cons, totIn, totOut, ← hs.1, ← hs.2]
    exact this

theorem bal_l1 (l : List S32) (cap : Int) (h : chk l cap = 0) (d : Nat) : ∀ (k i : Nat), l.length - i = d → i ≤ l.length → d + 2300 ≤ k → papermilllaw22_BrokeBalance.l1 k l cap (l.length : Int) i = some true := by
  obtain ⟨hc0, hc1, hl, hv, h2⟩ := chk_zero l cap h
  induction d with
  | zero =>
    intro k i hd hi hk
    obtain ⟨k, rfl⟩ : ∃ m, k = m + 1 := ⟨k - 1, by omega⟩
    simp only [papermilllaw22_BrokeBalance.l1]
    rw [if_neg (by omega), broke_awake _ (by omega)]; rfl
  | succ d ih =>
    intro k i hd hi hk
    obtain ⟨k, rfl⟩ : ∃ m, k = m + 1 := ⟨k - 1, by omega⟩
    have hlt : i < l.length := by omega
    simp only [papermilllaw22_BrokeBalance.l1]
    rw [if_pos (by omega), if_pos (by omega), if_pos (by omega), rdT_get l i hlt, level_eq _ _ _ _ (by omega), if_pos h]
    have hb := lev_in cap l[i].f0 l 0 0 hv h2 (by omega) hc0
    simp only [Option.bind_some, if_true]
    rw [if_neg (by omega), if_neg (by omega), w64 (by omega) (by omega)]
    have := ih k (i + 1) (by omega) (by omega) (by omega)
    rwa [show ((i + 1 : Nat) : Int) = (i : Int) + 1 from by omega] at this

theorem bal_l0 (l : List S32) (cap n : Int) (s : List Int) (h : chk l cap = 0) (hs7 : s.length = 7) (hn : n = levF 2147483647 0 l) (d : Nat) : ∀ (k i : Nat) (a b : Int), l.length - i = d → i ≤ l.length → d + 3000 ≤ k →
    0 ≤ a → a ≤ (i : Int) * 1099511627776 → 0 ≤ b → b ≤ (i : Int) * 1099511627776 → n = totIn a (l.drop i) - totOut b (l.drop i) → inSum s = totIn a (l.drop i) → s.getD 5 0 = totOut b (l.drop i) → (∀ j, 0 ≤ s.getD j 0 ∧ s.getD j 0 ≤ (l.length : Int) * 1099511627776) →
    papermilllaw22_BrokeBalance.l0 k l cap s n a b (l.length : Int) i = some true := by
  obtain ⟨hc0, hc1, hl, hv, h2⟩ := chk_zero l cap h
  induction d with
  | zero =>
    intro k i a b hd hi hk a0 a1 b0 b1 hna hin hout hsb
    obtain ⟨k, rfl⟩ : ∃ m, k = m + 2 := ⟨k - 2, by omega⟩
    rw [List.drop_of_length_le (by omega)] at hna hin hout
    simp only [totIn, totOut] at hna hin hout
    have hb := lev_in cap 2147483647 l 0 0 hv h2 (by omega) hc0
    rw [← hn] at hb
    have r0 : rd s 0 = s.getD 0 0 := rfl
    have r1 : rd s 1 = s.getD 1 0 := rfl
    have r2 : rd s 2 = s.getD 2 0 := rfl
    have r3 : rd s 3 = s.getD 3 0 := rfl
    have r4 : rd s 4 = s.getD 4 0 := rfl
    have r5 : rd s 5 = s.getD 5 0 := rfl
    have r6 : rd s 6 = s.getD 6 0 := rfl
    have q0 := hsb 0
    have q1 := hsb 1
    have q2 := hsb 2
    have q3 := hsb 3
    have q4 := hsb 4
    have q6 := hsb 6
    unfold inSum at hin
    simp only [papermilllaw22_BrokeBalance.l0]
    rw [if_neg (by omega), w64 (x := a - b) (by omega) (by omega), if_pos hna, if_neg (by omega), if_neg (by omega), r0, r1, r2, r3, r4, r5, r6, if_pos (by omega), if_pos (by omega), if_pos (by omega), if_pos (by omega), if_pos (by omega), if_pos (by omega), if_pos (by omega), if_pos (by omega)]
    rw [w64 (x := s.getD 0 0 + s.getD 1 0) (by omega) (by omega), w64 (x := s.getD 0 0 + s.getD 1 0 + s.getD 2 0) (by omega) (by omega), w64 (x := s.getD 0 0 + s.getD 1 0 + s.getD 2 0 + s.getD 3 0) (by omega) (by omega), w64 (x := s.getD 0 0 + s.getD 1 0 + s.getD 2 0 + s.getD 3 0 + s.getD 4 0) (by omega) (by omega), w64 (x := s.getD 0 0 + s.getD 1 0 + s.getD 2 0 + s.getD 3 0 + s.getD 4 0 + s.getD 6 0) (by omega) (by omega), hin]
    simp only [papermilllaw22_BrokeBalance.j2]
    rw [if_neg (by simp)]
    exact bal_l1 l cap h l.length k 0 (by omega) (by omega) (by omega)
  | succ d ih =>
    intro k i a b hd hi hk a0 a1 b0 b1 hna hin hout hsb
    obtain ⟨k, rfl⟩ : ∃ m, k = m + 1 := ⟨k - 1, by omega⟩
    have hlt : i < l.length := by omega
    have hx := (chk1_zero _).1 (hv _ (List.getElem_mem hlt))
    rw [List.drop_eq_getElem_cons hlt] at hna hin hout
    simp only [totIn, totOut] at hna hin hout
    simp only [papermilllaw22_BrokeBalance.l0]
    rw [if_pos (by omega), if_pos (by omega), if_pos (by omega), rdT_get l i hlt, w64 (x := (i : Int) + 1) (by omega) (by omega)]
    by_cases c : l[i].f1 = 6
    · rw [if_pos c, if_pos c] at hna
      rw [if_pos c] at hin hout
      rw [if_pos c, w64 (by omega) (by omega)]
      have := ih k (i + 1) a (b + l[i].f2) (by omega) (by omega) (by omega) a0 (by omega) (by omega) (by omega) hna hin hout hsb
      rwa [show ((i + 1 : Nat) : Int) = (i : Int) + 1 from by omega] at this
    · rw [if_neg c, if_neg c] at hna
      rw [if_neg c] at hin hout
      rw [if_neg c, w64 (by omega) (by omega)]
      have := ih k (i + 1) (a + l[i].f2) b (by omega) (by omega) (by omega) (by omega) (by omega) b0 (by omega) hna hin hout hsb
      rwa [show ((i + 1 : Nat) : Int) = (i : Int) + 1 from by omega] at this

theorem BrokeBalance (l0 : List S32) (a1 : Int) (m0 : l0.length ≤ maxLen) (wl0 : ∀ x ∈ l0, (Lit.int .i64 x.f0).wf = true ∧ (Lit.int .i64 x.f1).wf = true ∧ (Lit.int .i64 x.f2).wf = true ∧ (Lit.int .i64 x.f3).wf = true) (w1 : (Lit.int .i64 a1).wf = true) :
    ∃ k, papermilllaw22_BrokeBalance.f k l0 a1 = some true := by
  refine ⟨4000, ?_⟩
  unfold papermilllaw22_BrokeBalance.f broke_Sums.f
  rw [check_eq _ _ _ (by omega), broke_awake _ (by omega), level_eq _ _ _ _ (by omega)]
  simp only [Option.bind_some]
  by_cases h : chk l0 a1 = 0
  · rw [if_pos h, if_pos h, if_pos h]
    simp only [if_true]
    obtain ⟨hc0, hc1, hl, hv, h2⟩ := chk_zero l0 a1 h
    have hlen := sumsF_len l0
    rw [hlen]
    simp only [papermilllaw22_BrokeBalance.j0]
    rw [if_neg (by simp)]
    have ht := sum_tot l0 (List.replicate 7 0) rfl hv
    have hla := lev_all l0 0 0 hv
    refine bal_l0 l0 a1 _ (sumsF l0) h hlen rfl l0.length 3999 0 0 0 (by omega) (by omega) (by omega) (by omega) (by omega) (by omega) (by omega) ?_ ?_ ?_ (fun j => sumsF_bound l0 hv j)
    · simpa using hla
    · simpa [sumsF, inSum] using ht.1
    · simpa [sumsF] using ht.2
  · rw [if_neg h]
end Go.Proofs.Ythbpjiembjapdaa.Pure
