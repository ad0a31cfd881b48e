/- What the reference's Check and Level answer. -/
import Derived.Test.YtnkmeocccbkdkaaBrokeSpec
import Derived.Test.YtnkmeocccbkdkaaPx39
import Derived.Test.YtnkmeocccbkdkaaPx34
namespace Go.Proofs.Ytnkmeocccbkdkaa.P
open Go.RowKit Go.Proofs.YtnkmeocccbkdkaaW.PrintWords Go.Proofs.YtnkmeocccbkdkaaW.PrintLast Go.Proofs.YtnkmeocccbkdkaaW.PrintMore
set_option linter.unusedVariables false

theorem change_eq (x : S63) (h : chk1 x = 0) : papermillref22_Change.f x.f0 x.f1 x.f2 x.f3 = some (sgn x) := by
  obtain ⟨h1, h2, h3, h4, h5, h6, h7, h8⟩ := (chk1_zero x).1 h
  unfold papermillref22_Change.f sgn
  split
  · rw [w64 (by omega) (by omega)]
  · rfl

theorem ref_check_l1 (l : List S63) (cap : Int) (hv : ∀ x ∈ l, chk1 x = 0) (hl : l.length ≤ 512) (hc : cap ≤ 1099511627776) (d : Nat) : ∀ (k i : Nat) (lv : Int), l.length - i = d → i ≤ l.length → 3 * d + 5 ≤ k → 0 ≤ lv → lv ≤ 1099511627776 →
    papermillref22_Check.l1 k l cap lv i = some (chk2 cap lv (prevOf l i) (l.drop i)) := by
  induction d with
  | zero =>
    intro k i lv hd hi hk h0 h1
    obtain ⟨k, rfl⟩ : ∃ m, k = m + 1 := ⟨k - 1, by omega⟩
    simp only [papermillref22_Check.l1]
    rw [if_neg (by omega), List.drop_of_length_le (by omega)]; rfl
  | succ d ih =>
    intro k i lv hd hi hk h0 h1
    obtain ⟨k, rfl⟩ : ∃ m, k = m + 3 := ⟨k - 3, by omega⟩
    have hlt : i < l.length := by omega
    have hx := hv _ (List.getElem_mem hlt)
    obtain ⟨x1, x2, x3, x4, x5, x6, x7, x8⟩ := (chk1_zero _).1 hx
    rw [List.drop_eq_getElem_cons hlt]
    have hj : ∀ b : Bool, b = decide (l[i].f0 < prevOf l i) → papermillref22_Check.j5 (k + 2) l cap lv i b = some (chk2 cap lv (prevOf l i) (l[i] :: l.drop (i + 1))) := by
      intro b hb
      simp only [papermillref22_Check.j5, chk2]
      by_cases c1 : l[i].f0 < prevOf l i
      · rw [hb, decide_eq_true c1, if_pos rfl, if_pos c1]
      · rw [hb, decide_eq_false c1, if_neg (by simp), if_neg c1]
        have h4 : ∀ b : Bool, b = decide (l[i].f1 = 6 ∧ lv < l[i].f2) → papermillref22_Check.j6 (k + 1) l cap lv i b = some (if l[i].f1 = 6 ∧ lv < l[i].f2 then 19 else if cap < lv + sgn l[i] then 8 else chk2 cap (lv + sgn l[i]) l[i].f0 (l.drop (i + 1))) := by
          intro b hb
          simp only [papermillref22_Check.j6]
          by_cases c2 : l[i].f1 = 6 ∧ lv < l[i].f2
          · rw [hb, decide_eq_true c2, if_pos rfl, if_pos c2]
          · rw [hb, decide_eq_false c2, if_neg (by simp), if_neg c2, if_pos (by omega), if_pos (by omega), rdT_get l i hlt, change_eq _ hx]
            simp only [Option.bind_some]
            have hs : 0 ≤ lv + sgn l[i] ∧ lv + sgn l[i] ≤ 2199023255552 := by
              unfold sgn
              split <;> omega
            rw [w64 (by omega) (by omega)]
            by_cases c3 : lv + sgn l[i] > cap
            · rw [if_pos c3, if_pos c3]
            · rw [if_neg c3, if_neg c3, w64 (by omega) (by omega)]
              have := ih k (i + 1) (lv + sgn l[i]) (by omega) (by omega) (by omega) (by omega) (by omega)
              rw [show ((i + 1 : Nat) : Int) = (i : Int) + 1 from by omega, prevOf_succ l i hlt] at this
              exact this
        rw [if_pos (by omega), if_pos (by omega), rdT_get l i hlt]
        by_cases c2 : l[i].f1 = 6
        · rw [if_pos c2]; exact h4 _ (by rw [Bool.eq_iff_iff]; simp; omega)
        · rw [if_neg c2]; exact h4 _ (by rw [Bool.eq_iff_iff]; simp; omega)
    simp only [papermillref22_Check.l1]
    rw [if_pos (by omega)]
    by_cases c0 : i = 0
    · rw [if_neg (by omega)]
      exact hj _ (by subst c0; rw [show prevOf l 0 = 0 from rfl, decide_eq_false (by omega)])
    · rw [if_pos (by omega), if_pos (by omega), w64 (by omega) (by omega), if_pos (by omega), if_pos (by omega), rdT_get l i hlt]
      exact hj _ (by unfold prevOf; rw [if_neg c0])

theorem ref_check_one (l : List S63) (cap : Int) (k i : Nat) (hlt : i < l.length) (r : Option Int) (hr : chk1 l[i] = 0 → papermillref22_Check.l0 k l cap (wrap64 ((i : Int) + 1)) = r) :
    papermillref22_Check.l0 (k + 3) l cap i = if chk1 l[i] = 0 then r else some (chk1 l[i]) := by
  have h3 : ∀ b : Bool, b = decide (l[i].f1 < 1 ∨ 7 < l[i].f1) → 0 ≤ l[i].f0 ∧ l[i].f0 ≤ 2147483647 → papermillref22_Check.j3 (k + 1) l cap i b l[i].f0 l[i].f1 l[i].f2 l[i].f3 = if chk1 l[i] = 0 then r else some (chk1 l[i]) := by
    intro b hb h0
    simp only [papermillref22_Check.j3]
    by_cases c1 : l[i].f1 < 1 ∨ 7 < l[i].f1
    · have e : chk1 l[i] = 17 := by unfold chk1; rw [if_neg (by omega), if_pos c1]
      rw [hb, decide_eq_true c1, if_pos rfl, e]; rfl
    · rw [hb, decide_eq_false c1, if_neg (by simp)]
      by_cases c2 : l[i].f2 < 1
      · have e : chk1 l[i] = 1 := by unfold chk1; rw [if_neg (by omega), if_neg c1, if_pos (by omega)]
        rw [if_pos c2, e]; rfl
      · rw [if_neg c2]
        by_cases c3 : l[i].f2 > 1099511627776
        · have e : chk1 l[i] = 1 := by unfold chk1; rw [if_neg (by omega), if_neg c1, if_pos (by omega)]
          rw [if_pos c3, e]; rfl
        · rw [if_neg c3]
          by_cases c4 : l[i].f3 < 0
          · have e : chk1 l[i] = 1 := by unfold chk1; rw [if_neg (by omega), if_neg c1, if_neg (by omega), if_pos (by omega)]
            rw [if_pos c4, e]; rfl
          · rw [if_neg c4]
            by_cases c5 : l[i].f3 > 206158430208000
            · have e : chk1 l[i] = 1 := by unfold chk1; rw [if_neg (by omega), if_neg c1, if_neg (by omega), if_pos (by omega)]
              rw [if_pos c5, e]; rfl
            · have e : chk1 l[i] = 0 := (chk1_zero _).2 (by omega)
              rw [if_neg c5, if_pos e]
              exact hr e
  have h2 : ∀ b : Bool, b = decide (l[i].f0 < 0 ∨ 2147483647 < l[i].f0) → papermillref22_Check.j2 (k + 2) l cap i b l[i].f0 l[i].f1 l[i].f2 l[i].f3 = if chk1 l[i] = 0 then r else some (chk1 l[i]) := by
    intro b hb
    simp only [papermillref22_Check.j2]
    by_cases c1 : l[i].f0 < 0 ∨ 2147483647 < l[i].f0
    · have e : chk1 l[i] = 1 := by unfold chk1; rw [if_pos c1]
      rw [hb, decide_eq_true c1, if_pos rfl, e]; rfl
    · rw [hb, decide_eq_false c1, if_neg (by simp)]
      by_cases c2 : l[i].f1 < 1
      · rw [if_pos c2]; exact h3 _ (by rw [decide_eq_true (by omega)]) (by omega)
      · rw [if_neg c2]; exact h3 _ (by rw [Bool.eq_iff_iff]; simp; omega) (by omega)
  simp only [papermillref22_Check.l0]
  rw [if_pos (by omega), if_pos (by omega), rdT_get l i hlt]
  by_cases c : l[i].f0 < 0
  · rw [if_pos c]; exact h2 _ (by rw [decide_eq_true (by omega)])
  · rw [if_neg c]; exact h2 _ (by rw [Bool.eq_iff_iff]; simp; omega)

theorem ref_check_l0 (l : List S63) (cap : Int) (hl : l.length ≤ 512) (hc : cap ≤ 1099511627776) (d : Nat) : ∀ (k i : Nat), l.length - i = d → i ≤ l.length → 3 * d + 1600 ≤ k → (∀ x ∈ l.take i, chk1 x = 0) →
    papermillref22_Check.l0 k l cap i = some (if firstErr (l.drop i) = 0 then chk2 cap 0 0 l else firstErr (l.drop i)) := by
  induction d with
  | zero =>
    intro k i hd hi hk hv
    obtain ⟨k, rfl⟩ : ∃ m, k = m + 1 := ⟨k - 1, by omega⟩
    simp only [papermillref22_Check.l0]
    rw [if_neg (by omega), List.drop_of_length_le (by omega), if_pos (show firstErr [] = 0 from rfl)]
    rw [List.take_of_length_le (by omega)] at hv
    have := ref_check_l1 l cap hv hl hc l.length k 0 0 (by omega) (by omega) (by omega) (by omega) (by omega)
    simpa [prevOf] using this
  | succ d ih =>
    intro k i hd hi hk hv
    obtain ⟨k, rfl⟩ : ∃ m, k = m + 3 := ⟨k - 3, by omega⟩
    have hlt : i < l.length := by omega
    rw [ref_check_one l cap k i hlt (some (if firstErr (l.drop (i + 1)) = 0 then chk2 cap 0 0 l else firstErr (l.drop (i + 1)))) (fun c => by
      rw [w64 (by omega) (by omega)]
      have := ih k (i + 1) (by omega) (by omega) (by omega) (by
        rw [List.take_succ_eq_append_getElem hlt]
        intro x hx
        rcases List.mem_append.1 hx with hx | hx
        · exact hv x hx
        · rw [List.mem_singleton.1 hx]; exact c)
      rwa [show ((i + 1 : Nat) : Int) = (i : Int) + 1 from by omega] at this), List.drop_eq_getElem_cons hlt]
    have hfe : firstErr (l[i] :: l.drop (i + 1)) = if chk1 l[i] = 0 then firstErr (l.drop (i + 1)) else chk1 l[i] := rfl
    by_cases c : chk1 l[i] = 0
    · rw [if_pos c] at hfe
      simp only [hfe]
      rw [if_pos c]
    · rw [if_neg c] at hfe
      simp only [hfe]
      rw [if_neg c, if_neg c]

theorem ref_check_eq (l : List S63) (cap : Int) (k : Nat) (hk : 3600 ≤ k) : papermillref22_Check.f k l cap = some (chk l cap) := by
  obtain ⟨k, rfl⟩ : ∃ m, k = m + 1 := ⟨k - 1, by omega⟩
  unfold papermillref22_Check.f chk
  simp only [papermillref22_Check.j0]
  by_cases c1 : cap < 0
  · rw [if_pos c1, if_pos (show cap < 0 ∨ 1099511627776 < cap by omega)]; simp
  · rw [if_neg c1]
    by_cases c2 : cap > 1099511627776
    · rw [decide_eq_true c2, if_pos (show cap < 0 ∨ 1099511627776 < cap by omega)]; simp
    · rw [decide_eq_false c2, if_neg (show ¬ (cap < 0 ∨ 1099511627776 < cap) by omega)]
      simp only [Bool.false_eq_true, if_false]
      by_cases c3 : (l.length : Int) > 512
      · rw [if_pos c3, if_pos (by omega)]
      · rw [if_neg c3, if_neg (show ¬ 512 < l.length by omega)]
        have := ref_check_l0 l cap (by omega) (by omega) l.length k 0 (by omega) (by omega) (by omega) (by simp)
        simpa using this
end Go.Proofs.Ytnkmeocccbkdkaa.P
