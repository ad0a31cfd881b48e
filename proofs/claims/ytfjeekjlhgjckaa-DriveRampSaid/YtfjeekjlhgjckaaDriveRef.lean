/- What the given references for the package drive answer. -/
import Derived.Test.YtfjeekjlhgjckaaDriveSpec0
import Derived.Test.YtfjeekjlhgjckaaPx10
import Derived.Test.YtfjeekjlhgjckaaHandRefLen
namespace Go.Proofs.Ytfjeekjlhgjckaa.P
open Go.RowKit Go.Proofs.YtfjeekjlhgjckaaW.PrintWords Go.Proofs.YtfjeekjlhgjckaaW.PrintLast Go.Proofs.YtfjeekjlhgjckaaW.PrintMore Go.Proofs.Ytfjeekjlhgjckaa.First
set_option linter.unusedVariables false

theorem rmoment_eq (t : Int) : papermillref29_moment.f t = some (decide (0 ≤ t ∧ t ≤ 2147483647)) := by
  unfold papermillref29_moment.f
  by_cases h : t ≥ 0
  · rw [if_pos h]; congr 1; apply decide_eq_decide.mpr; omega
  · rw [if_neg h]; congr 1; exact (decide_eq_false (by omega)).symm

theorem rchk_l1 (l : List Pace) (hl : l.length ≤ 512) (k : Nat) : ∀ d i : Nat, i + 1 + d = l.length → papermillref29_Check.l1 (k + d + 1) l ((i : Int) + 1) = some (if incr (l.drop i) then 0 else 9) := by
  intro d
  induction d with
  | zero =>
    intro i hi
    unfold papermillref29_Check.l1
    rw [if_neg (by omega), rd_at l i (by omega), List.drop_of_length_le (by omega)]
    rfl
  | succ d ih =>
    intro i hi
    unfold papermillref29_Check.l1
    have h := ih (i + 1) (by omega)
    rw [if_pos (by omega), if_pos (by omega), dwrap (x := (i : Int) + 1 - 1) (by omega) (by omega), if_pos (by omega), if_pos (by omega), dwrap (x := (i : Int) + 1 + 1) (by omega) (by omega), show (i : Int) + 1 - 1 = i by omega]
    rw [rd_at l i (by omega), rd_at l (i + 1) (by omega), incr_two, ← rd_at l (i + 1) (by omega)]
    rw [show ((i + 1 : Nat) : Int) = (i : Int) + 1 by omega] at h ⊢
    by_cases c : (rd_T42 l ((i : Int) + 1)).f0 ≤ (rd_T42 l (i : Int)).f0
    · rw [if_pos c, decide_eq_false (by omega)]; rfl
    · rw [if_neg c, decide_eq_true (by omega), Bool.true_and]; exact h

theorem rchk_l0 (l : List Pace) (hl : l.length ≤ 512) (k : Nat) : ∀ d i : Nat, i + d = l.length → papermillref29_Check.l0 (k + d + 1) l i = if ∀ p ∈ l.drop i, okE p then papermillref29_Check.l1 k l 1 else some 1 := by
  intro d
  induction d with
  | zero =>
    intro i hi
    unfold papermillref29_Check.l0
    rw [if_neg (by omega), List.drop_of_length_le (by omega), if_pos (fun p hp => by cases hp)]
  | succ d ih =>
    intro i hi
    unfold papermillref29_Check.l0
    have h := ih (i + 1) (by omega)
    rw [if_pos (by omega), if_pos (by omega), rmoment_eq, dwrap (x := (i : Int) + 1) (by omega) (by omega), rd_at l i (by omega)]
    generalize rd_T42 l (i : Int) = p
    rw [show ((i + 1 : Nat) : Int) = (i : Int) + 1 by omega] at h
    rw [show k + (d + 1) = k + d + 1 by omega, h]
    simp only [Option.bind_some]
    by_cases c1 : 0 ≤ p.f0 ∧ p.f0 ≤ 2147483647
    · rw [if_pos (decide_eq_true c1)]
      by_cases c2 : p.f1 < 0
      · rw [if_pos c2, if_neg (fun hh => by have := hh p List.mem_cons_self; unfold okE at this; omega)]
      · rw [if_neg c2]
        by_cases c3 : p.f1 > 40000
        · rw [if_pos c3, if_neg (fun hh => by have := hh p List.mem_cons_self; unfold okE at this; omega)]
        · rw [if_neg c3]
          have hp : okE p := ⟨c1, by omega, by omega⟩
          by_cases c : ∀ q ∈ l.drop (i + 1), okE q
          · rw [if_pos c, if_pos (fun q hq => (List.mem_cons.1 hq).elim (fun e => e ▸ hp) (c q))]
          · rw [if_neg c, if_neg (fun hh => c (fun q hq => hh q (List.mem_cons_of_mem _ hq)))]
    · rw [if_neg (by rw [decide_eq_false c1]; decide), if_neg (fun hh => c1 (hh p List.mem_cons_self).1)]

theorem rCheck_eq (l : List Pace) (k : Nat) (hk : 1100 ≤ k) : papermillref29_Check.f k l = some (chkSpec l) := by
  unfold papermillref29_Check.f chkSpec
  by_cases c : 512 < l.length
  · rw [if_pos (by omega), if_pos c]
  · rw [if_neg (by omega), if_neg c]
    obtain ⟨k', rfl⟩ : ∃ k', k = k' + l.length + 1 + l.length + 1 := ⟨k - (l.length + 1 + l.length + 1), by omega⟩
    have h := rchk_l0 l (by omega) (k' + l.length + 1) l.length 0 (by omega)
    rw [List.drop_zero] at h
    refine h.trans ?_
    by_cases d : ∀ p ∈ l, okE p
    · rw [if_pos d, if_neg (fun hh => hh d)]
      by_cases e : l.length = 0
      · have : l = [] := List.length_eq_zero_iff.1 e
        subst this
        unfold papermillref29_Check.l1
        rfl
      · obtain ⟨m, hm⟩ : ∃ m, l.length = m + 1 := ⟨l.length - 1, by omega⟩
        have g := rchk_l1 l (by omega) (k' + 1) m 0 (by omega)
        rw [List.drop_zero] at g
        rw [show k' + l.length + 1 = k' + 1 + m + 1 by omega]
        refine Eq.trans ?_ g
        rfl
    · rw [if_neg d, if_pos d]

end Go.Proofs.Ytfjeekjlhgjckaa.P
