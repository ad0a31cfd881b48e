/- What the functions of the package drive answer. -/
import Derived.Test.YtfjeekjlhgjckaaFirst
import Derived.Test.YtfjeekjlhgjckaaPx4
import Derived.Test.YtfjeekjlhgjckaaPx5
namespace Go.Proofs.Ytfjeekjlhgjckaa.P
open Go.RowKit Go.Proofs.YtfjeekjlhgjckaaW.PrintWords Go.Proofs.YtfjeekjlhgjckaaW.PrintLast Go.Proofs.YtfjeekjlhgjckaaW.PrintMore Go.Proofs.Ytfjeekjlhgjckaa.First
set_option linter.unusedVariables false

abbrev Pace := S42

theorem dwrap {x : Int} (h0 : -9223372036854775808 ≤ x) (h1 : x ≤ 9223372036854775807) : wrap64 x = x := by unfold wrap64; omega

def okE (p : Pace) : Prop := (0 ≤ p.f0 ∧ p.f0 ≤ 2147483647) ∧ 0 ≤ p.f1 ∧ p.f1 ≤ 40000
instance (p : Pace) : Decidable (okE p) := by unfold okE; exact inferInstance

def incr : List Pace → Bool
  | [] => true
  | [_] => true
  | p :: q :: r => decide (p.f0 < q.f0) && incr (q :: r)

def chkSpec (l : List Pace) : Int := if 512 < l.length then 8 else if ¬ (∀ p ∈ l, okE p) then 1 else if incr l then 0 else 9

theorem rd_at (l : List Pace) (i : Nat) (h : i < l.length) : l.drop i = rd_T42 l (i : Int) :: l.drop (i + 1) := by
  rw [List.drop_eq_getElem_cons h]
  unfold rd_T42
  rw [Int.toNat_natCast, List.getD_eq_getElem?_getD, List.getElem?_eq_getElem h, Option.getD_some]

theorem rd_mem (l : List Pace) (i : Nat) (h : i < l.length) : rd_T42 l (i : Int) ∈ l :=
  List.mem_of_mem_drop (show rd_T42 l (i : Int) ∈ l.drop i by rw [rd_at l i h]; exact List.mem_cons_self)

theorem dmoment_eq (t : Int) : drive_moment.f t = some (decide (0 ≤ t ∧ t ≤ 2147483647)) := by
  unfold drive_moment.f
  by_cases h : t ≥ 0
  · rw [if_pos h]; congr 1; apply decide_eq_decide.mpr; omega
  · rw [if_neg h]; congr 1; exact (decide_eq_false (by omega)).symm
theorem incr_two (p q : Pace) (r : List Pace) : incr (p :: q :: r) = (decide (p.f0 < q.f0) && incr (q :: r)) := rfl

/-! ### Check -/
theorem dchk_l1 (l : List Pace) (hl : l.length ≤ 512) (k : Nat) : ∀ d i : Nat, i + 1 + d = l.length → drive_Check.l1 (k + d + 1) l l l.length ((i : Int) + 1) = some (if incr (l.drop i) then 0 else 9) := by
  intro d
  induction d with
  | zero =>
    intro i hi
    unfold drive_Check.l1
    rw [if_neg (by omega), rd_at l i (by omega), List.drop_of_length_le (by omega)]
    rfl
  | succ d ih =>
    intro i hi
    unfold drive_Check.l1
    have h := ih (i + 1) (by omega)
    rw [if_pos (by omega), if_pos (by omega), if_pos (by omega), if_pos (by omega), dwrap (x := (i : Int) + 1 - 1) (by omega) (by omega), if_pos (by omega), if_pos (by omega), dwrap (x := (i : Int) + 1 + 1) (by omega) (by omega), show (i : Int) + 1 - 1 = i by omega]
    rw [rd_at l i (by omega), rd_at l (i + 1) (by omega), incr_two, ← rd_at l (i + 1) (by omega)]
    rw [show ((i + 1 : Nat) : Int) = (i : Int) + 1 by omega] at h ⊢
    by_cases c : (rd_T42 l ((i : Int) + 1)).f0 ≤ (rd_T42 l (i : Int)).f0
    · rw [if_pos c, decide_eq_false (by omega)]; rfl
    · rw [if_neg c, decide_eq_true (by omega), Bool.true_and]; exact h

theorem dchk_l0 (l : List Pace) (hl : l.length ≤ 512) (k : Nat) : ∀ d i : Nat, i + d = l.length → drive_Check.l0 (k + d + 1) l l l.length i = if ∀ p ∈ l.drop i, okE p then drive_Check.l1 k l l l.length 0 else some 1 := by
  intro d
  induction d with
  | zero =>
    intro i hi
    unfold drive_Check.l0
    rw [if_neg (by omega), List.drop_of_length_le (by omega), if_pos (fun p hp => by cases hp)]
  | succ d ih =>
    intro i hi
    unfold drive_Check.l0
    have h := ih (i + 1) (by omega)
    rw [if_pos (by omega), if_pos (by omega), if_pos (by omega), dmoment_eq, dwrap (x := (i : Int) + 1) (by omega) (by omega), rd_at l i (by omega)]
    generalize rd_T42 l (i : Int) = p
    rw [show ((i + 1 : Nat) : Int) = (i : Int) + 1 by omega] at h
    rw [show k + (d + 1) = k + d + 1 by omega, h]
    simp only [Option.bind_some]
    by_cases c1 : 0 ≤ p.f0 ∧ p.f0 ≤ 2147483647
    · rw [if_pos (decide_eq_true c1)]
      by_cases c2 : p.f1 < 0
      · rw [if_pos c2, if_neg (fun hh => by have := hh p List.mem_cons_self; unfold okE at this; omega)]
      · rw [if_neg c2]
        by_cases c3 : p.f1 > 40000
        · rw [if_pos c3, if_neg (fun hh => by have := hh p List.mem_cons_self; unfold okE at this; omega)]
        · rw [if_neg c3]
          have hp : okE p := ⟨c1, by omega, by omega⟩
          by_cases c : ∀ q ∈ l.drop (i + 1), okE q
          · rw [if_pos c, if_pos (fun q hq => (List.mem_cons.1 hq).elim (fun e => e ▸ hp) (c q))]
          · rw [if_neg c, if_neg (fun hh => c (fun q hq => hh q (List.mem_cons_of_mem _ hq)))]
    · rw [if_neg (by rw [decide_eq_false c1]; decide), if_neg (fun hh => c1 (hh p List.mem_cons_self).1)]

theorem dCheck_eq (l : List Pace) (k : Nat) (hk : 1100 ≤ k) : drive_Check.f k l = some (chkSpec l) := by
  unfold drive_Check.f chkSpec
  by_cases c : 512 < l.length
  · rw [if_pos (by omega), if_pos c]
  · rw [if_neg (by omega), if_neg c]
    obtain ⟨k', rfl⟩ : ∃ k', k = k' + l.length + 1 + l.length + 1 := ⟨k - (l.length + 1 + l.length + 1), by omega⟩
    have h := dchk_l0 l (by omega) (k' + l.length + 1) l.length 0 (by omega)
    rw [List.drop_zero] at h
    refine h.trans ?_
    by_cases d : ∀ p ∈ l, okE p
    · rw [if_pos d, if_neg (fun hh => hh d)]
      by_cases e : l.length = 0
      · have : l = [] := List.length_eq_zero_iff.1 e
        subst this
        unfold drive_Check.l1
        rfl
      · unfold drive_Check.l1
        obtain ⟨m, hm⟩ : ∃ m, l.length = m + 1 := ⟨l.length - 1, by omega⟩
        rw [if_pos (by omega), if_pos (by omega), if_pos (by omega), if_neg (by omega)]
        have g := dchk_l1 l (by omega) k' m 0 (by omega)
        rw [List.drop_zero] at g
        have e2 : k' + l.length = k' + m + 1 := by omega
        rw [e2, dwrap (x := (0 : Int) + 1) (by omega) (by omega)]
        exact g
    · rw [if_neg d, if_pos d]

/-! ### the length before a moment -/
def term (p : Pace) (e : Int) : Int := max 0 (e - p.f0) * p.f1
def beforeZ : List Pace → Int → Int
  | [], _ => 0
  | [p], t => term p t
  | p :: q :: r, t => term p (min t q.f0) + beforeZ (q :: r) t

theorem before_one (p : Pace) (t : Int) : beforeZ [p] t = term p t := rfl
theorem before_two (p q : Pace) (r : List Pace) (t : Int) : beforeZ (p :: q :: r) t = term p (min t q.f0) + beforeZ (q :: r) t := rfl

theorem term_bounds (p : Pace) (e : Int) (hp : okE p) (he : e ≤ 2147483648) : 0 ≤ term p e ∧ term p e ≤ 85899345920000 := by
  unfold okE at hp
  unfold term
  exact ⟨Int.mul_nonneg (by omega) (by omega), Int.le_trans (Int.mul_le_mul_of_nonneg_right (show max 0 (e - p.f0) ≤ 2147483648 by omega) (by omega)) (Int.le_trans (Int.mul_le_mul_of_nonneg_left (show p.f1 ≤ 40000 by omega) (by omega)) (by omega))⟩

theorem term_mono (p : Pace) (e e' : Int) (hp : okE p) (h : e ≤ e') : term p e ≤ term p e' := by
  unfold okE at hp
  exact Int.mul_le_mul_of_nonneg_right (by omega) (by omega)

theorem before_bounds (l : List Pace) (t : Int) (hl : ∀ p ∈ l, okE p) (ht : t ≤ 2147483648) : 0 ≤ beforeZ l t ∧ beforeZ l t ≤ l.length * 85899345920000 := by
  induction l with
  | nil => exact ⟨Int.le_refl _, by simp [beforeZ]⟩
  | cons p a ih =>
    cases a with
    | nil => have := term_bounds p t (hl p List.mem_cons_self) ht; rw [before_one]; simp; omega
    | cons q r =>
      have h1 := ih (fun x hx => hl x (List.mem_cons_of_mem _ hx))
      have h2 := term_bounds p (min t q.f0) (hl p List.mem_cons_self) (by omega)
      rw [before_two, List.length_cons]; omega

theorem before_mono (l : List Pace) (t t' : Int) (hl : ∀ p ∈ l, okE p) (h : t ≤ t') : beforeZ l t ≤ beforeZ l t' := by
  induction l with
  | nil => exact Int.le_refl _
  | cons p a ih =>
    cases a with
    | nil => exact term_mono p t t' (hl p List.mem_cons_self) h
    | cons q r =>
      have h1 := ih (fun x hx => hl x (List.mem_cons_of_mem _ hx))
      have h2 := term_mono p (min t q.f0) (min t' q.f0) (hl p List.mem_cons_self) (by omega)
      rw [before_two, before_two]; omega

theorem mx0 (x : Int) : mx 0 x = max 0 x := by unfold mx; split <;> omega
theorem mnx (x y : Int) : mn x y = min x y := by unfold mn; split <;> omega

theorem dbefore_loop (l : List Pace) (t : Int) (hl : l.length ≤ 512) (hok : ∀ p ∈ l, okE p) (h0 : 0 ≤ t) (ht : t ≤ 2147483648) (k : Nat) : ∀ (d i : Nat) (s : Int), i + d = l.length → 0 ≤ s → s ≤ i * 85899345920000 → drive_before.l0 (k + d + 1) l t s l l.length i = some (s + beforeZ (l.drop i) t) := by
  intro d
  induction d with
  | zero =>
    intro i s hi hs0 hs1
    unfold drive_before.l0
    rw [if_neg (by omega), List.drop_of_length_le (by omega)]
    congr 1; show s = s + 0; omega
  | succ d ih =>
    intro i s hi hs0 hs1
    unfold drive_before.l0
    have hm := hok _ (rd_mem l i (by omega))
    have hm' := hm
    unfold okE at hm'
    rw [if_pos (by omega), if_pos (by omega), if_pos (by omega), dwrap (x := (i : Int) + 1) (by omega) (by omega)]
    by_cases c : (i : Int) + 1 < l.length
    · rw [if_pos c, if_pos (by omega), mnx]
      have hq := hok _ (rd_mem l (i + 1) (by omega))
      have hd : l.drop i = rd_T42 l (i : Int) :: rd_T42 l ((i + 1 : Nat) : Int) :: l.drop (i + 1 + 1) := by rw [rd_at l i (by omega), rd_at l (i + 1) (by omega)]
      rw [show ((i + 1 : Nat) : Int) = (i : Int) + 1 by omega] at hq hd
      unfold okE at hq
      have tb := term_bounds (rd_T42 l (i : Int)) (min t (rd_T42 l ((i : Int) + 1)).f0) hm (by omega)
      unfold term at tb
      rw [dwrap (x := min t (rd_T42 l ((i : Int) + 1)).f0 - (rd_T42 l (i : Int)).f0) (by omega) (by omega), mx0, dwrap (x := max 0 (min t (rd_T42 l ((i : Int) + 1)).f0 - (rd_T42 l (i : Int)).f0) * _) (by omega) (by omega), dwrap (x := s + _) (by omega) (by omega)]
      have h := ih (i + 1) (s + max 0 (min t (rd_T42 l ((i : Int) + 1)).f0 - (rd_T42 l (i : Int)).f0) * (rd_T42 l (i : Int)).f1) (by omega) (by omega) (by omega)
      rw [show ((i + 1 : Nat) : Int) = (i : Int) + 1 by omega] at h
      refine h.trans ?_
      have hd2 := rd_at l (i + 1) (by omega)
      rw [show ((i + 1 : Nat) : Int) = (i : Int) + 1 by omega] at hd2
      rw [hd, before_two, hd2]
      unfold term
      congr 1; omega
    · rw [if_neg c]
      have tb := term_bounds (rd_T42 l (i : Int)) t hm ht
      unfold term at tb
      rw [dwrap (x := t - (rd_T42 l (i : Int)).f0) (by omega) (by omega), mx0, dwrap (x := max 0 (t - (rd_T42 l (i : Int)).f0) * _) (by omega) (by omega), dwrap (x := s + _) (by omega) (by omega)]
      have h := ih (i + 1) (s + max 0 (t - (rd_T42 l (i : Int)).f0) * (rd_T42 l (i : Int)).f1) (by omega) (by omega) (by omega)
      rw [show ((i + 1 : Nat) : Int) = (i : Int) + 1 by omega] at h
      refine h.trans ?_
      rw [rd_at l i (by omega), List.drop_of_length_le (show l.length ≤ i + 1 by omega), before_one]
      unfold term
      congr 1; show _ + 0 = _; omega

theorem dbefore_eq (l : List Pace) (t : Int) (hl : l.length ≤ 512) (hok : ∀ p ∈ l, okE p) (h0 : 0 ≤ t) (ht : t ≤ 2147483648) (k : Nat) (hk : 520 ≤ k) : drive_before.f k l t = some (beforeZ l t) := by
  unfold drive_before.f
  obtain ⟨k', rfl⟩ : ∃ k', k = k' + l.length + 1 := ⟨k - (l.length + 1), by omega⟩
  have h := dbefore_loop l t hl hok h0 ht k' l.length 0 0 (by omega) (by omega) (by omega)
  rw [List.drop_zero, Int.zero_add] at h
  exact h

/-! ### the moment of a millimetre -/
/-- The least moment below 2^31 behind which more than x is made; 2^31 if there is none. -/
def whenAt (l : List Pace) (x : Int) : Nat := first (fun t => decide (x < beforeZ l ((t : Int) + 1))) 2147483648
theorem whenAt_spec (l : List Pace) (x : Int) : whenAt l x ≤ 2147483648 ∧ (∀ t : Nat, t < whenAt l x → beforeZ l ((t : Int) + 1) ≤ x) ∧ (whenAt l x < 2147483648 → x < beforeZ l ((whenAt l x : Int) + 1)) := by
  obtain ⟨h1, h2, h3⟩ := first_spec (fun t => decide (x < beforeZ l ((t : Int) + 1))) 2147483648
  exact ⟨h1, fun t ht => by have := of_decide_eq_false (h2 t ht); omega, fun h => of_decide_eq_true (h3 h)⟩
theorem whenAt_unique (l : List Pace) (x : Int) (r : Nat) (h1 : r ≤ 2147483648) (h2 : ∀ t : Nat, t < r → beforeZ l ((t : Int) + 1) ≤ x) (h3 : r < 2147483648 → x < beforeZ l ((r : Int) + 1)) : whenAt l x = r :=
  first_unique _ _ r h1 (fun t ht => decide_eq_false (by have := h2 t ht; omega)) (fun h => decide_eq_true (h3 h))
theorem whenAt_def (l : List Pace) (x : Int) : whenAt l x = first (fun t => decide (x < beforeZ l ((t : Int) + 1))) 2147483648 := rfl
attribute [irreducible] whenAt

def whenSpec (l : List Pace) (x : Int) : Int × Int :=
  if chkSpec l = 0 then (if x < 0 ∨ 17179869184 ≤ x then (0, 1) else if whenAt l x = 2147483648 then (0, 7) else ((whenAt l x : Nat), 0)) else (0, chkSpec l)

theorem chk_zero {l : List Pace} (h : chkSpec l = 0) : l.length ≤ 512 ∧ (∀ p ∈ l, okE p) ∧ incr l = true := by
  unfold chkSpec at h
  by_cases c : 512 < l.length
  · rw [if_pos c] at h; cases h
  · rw [if_neg c] at h
    by_cases d : ∀ p ∈ l, okE p
    · rw [if_neg (fun hh => hh d)] at h
      by_cases e : incr l = true
      · exact ⟨by omega, d, e⟩
      · rw [if_neg e] at h; cases h
    · rw [if_pos d] at h; cases h
theorem chk_cases (l : List Pace) : chkSpec l = 0 ∨ chkSpec l = 1 ∨ chkSpec l = 8 ∨ chkSpec l = 9 := by
  unfold chkSpec; repeat' split
  all_goals simp
end Go.Proofs.Ytfjeekjlhgjckaa.P
