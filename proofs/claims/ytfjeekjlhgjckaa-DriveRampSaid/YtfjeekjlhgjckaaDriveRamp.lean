/- Ramp: what the package and the given reference answer. -/
import Derived.Test.YtfjeekjlhgjckaaDriveSpec0
import Derived.Test.YtfjeekjlhgjckaaPx7
import Derived.Test.YtfjeekjlhgjckaaPx16
import Derived.Test.YtfjeekjlhgjckaaDriveRef
namespace Go.Proofs.Ytfjeekjlhgjckaa.P
open Go.RowKit Go.Proofs.YtfjeekjlhgjckaaW.PrintWords Go.Proofs.YtfjeekjlhgjckaaW.PrintLast Go.Proofs.YtfjeekjlhgjckaaW.PrintMore
set_option linter.unusedVariables false

/-- The speed i seconds after the start. -/
def rampV (fr tb st : Int) (i : Int) : Int := if fr < tb then min tb (fr + i * st) else max tb (fr - i * st)
def rampN (fr tb st : Int) : Int := (max (fr - tb) (tb - fr) + st - 1) / st
def rampL (at_ fr tb st : Int) (n : Nat) : List Pace := (List.range n).map fun (i : Nat) => ⟨at_ + (i : Int), rampV fr tb st (i : Int)⟩
def rampOk (at_ fr tb st : Int) : Prop := (0 ≤ at_ ∧ at_ ≤ 2147483647) ∧ 0 ≤ fr ∧ fr ≤ 40000 ∧ 0 ≤ tb ∧ tb ≤ 40000 ∧ 1 ≤ st ∧ st ≤ 40000
instance (a b c d : Int) : Decidable (rampOk a b c d) := by unfold rampOk; exact inferInstance
def rampSpec (at_ fr tb st : Int) : List Pace × Int :=
  if ¬ rampOk at_ fr tb st then ([], 1) else if 512 < rampN fr tb st + 1 then ([], 8) else if 2147483647 < at_ + rampN fr tb st then ([], 37) else (rampL at_ fr tb st (rampN fr tb st + 1).toNat, 0)

theorem rampN_spec (fr tb st : Int) (h : 1 ≤ st) : 0 ≤ rampN fr tb st ∧ max (fr - tb) (tb - fr) ≤ rampN fr tb st * st ∧ (∀ i : Int, i < rampN fr tb st → i * st < max (fr - tb) (tb - fr)) := by
  unfold rampN
  generalize hD : max (fr - tb) (tb - fr) = D
  have hD0 : 0 ≤ D := by omega
  have d := Int.mul_ediv_add_emod (D + st - 1) st
  have e1 := Int.emod_nonneg (D + st - 1) (show st ≠ 0 by omega)
  have e2 := Int.emod_lt_of_pos (D + st - 1) (show 0 < st by omega)
  have q0 := Int.ediv_nonneg (show 0 ≤ D + st - 1 by omega) (show 0 ≤ st by omega)
  generalize (D + st - 1) / st = q at *
  refine ⟨q0, by rw [Int.mul_comm]; omega, fun i hi => ?_⟩
  have h3 : (i + 1) * st ≤ q * st := Int.mul_le_mul_of_nonneg_right (by omega) (by omega)
  rw [Int.add_mul, Int.one_mul, Int.mul_comm q st] at h3
  omega

theorem rampN_le (fr tb st : Int) (h : 1 ≤ st) (h1 : 0 ≤ fr) (h2 : fr ≤ 40000) (h3 : 0 ≤ tb) (h4 : tb ≤ 40000) : rampN fr tb st ≤ 40000 := by
  by_cases c : rampN fr tb st ≤ 40000
  · exact c
  · have := (rampN_spec fr tb st h).2.2 40000 (by omega)
    have h5 : (40000 : Int) * 1 ≤ 40000 * st := Int.mul_le_mul_of_nonneg_left h (by omega)
    omega

theorem ramp_bounds (fr tb st i : Int) (h : 1 ≤ st) (h1 : 0 ≤ fr) (h2 : fr ≤ 40000) (h3 : 0 ≤ tb) (h4 : tb ≤ 40000) (hi : 0 ≤ i) : 0 ≤ rampV fr tb st i ∧ rampV fr tb st i ≤ 40000 := by
  have := Int.mul_nonneg hi (show 0 ≤ st by omega)
  unfold rampV; split <;> omega

theorem ist (i st : Int) (h0 : 0 ≤ i) (h1 : i ≤ 50000) (h2 : 1 ≤ st) (h3 : st ≤ 40000) : 0 ≤ i * st ∧ i * st ≤ 2000000000 :=
  ⟨Int.mul_nonneg h0 (by omega), Int.le_trans (Int.mul_le_mul_of_nonneg_right h1 (by omega)) (Int.le_trans (Int.mul_le_mul_of_nonneg_left h3 (by omega)) (by omega))⟩

theorem dramp_loop (at_ fr tb st : Int) (h : rampOk at_ fr tb st) (n : Nat) (hn : n ≤ 512) (k : Nat) : ∀ d i : Nat, i + d = n → drive_Ramp.l0 (k + d + 1) at_ fr tb st (rampL at_ fr tb st i) n i = some (rampL at_ fr tb st n, 0) := by
  unfold rampOk at h
  intro d
  induction d with
  | zero =>
    intro i hi
    unfold drive_Ramp.l0
    rw [if_neg (by omega), show i = n by omega]
  | succ d ih =>
    intro i hi
    unfold drive_Ramp.l0
    have b := ist i st (by omega) (by omega) (by omega) (by omega)
    have h2 := ih (i + 1) (by omega)
    have e : rampL at_ fr tb st (i + 1) = rampL at_ fr tb st i ++ [⟨at_ + (i : Int), rampV fr tb st (i : Int)⟩] := by unfold rampL; rw [List.range_succ, List.map_append]; rfl
    have hl : (rampL at_ fr tb st i).length = i := by unfold rampL; simp
    rw [e] at h2
    unfold rampV at h2
    rw [show ((i + 1 : Nat) : Int) = (i : Int) + 1 by omega] at h2
    rw [if_pos (by omega), dwrap (x := (i : Int) * st) (by omega) (by omega), dwrap (x := at_ + (i : Int)) (by omega) (by omega), dwrap (x := (i : Int) + 1) (by omega) (by omega)]
    by_cases c : fr < tb
    · rw [if_pos c] at h2 ⊢
      rw [if_pos (by omega), dwrap (x := fr + (i : Int) * st) (by omega) (by omega), mnx]
      exact h2
    · rw [if_neg c] at h2 ⊢
      have em : ∀ x y : Int, mx x y = max x y := by intro x y; unfold mx; split <;> omega
      rw [if_pos (by omega), dwrap (x := fr - (i : Int) * st) (by omega) (by omega), em]
      exact h2

theorem rampN_w (fr tb st : Int) (h1 : 0 ≤ fr) (h2 : fr ≤ 40000) (h3 : 0 ≤ tb) (h4 : tb ≤ 40000) (h5 : 1 ≤ st) (h6 : st ≤ 40000) : wrap64 (Int.tdiv (wrap64 (wrap64 (mx (wrap64 (fr - tb)) (wrap64 (tb - fr)) + st) - 1)) st) = rampN fr tb st := by
  have b := rampN_le fr tb st h5 h1 h2 h3 h4
  have b0 := (rampN_spec fr tb st h5).1
  have em : ∀ x y : Int, mx x y = max x y := by intro x y; unfold mx; split <;> omega
  rw [dwrap (x := fr - tb) (by omega) (by omega), dwrap (x := tb - fr) (by omega) (by omega), em, dwrap (x := max (fr - tb) (tb - fr) + st) (by omega) (by omega), dwrap (x := max (fr - tb) (tb - fr) + st - 1) (by omega) (by omega), Int.tdiv_eq_ediv_of_nonneg (by omega)]
  unfold rampN at b b0 ⊢
  rw [dwrap (by omega) (by omega)]

theorem dRamp_eq (at_ fr tb st : Int) (k : Nat) (hk : 600 ≤ k) : drive_Ramp.f k at_ fr tb st = some (rampSpec at_ fr tb st) := by
  obtain ⟨k, rfl⟩ : ∃ k', k = k' + 1 := ⟨k - 1, by omega⟩
  have hj : ∀ b : Bool, (b = true ↔ ¬ rampOk at_ fr tb st) → drive_Ramp.j0 (k + 1) at_ fr tb st b = some (rampSpec at_ fr tb st) := by
    intro b hb
    unfold drive_Ramp.j0 rampSpec; dsimp only
    by_cases c : rampOk at_ fr tb st
    · have c' := c
      unfold rampOk at c'
      rw [if_neg (fun hh => (hb.1 hh) c), if_neg (show ¬ ¬ rampOk at_ fr tb st from fun hh => hh c), if_neg (by omega)]
      rw [rampN_w fr tb st (by omega) (by omega) (by omega) (by omega) (by omega) (by omega)]
      have b1 := rampN_le fr tb st (by omega) (by omega) (by omega) (by omega) (by omega)
      have b0 := (rampN_spec fr tb st (by omega)).1
      rw [dwrap (x := rampN fr tb st + 1) (by omega) (by omega), dwrap (x := at_ + rampN fr tb st) (by omega) (by omega)]
      generalize rampN fr tb st = n at *
      by_cases d : 512 < n + 1
      · rw [if_pos d, if_pos d]
      · rw [if_neg d, if_neg d]
        by_cases e : 2147483647 < at_ + n
        · rw [if_pos e, if_pos e]
        · rw [if_neg e, if_neg e]
          obtain ⟨m, hm⟩ := Int.eq_ofNat_of_zero_le (show 0 ≤ n + 1 by omega)
          rw [hm, Int.toNat_natCast]
          obtain ⟨k', rfl⟩ : ∃ k', k = k' + m + 1 := ⟨k - (m + 1), by omega⟩
          exact dramp_loop at_ fr tb st c m (by omega) k' m 0 (by omega)
    · rw [if_pos (hb.2 c), if_pos c]
  unfold drive_Ramp.f
  rw [dmoment_eq, Option.bind_some]
  have T : ∀ {p : Prop}, p → ((true = true) ↔ p) := fun hp => ⟨fun _ => hp, fun _ => rfl⟩
  by_cases c1 : 0 ≤ at_ ∧ at_ ≤ 2147483647
  · rw [if_pos (decide_eq_true c1)]
    by_cases c2 : fr < 0
    · rw [if_pos c2]; exact hj true (T (by unfold rampOk; omega))
    rw [if_neg c2]
    by_cases c3 : fr > 40000
    · rw [if_pos c3]; exact hj true (T (by unfold rampOk; omega))
    rw [if_neg c3]
    by_cases c4 : tb < 0
    · rw [if_pos c4]; exact hj true (T (by unfold rampOk; omega))
    rw [if_neg c4]
    by_cases c5 : tb > 40000
    · rw [if_pos c5]; exact hj true (T (by unfold rampOk; omega))
    rw [if_neg c5]
    by_cases c6 : st < 1
    · rw [if_pos c6]; exact hj true (T (by unfold rampOk; omega))
    rw [if_neg c6]
    exact hj _ (by rw [decide_eq_true_iff]; unfold rampOk; omega)
  · rw [if_neg (by rw [decide_eq_false c1]; decide)]; exact hj true (T (by unfold rampOk; exact fun hh => c1 hh.1))

theorem rampV_zero (fr tb st : Int) : rampV fr tb st 0 = fr := by unfold rampV; rw [Int.zero_mul]; split <;> omega
theorem rampV_last (fr tb st : Int) (h : 1 ≤ st) : rampV fr tb st (rampN fr tb st) = tb := by
  have := (rampN_spec fr tb st h).2.1
  unfold rampV; split <;> omega
theorem rampV_step (fr tb st i : Int) (h : 1 ≤ st) (hi : i < rampN fr tb st) :
    (fr < tb → rampV fr tb st i < tb ∧ rampV fr tb st i = fr + i * st ∧ rampV fr tb st (i + 1) = min tb (rampV fr tb st i + st)) ∧ (¬ fr < tb → tb < rampV fr tb st i ∧ rampV fr tb st i = fr - i * st ∧ rampV fr tb st (i + 1) = max tb (rampV fr tb st i - st)) := by
  have a := (rampN_spec fr tb st h).2.2 i hi
  have e : (i + 1) * st = i * st + st := by rw [Int.add_mul, Int.one_mul]
  unfold rampV
  rw [e]
  constructor
  · intro c; rw [if_pos c, if_pos c]; omega
  · intro c; rw [if_neg c, if_neg c]; omega

theorem rramp_loop (at_ fr tb st : Int) (h : rampOk at_ fr tb st) (k : Nat) : ∀ d i : Nat, (i : Int) + d = rampN fr tb st →
    papermillref29_Ramp.l0 (k + d + 1) (at_ + i) (rampV fr tb st i) tb st (rampL at_ fr tb st (i + 1)) = some (if 512 < rampN fr tb st + 1 then ([], 8) else if 2147483647 < at_ + rampN fr tb st then ([], 37) else (rampL at_ fr tb st (rampN fr tb st + 1).toNat, 0)) := by
  unfold rampOk at h
  have b1 := rampN_le fr tb st (by omega) (by omega) (by omega) (by omega) (by omega)
  have hl : ∀ i, (rampL at_ fr tb st i).length = i := by intro i; unfold rampL; simp
  intro d
  induction d with
  | zero =>
    intro i hi
    unfold papermillref29_Ramp.l0
    have hi' : (i : Int) = rampN fr tb st := by omega
    rw [hi', rampV_last fr tb st (by omega), if_pos rfl, hl, show (rampN fr tb st + 1).toNat = i + 1 by omega]
    by_cases c : 512 < rampN fr tb st + 1
    · rw [if_pos (by omega), if_pos c]
    · rw [if_neg (by omega), if_neg c]
      by_cases e : 2147483647 < at_ + rampN fr tb st
      · rw [if_pos e, if_pos e]
      · rw [if_neg e, if_neg e]
  | succ d ih =>
    intro i hi
    unfold papermillref29_Ramp.l0
    have s := rampV_step fr tb st i (by omega) (by omega)
    have vb := ramp_bounds fr tb st i (by omega) (by omega) (by omega) (by omega) (by omega) (by omega)
    have h2 := ih (i + 1) (by omega)
    have e : rampL at_ fr tb st (i + 1 + 1) = rampL at_ fr tb st (i + 1) ++ [⟨at_ + ((i + 1 : Nat) : Int), rampV fr tb st ((i + 1 : Nat) : Int)⟩] := by unfold rampL; rw [List.range_succ, List.map_append]; rfl
    rw [e, show ((i + 1 : Nat) : Int) = (i : Int) + 1 by omega, ← Int.add_assoc] at h2
    by_cases c : fr < tb
    · obtain ⟨s1, s2, s3⟩ := s.1 c
      rw [if_neg (by omega), if_pos s1, hl, if_pos (by omega), dwrap (x := at_ + (i : Int) + 1) (by omega) (by omega), dwrap (x := rampV fr tb st i + st) (by omega) (by omega), mnx, Int.min_comm, ← s3]
      exact h2
    · obtain ⟨s1, s2, s3⟩ := s.2 c
      have em : ∀ x y : Int, mx x y = max x y := by intro x y; unfold mx; split <;> omega
      rw [if_neg (by omega), if_neg (by omega), hl, if_pos (by omega), dwrap (x := at_ + (i : Int) + 1) (by omega) (by omega), dwrap (x := rampV fr tb st i - st) (by omega) (by omega), em, Int.max_comm, ← s3]
      exact h2

theorem rRamp_eq (at_ fr tb st : Int) (k : Nat) (hk : 40010 ≤ k) : papermillref29_Ramp.f k at_ fr tb st = some (rampSpec at_ fr tb st) := by
  obtain ⟨k, rfl⟩ : ∃ k', k = k' + 1 := ⟨k - 1, by omega⟩
  have hj : ∀ b : Bool, (b = true ↔ ¬ rampOk at_ fr tb st) → papermillref29_Ramp.j0 (k + 1) at_ fr tb st b = some (rampSpec at_ fr tb st) := by
    intro b hb
    unfold papermillref29_Ramp.j0 rampSpec; dsimp only
    by_cases c : rampOk at_ fr tb st
    · have c' := c
      unfold rampOk at c'
      have b1 := rampN_le fr tb st (by omega) (by omega) (by omega) (by omega) (by omega)
      have b0 := (rampN_spec fr tb st (by omega)).1
      rw [if_neg (fun hh => (hb.1 hh) c), if_neg (show ¬ ¬ rampOk at_ fr tb st from fun hh => hh c)]
      obtain ⟨m, hm⟩ := Int.eq_ofNat_of_zero_le b0
      obtain ⟨k', rfl⟩ : ∃ k', k = k' + m + 1 := ⟨k - (m + 1), by omega⟩
      have h := rramp_loop at_ fr tb st c k' m 0 (by omega)
      rw [show at_ + ((0 : Nat) : Int) = at_ by omega, show ((0 : Nat) : Int) = 0 from rfl, rampV_zero] at h
      have e : rampL at_ fr tb st (0 + 1) = [⟨at_, fr⟩] := by
        show [(⟨at_ + 0, rampV fr tb st 0⟩ : Pace)] = _
        rw [rampV_zero, Int.add_zero]
      rw [e] at h
      exact h
    · rw [if_pos (hb.2 c), if_pos c]
  unfold papermillref29_Ramp.f
  rw [rmoment_eq, Option.bind_some]
  have T : ∀ {p : Prop}, p → ((true = true) ↔ p) := fun hp => ⟨fun _ => hp, fun _ => rfl⟩
  by_cases c1 : 0 ≤ at_ ∧ at_ ≤ 2147483647
  · rw [if_pos (decide_eq_true c1)]
    by_cases c2 : fr < 0
    · rw [if_pos c2]; exact hj true (T (by unfold rampOk; omega))
    rw [if_neg c2]
    by_cases c3 : fr > 40000
    · rw [if_pos c3]; exact hj true (T (by unfold rampOk; omega))
    rw [if_neg c3]
    by_cases c4 : tb < 0
    · rw [if_pos c4]; exact hj true (T (by unfold rampOk; omega))
    rw [if_neg c4]
    by_cases c5 : tb > 40000
    · rw [if_pos c5]; exact hj true (T (by unfold rampOk; omega))
    rw [if_neg c5]
    by_cases c6 : st < 1
    · rw [if_pos c6]; exact hj true (T (by unfold rampOk; omega))
    rw [if_neg c6]
    exact hj _ (by rw [decide_eq_true_iff]; unfold rampOk; omega)
  · rw [if_neg (by rw [decide_eq_false c1]; decide)]; exact hj true (T (by unfold rampOk; exact fun hh => c1 hh.1))
end Go.Proofs.Ytfjeekjlhgjckaa.P
