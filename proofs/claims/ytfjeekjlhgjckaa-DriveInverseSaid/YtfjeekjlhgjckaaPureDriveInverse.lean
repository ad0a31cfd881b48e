/- The statement DriveInverse over numbers alone. -/
import Derived.Test.YtfjeekjlhgjckaaPx18
import Derived.Test.YtfjeekjlhgjckaaDriveLen
import Derived.Test.YtfjeekjlhgjckaaDriveAwake
namespace Go.Proofs.Ytfjeekjlhgjckaa.Pure
open Go.RowKit Go.Proofs.Ytfjeekjlhgjckaa.P Go.Proofs.YtfjeekjlhgjckaaW.PrintWords Go.Proofs.YtfjeekjlhgjckaaW.PrintLast
set_option linter.unusedVariables false

theorem before_zero (l : List S42) (h : ∀ p ∈ l, okE p) : beforeZ l 0 = 0 := by
  have key : ∀ (p : S42) (e : Int), okE p → e ≤ 0 → term p e = 0 := by
    intro p e hp he
    unfold okE at hp
    unfold term
    rw [show max 0 (e - p.f0) = 0 by omega, Int.zero_mul]
  induction l with
  | nil => rfl
  | cons p a ih =>
    cases a with
    | nil => exact key p 0 (h p List.mem_cons_self) (Int.le_refl _)
    | cons q r => rw [before_two, key p _ (h p List.mem_cons_self) (by omega), ih (fun x hx => h x (List.mem_cons_of_mem _ hx))]; rfl

/-- What is made before the moment of a millimetre. -/
theorem before_when (l : List S42) (x : Int) (h : ∀ p ∈ l, okE p) (hx : 0 ≤ x) : beforeZ l (whenAt l x : Nat) ≤ x := by
  obtain ⟨w1, w2, w3⟩ := whenAt_spec l x
  generalize whenAt l x = r at *
  cases r with
  | zero => rw [show ((0 : Nat) : Int) = 0 from rfl, before_zero l h]; exact hx
  | succ r => have := w2 r (by omega); rw [show ((r + 1 : Nat) : Int) = (r : Int) + 1 by omega]; exact this

theorem DriveInverse (l0 : List S42) (a1 : Int) (m0 : l0.length ≤ maxLen) (wl0 : ∀ x ∈ l0, (Lit.int .i64 x.f0).wf = true ∧ (Lit.int .i64 x.f1).wf = true) (w1 : (Lit.int .i64 a1).wf = true) :
    ∃ k, papermilllaw29_DriveInverse.f k l0 a1 = some true := by
  refine ⟨1500 + 1, ?_⟩
  generalize hk : (1500 : Nat) = k
  have hk2 : 1500 ≤ k := by omega
  clear hk
  unfold papermilllaw29_DriveInverse.f papermilllaw29_great.f drive_When.f
  rw [Option.bind_some, dLength_eq _ _ _ (by omega), awake_ge (show 1500 ≤ k + 1 by omega)]
  rw [Option.bind_some, Option.bind_some, Option.bind_some]
  split
  · rfl
  · by_cases c : chkSpec l0 = 0
    · obtain ⟨z1, z2, z3⟩ := chk_zero c
      by_cases d : a1 < 0 ∨ 17179869184 ≤ a1
      · have e : whenSpec l0 a1 = (0, 1) := by unfold whenSpec; rw [if_pos c, if_pos d]
        rw [e, if_neg (show ¬ ((1 : Int) = 0) by decide), if_pos rfl, if_neg (show ¬ ((1 : Int) = 7) by decide)]
      · rcases when_two l0 a1 c (by omega) (by omega) with ⟨e, g⟩ | ⟨e, g⟩
        · have hb := (when_none_iff l0 a1 z2).1 g
          have hl : lenSpec l0 2147483648 = (beforeZ l0 2147483648, 0) := by unfold lenSpec; rw [if_pos c, if_neg (by omega), if_neg (by omega)]
          rw [e, hl, if_neg (show ¬ ((7 : Int) = 0) by decide), if_pos rfl, if_pos rfl, if_pos rfl, if_pos hb]
        · have hb := before_when l0 a1 z2 (by omega)
          have w3 := (whenAt_spec l0 a1).2.2 g
          have hj : papermilllaw29_DriveInverse.j0 (k + 1) l0 a1 (whenAt l0 a1 : Nat) false = some true := by
            generalize whenAt l0 a1 = r at *
            unfold papermilllaw29_DriveInverse.j0; dsimp only
            have hl : lenSpec l0 (r : Int) = (beforeZ l0 r, 0) := by unfold lenSpec; rw [if_pos c, if_neg (by omega), if_neg (by omega)]
            rw [if_neg (by decide), dwrap (x := (r : Int) + 1) (by omega) (by omega), dLength_eq _ _ _ (by omega), dLength_eq _ _ _ (by omega), awake_ge hk2, Option.bind_some, Option.bind_some, Option.bind_some, hl, if_pos rfl, if_pos hb]
            by_cases f : 17179869184 < beforeZ l0 ((r : Int) + 1)
            · have hl2 : lenSpec l0 ((r : Int) + 1) = (0, 21) := by unfold lenSpec; rw [if_pos c, if_neg (by omega), if_pos f]
              rw [hl2, if_neg (show ¬ ((21 : Int) = 0) by decide), if_pos rfl]
            · have hl2 : lenSpec l0 ((r : Int) + 1) = (beforeZ l0 ((r : Int) + 1), 0) := by unfold lenSpec; rw [if_pos c, if_neg (by omega), if_neg f]
              rw [hl2, if_pos rfl, if_pos w3]
          rw [e, if_pos rfl, if_neg (by omega), decide_eq_false (by dsimp only; omega)]
          exact hj
    · have e : whenSpec l0 a1 = (0, chkSpec l0) := by unfold whenSpec; rw [if_neg c]
      have h7 : ¬ chkSpec l0 = 7 := by rcases chk_cases l0 with h | h | h | h <;> rw [h] <;> decide
      rw [e, if_neg c, if_pos rfl, if_neg h7]
end Go.Proofs.Ytfjeekjlhgjckaa.Pure
