/- The statement DriveWindows over numbers alone. -/
import Derived.Test.YtfjeekjlhgjckaaPx19
import Derived.Test.YtfjeekjlhgjckaaDriveLen
import Derived.Test.YtfjeekjlhgjckaaDriveAwake
namespace Go.Proofs.Ytfjeekjlhgjckaa.Pure
open Go.RowKit Go.Proofs.Ytfjeekjlhgjckaa.P Go.Proofs.YtfjeekjlhgjckaaW.PrintWords Go.Proofs.YtfjeekjlhgjckaaW.PrintLast
set_option linter.unusedVariables false

theorem before_zero (l : List S42) (h : ∀ p ∈ l, okE p) : beforeZ l 0 = 0 := by
  have key : ∀ (p : S42) (e : Int), okE p → e ≤ 0 → term p e = 0 := by
    intro p e hp he
    unfold okE at hp
    unfold term
    rw [show max 0 (e - p.f0) = 0 by omega, Int.zero_mul]
  induction l with
  | nil => rfl
  | cons p a ih =>
    cases a with
    | nil => exact key p 0 (h p List.mem_cons_self) (Int.le_refl _)
    | cons q r => rw [before_two, key p _ (h p List.mem_cons_self) (by omega), ih (fun x hx => h x (List.mem_cons_of_mem _ hx))]; rfl

theorem before_when (l : List S42) (x : Int) (h : ∀ p ∈ l, okE p) (hx : 0 ≤ x) : beforeZ l (whenAt l x : Nat) ≤ x := by
  obtain ⟨w1, w2, w3⟩ := whenAt_spec l x
  generalize whenAt l x = r at *
  cases r with
  | zero => rw [show ((0 : Nat) : Int) = 0 from rfl, before_zero l h]; exact hx
  | succ r => have := w2 r (by omega); rw [show ((r + 1 : Nat) : Int) = (r : Int) + 1 by omega]; exact this

theorem when_le (l : List S42) (x y : Int) (h : x ≤ y) : whenAt l x ≤ whenAt l y := by
  obtain ⟨v1, v2, v3⟩ := whenAt_spec l x
  obtain ⟨w1, w2, w3⟩ := whenAt_spec l y
  by_cases c : whenAt l y < whenAt l x
  · have a := v2 _ c
    have b := w3 (by omega)
    omega
  · omega

theorem DriveWindows (l0 : List S42) (a1_0 a1_1 : Int) (m0 : l0.length ≤ maxLen) (wl0 : ∀ x ∈ l0, (Lit.int .i64 x.f0).wf = true ∧ (Lit.int .i64 x.f1).wf = true) (w1 : (Lit.int .i64 a1_0).wf = true) (w2 : (Lit.int .i64 a1_1).wf = true) :
    ∃ k, papermilllaw29_DriveWindows.f k l0 a1_0 a1_1 = some true := by
  refine ⟨1500 + 1, ?_⟩
  generalize hk : (1500 : Nat) = k
  have hk2 : 1500 ≤ k := by omega
  clear hk
  unfold papermilllaw29_DriveWindows.f papermilllaw29_great.f
  rw [Option.bind_some, dWindow_eq _ _ _ _ (by omega), awake_ge (show 1500 ≤ k + 1 by omega)]
  rw [Option.bind_some, Option.bind_some]
  split
  · rfl
  · by_cases c : chkSpec l0 = 0
    · obtain ⟨z1, z2, z3⟩ := chk_zero c
      by_cases d : a1_0 < 0 ∨ a1_1 < a1_0 ∨ 17179869184 < a1_1
      · have e : winSpec l0 a1_0 a1_1 = (0, 0, 1) := by unfold winSpec; rw [if_pos c, if_pos d]
        rw [e, if_neg (show ¬ ((1 : Int) = 0) by decide)]
        rfl
      · by_cases g : a1_0 = a1_1
        · have e : winSpec l0 a1_0 a1_1 = (0, 0, 0) := by unfold winSpec; rw [if_pos c, if_neg d, if_pos g]
          rw [e, if_pos rfl, if_pos g]
          rfl
        · by_cases h : (whenSpec l0 a1_0).2 = 0 ∧ (whenSpec l0 (a1_1 - 1)).2 = 0
          · have e : winSpec l0 a1_0 a1_1 = ((whenSpec l0 a1_0).1, (whenSpec l0 (a1_1 - 1)).1 + 1, 0) := by unfold winSpec; rw [if_pos c, if_neg d, if_neg g, if_pos h]
            rcases when_two l0 a1_0 c (by omega) (by omega) with ⟨e1, g1⟩ | ⟨e1, g1⟩
            · rw [e1] at h; exact absurd h.1 (by decide)
            rcases when_two l0 (a1_1 - 1) c (by omega) (by omega) with ⟨e2, g2⟩ | ⟨e2, g2⟩
            · rw [e2] at h; exact absurd h.2 (by decide)
            have b1 := before_when l0 a1_0 z2 (by omega)
            have b2 := before_when l0 (a1_1 - 1) z2 (by omega)
            have b3 := (whenAt_spec l0 (a1_1 - 1)).2.2 g2
            have b4 := when_le l0 a1_0 (a1_1 - 1) (by omega)
            rw [e1, e2] at e
            dsimp only at e
            generalize whenAt l0 a1_0 = a at *
            generalize whenAt l0 (a1_1 - 1) = b at *
            have hj : papermilllaw29_DriveWindows.j0 (k + 1) l0 false a1_0 a1_1 (a : Int) ((b : Int) + 1) = some true := by
              unfold papermilllaw29_DriveWindows.j0; dsimp only
              have l1 : lenSpec l0 (a : Int) = (beforeZ l0 a, 0) := by unfold lenSpec; rw [if_pos c, if_neg (by omega), if_neg (by omega)]
              have l2 : lenSpec l0 (b : Int) = (beforeZ l0 b, 0) := by unfold lenSpec; rw [if_pos c, if_neg (by omega), if_neg (by omega)]
              rw [if_neg (by decide), dwrap (x := (b : Int) + 1 - 1) (by omega) (by omega), show (b : Int) + 1 - 1 = b by omega, dLength_eq _ _ _ (by omega), dLength_eq _ _ _ (by omega), dLength_eq _ _ _ (by omega), awake_ge hk2]
              rw [Option.bind_some, Option.bind_some, Option.bind_some, Option.bind_some, l1, l2, if_pos rfl, if_pos b1]
              by_cases f : 17179869184 < beforeZ l0 ((b : Int) + 1)
              · have l3 : lenSpec l0 ((b : Int) + 1) = (0, 21) := by unfold lenSpec; rw [if_pos c, if_neg (by omega), if_pos f]
                rw [l3, if_neg (show ¬ ((21 : Int) = 0) by decide), if_pos rfl, if_pos rfl, if_pos (by dsimp only; omega)]
              · have l3 : lenSpec l0 ((b : Int) + 1) = (beforeZ l0 ((b : Int) + 1), 0) := by unfold lenSpec; rw [if_pos c, if_neg (by omega), if_neg f]
                rw [l3, if_pos rfl, if_pos (by dsimp only; omega), if_pos rfl, if_pos (by dsimp only; omega)]
            rw [e, if_pos rfl, if_neg g]
            dsimp only
            rw [if_neg (by omega), if_neg (by omega), decide_eq_false (by omega)]
            exact hj
          · have e : winSpec l0 a1_0 a1_1 = (0, 0, 7) := by unfold winSpec; rw [if_pos c, if_neg d, if_neg g, if_neg h]
            rw [e, if_neg (show ¬ ((7 : Int) = 0) by decide)]
            rfl
    · have e : winSpec l0 a1_0 a1_1 = (0, 0, chkSpec l0) := by unfold winSpec; rw [if_neg c]
      rw [e, if_neg c]
      rfl
end Go.Proofs.Ytfjeekjlhgjckaa.Pure
