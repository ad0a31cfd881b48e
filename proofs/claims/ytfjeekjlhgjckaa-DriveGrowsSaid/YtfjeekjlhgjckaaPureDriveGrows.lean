/- The statement DriveGrows over numbers alone. -/
import Derived.Test.YtfjeekjlhgjckaaPx23
import Derived.Test.YtfjeekjlhgjckaaDriveLen
import Derived.Test.YtfjeekjlhgjckaaDriveAwake
namespace Go.Proofs.Ytfjeekjlhgjckaa.Pure
open Go.RowKit Go.Proofs.Ytfjeekjlhgjckaa.P Go.Proofs.YtfjeekjlhgjckaaW.PrintWords Go.Proofs.YtfjeekjlhgjckaaW.PrintLast
set_option linter.unusedVariables false

theorem term_far (p : S42) (e : Int) (he : e ≤ p.f0) : term p e = 0 := by
  unfold term
  rw [show max 0 (e - p.f0) = 0 by omega, Int.zero_mul]

theorem before_far (l : List S42) : ∀ (p : S42) (t : Int), incr (p :: l) = true → t ≤ p.f0 → beforeZ (p :: l) t = 0 := by
  induction l with
  | nil => intro p t _ ht; exact term_far p t ht
  | cons q r ih =>
    intro p t hi ht
    rw [incr_two, Bool.and_eq_true] at hi
    have h1 := of_decide_eq_true hi.1
    rw [before_two, term_far p _ (by omega), ih q t hi.2 (by omega)]; rfl

theorem speed_far (l : List S42) : ∀ (p : S42) (t s : Int), incr (p :: l) = true → t < p.f0 → speedGo t s (p :: l) = s := by
  induction l with
  | nil => intro p t s _ ht; unfold speedGo; rw [if_neg (by omega)]; rfl
  | cons q r ih =>
    intro p t s hi ht
    rw [incr_two, Bool.and_eq_true] at hi
    have h1 := of_decide_eq_true hi.1
    unfold speedGo
    rw [if_neg (by omega)]
    exact ih q t s hi.2 (by omega)

theorem term_step (p : S42) (t : Int) : term p (t + 1) = term p t + (if p.f0 ≤ t then p.f1 else 0) := by
  unfold term
  by_cases c : p.f0 ≤ t
  · rw [if_pos c, show max 0 (t + 1 - p.f0) = max 0 (t - p.f0) + 1 by omega, Int.add_mul, Int.one_mul]
  · rw [if_neg c, show max 0 (t + 1 - p.f0) = max 0 (t - p.f0) by omega, Int.add_zero]

theorem grows (l : List S42) : ∀ (t s : Int), incr l = true → (∀ p r, l = p :: r → p.f0 ≤ t ∨ s = 0) → (l = [] → s = 0) → beforeZ l (t + 1) = beforeZ l t + speedGo t s l := by
  induction l with
  | nil => intro t s _ _ hs; rw [hs rfl]; rfl
  | cons p a ih =>
    intro t s hi hp _
    have hps := hp p a rfl
    cases a with
    | nil =>
      rw [before_one, before_one, term_step]
      unfold speedGo speedGo
      by_cases c : p.f0 ≤ t
      · rw [if_pos c, if_pos c]
      · rw [if_neg c, if_neg c]; rcases hps with h | h <;> omega
    | cons q r =>
      have hi2 := hi
      rw [incr_two, Bool.and_eq_true] at hi2
      have h1 := of_decide_eq_true hi2.1
      by_cases d : q.f0 ≤ t
      · have h := ih t (if p.f0 ≤ t then p.f1 else s) hi2.2 (fun x y e => by cases e; exact .inl d) (fun e => by cases e)
        rw [before_two, before_two, h, show min (t + 1) q.f0 = q.f0 by omega, show min t q.f0 = q.f0 by omega]
        show _ = _ + _ + speedGo t (if p.f0 ≤ t then p.f1 else s) (q :: r)
        omega
      · rw [before_two, before_two, before_far r q (t + 1) hi2.2 (by omega), before_far r q t hi2.2 (by omega), show min (t + 1) q.f0 = t + 1 by omega, show min t q.f0 = t by omega, term_step]
        have e : speedGo t s (p :: q :: r) = (if p.f0 ≤ t then p.f1 else s) := by
          show speedGo t (if p.f0 ≤ t then p.f1 else s) (q :: r) = _
          exact speed_far r q t _ hi2.2 (by omega)
        rw [e]
        by_cases c : p.f0 ≤ t
        · rw [if_pos c, if_pos c]; omega
        · rw [if_neg c, if_neg c]; rcases hps with h | h <;> omega

theorem speed_bounds (l : List S42) : ∀ (t s : Int), (∀ p ∈ l, okE p) → 0 ≤ s → s ≤ 40000 → 0 ≤ speedGo t s l ∧ speedGo t s l ≤ 40000 := by
  induction l with
  | nil => intro t s _ h0 h1; exact ⟨h0, h1⟩
  | cons p a ih =>
    intro t s h h0 h1
    have hp := h p List.mem_cons_self
    unfold okE at hp
    unfold speedGo
    exact ih t _ (fun x hx => h x (List.mem_cons_of_mem _ hx)) (by split <;> omega) (by split <;> omega)

theorem DriveGrows (l0 : List S42) (a1 : Int) (m0 : l0.length ≤ maxLen) (wl0 : ∀ x ∈ l0, (Lit.int .i64 x.f0).wf = true ∧ (Lit.int .i64 x.f1).wf = true) (w1 : (Lit.int .i64 a1).wf = true) :
    ∃ k, papermilllaw29_DriveGrows.f k l0 a1 = some true := by
  refine ⟨1500 + 1 + 1, ?_⟩
  generalize hk : (1500 : Nat) = k
  have hk2 : 1500 ≤ k := by omega
  clear hk
  have hj : ∀ b : Bool, (b = true ∨ (0 ≤ a1 ∧ a1 ≤ 2147483647)) → papermilllaw29_DriveGrows.j0 (k + 1 + 1) l0 a1 b = some true := by
    intro b hb
    unfold papermilllaw29_DriveGrows.j0; dsimp only
    rw [awake_ge (show 1500 ≤ k + 1 by omega), Option.bind_some]
    by_cases cb : b = true
    · rw [if_pos cb]
    · rw [if_neg cb]
      have ht := hb.resolve_left cb
      rw [dwrap (x := a1 + 1) (by omega) (by omega), dLength_eq _ _ _ (by omega), dLength_eq _ _ _ (by omega), dSpeed_eq _ _ _ (by omega), Option.bind_some, Option.bind_some, Option.bind_some]
      by_cases c : chkSpec l0 = 0
      · obtain ⟨z1, z2, z3⟩ := chk_zero c
        have hs : speedSpec l0 a1 = (speedGo a1 0 l0, 0) := by unfold speedSpec; rw [if_pos c, if_pos ht]
        have sb := speed_bounds l0 a1 0 z2 (by omega) (by omega)
        have hg := grows l0 a1 0 z3 (fun _ _ _ => .inr rfl) (fun _ => rfl)
        have bb := before_bounds l0 a1 z2 (by omega)
        generalize speedGo a1 0 l0 = s at *
        by_cases f : 17179869184 < beforeZ l0 a1
        · have l1 : lenSpec l0 a1 = (0, 21) := by unfold lenSpec; rw [if_pos c, if_neg (by omega), if_pos f]
          have l2 : lenSpec l0 (a1 + 1) = (0, 21) := by unfold lenSpec; rw [if_pos c, if_neg (by omega), if_pos (by omega)]
          rw [l1, l2, if_neg (show ¬ ((21 : Int) = 0) by decide), if_pos rfl, if_pos rfl]
        · have l1 : lenSpec l0 a1 = (beforeZ l0 a1, 0) := by unfold lenSpec; rw [if_pos c, if_neg (by omega), if_neg f]
          rw [l1, hs, if_pos rfl, if_pos rfl, if_neg (by dsimp only; omega), decide_eq_false (by dsimp only; omega)]
          unfold papermilllaw29_DriveGrows.j1; dsimp only
          rw [if_neg (by decide), awake_ge hk2, Option.bind_some]
          by_cases g : 17179869184 < beforeZ l0 (a1 + 1)
          · have l2 : lenSpec l0 (a1 + 1) = (0, 21) := by unfold lenSpec; rw [if_pos c, if_neg (by omega), if_pos g]
            rw [l2, if_neg (show ¬ ((21 : Int) = 0) by decide), if_pos rfl, dwrap (by omega) (by omega), if_pos (by omega)]
          · have l2 : lenSpec l0 (a1 + 1) = (beforeZ l0 (a1 + 1), 0) := by unfold lenSpec; rw [if_pos c, if_neg (by omega), if_neg g]
            rw [l2, if_pos rfl, dwrap (by omega) (by omega), if_pos (by dsimp only; omega)]
      · have e : ∀ t, lenSpec l0 t = (0, chkSpec l0) := by intro t; unfold lenSpec; rw [if_neg c]
        rw [e, e, if_neg c, if_pos rfl, if_pos rfl]
  unfold papermilllaw29_DriveGrows.f papermilllaw29_great.f
  rw [Option.bind_some]
  split
  · exact hj true (.inl rfl)
  · by_cases c : a1 < 0
    · rw [if_pos c]; exact hj true (.inl rfl)
    · rw [if_neg c]
      by_cases d : a1 > 2147483647
      · rw [decide_eq_true d]; exact hj true (.inl rfl)
      · exact hj _ (.inr ⟨by omega, by omega⟩)
end Go.Proofs.Ytfjeekjlhgjckaa.Pure
