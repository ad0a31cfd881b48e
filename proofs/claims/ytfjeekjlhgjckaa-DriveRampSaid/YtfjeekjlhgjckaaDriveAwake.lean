/- The law's own check of the package drive is through. -/
import Derived.Test.YtfjeekjlhgjckaaPx9
import Derived.Test.YtfjeekjlhgjckaaDriveLen
namespace Go.Proofs.Ytfjeekjlhgjckaa.P
open Go.RowKit Go.Proofs.YtfjeekjlhgjckaaW.PrintWords Go.Proofs.YtfjeekjlhgjckaaW.PrintLast Go.Proofs.YtfjeekjlhgjckaaW.PrintMore
set_option linter.unusedVariables false

theorem leo_ge {α : Type} (F : Nat → Option α) (hm : ∀ k, LeO (F k) (F (k + 1))) {n k : Nat} {r : α} (h : F n = some r) (hk : n ≤ k) : F k = some r := by
  obtain ⟨d, rfl⟩ : ∃ d, k = n + d := ⟨k - n, by omega⟩
  clear hk
  induction d with
  | zero => exact h
  | succ d ih => exact hm _ _ ih

theorem aw_when (l : List S42) (x : Int) (r : Nat) (hl : l = [(⟨5, 10⟩ : S42)]) (hx : 0 ≤ x) (hx2 : x < 17179869184) (h : r < 2147483648) (h1 : ∀ t : Nat, t < r → max 0 ((t : Int) + 1 - 5) * 10 ≤ x) (h2 : x < max 0 ((r : Int) + 1 - 5) * 10) :
    whenSpec l x = ((r : Int), 0) := by
  have hw : whenAt l x = r := by
    subst hl
    exact whenAt_unique _ _ r (by omega) (fun t ht => h1 t ht) (fun _ => h2)
  have hc : chkSpec l = 0 := by subst hl; decide
  unfold whenSpec
  rw [if_pos hc, if_neg (by omega), hw, if_neg (by omega)]

theorem aw_none (l : List S42) (hl : l = []) : drive_When.f l 0 = some (0, 7) := by
  have hw : whenAt l 0 = 2147483648 := by
    subst hl
    exact whenAt_unique _ _ _ (Nat.le_refl _) (fun t ht => Int.le_refl _) (fun h => absurd h (Nat.lt_irrefl _))
  have hc : chkSpec l = 0 := by subst hl; decide
  unfold drive_When.f whenSpec
  rw [if_pos hc, if_neg (by omega), hw, if_pos rfl]

theorem aw_window (l : List S42) (hl : l = [(⟨5, 10⟩ : S42)]) : winSpec l 9 11 = (5, 7, 0) := by
  have e1 := aw_when l 9 5 hl (by omega) (by omega) (by omega) (fun t ht => by omega) (by omega)
  have e2 := aw_when l 10 6 hl (by omega) (by omega) (by omega) (fun t ht => by omega) (by omega)
  have hc : chkSpec l = 0 := by subst hl; decide
  unfold winSpec
  rw [if_pos hc, if_neg (by omega), if_neg (by omega), show (11 : Int) - 1 = 10 by omega, e1, e2, if_pos ⟨rfl, rfl⟩]
  rfl

set_option maxRecDepth 100000 in
theorem awake_ge {k : Nat} (hk : 1500 ≤ k) : papermilllaw29_awake.f k = some true := by
  unfold papermilllaw29_awake.f papermilllaw29_awake.g
  have l1 := leo_ge (fun k => drive_Length.f k [(⟨5, 10⟩ : S42)] 8) (fun k => drive_Length.mono _ _ k) (show drive_Length.f 50 [(⟨5, 10⟩ : S42)] 8 = some (30, 0) by decide +kernel) (show 50 ≤ k by omega)
  have l2 := leo_ge (fun k => drive_Length.f k [(⟨0, 40000⟩ : S42)] 429496) (fun k => drive_Length.mono _ _ k) (show drive_Length.f 50 [(⟨0, 40000⟩ : S42)] 429496 = some (17179840000, 0) by decide +kernel) (show 50 ≤ k by omega)
  have l3 := leo_ge (fun k => drive_Length.f k [(⟨0, 40000⟩ : S42)] 429497) (fun k => drive_Length.mono _ _ k) (show drive_Length.f 50 [(⟨0, 40000⟩ : S42)] 429497 = some (0, 21) by decide +kernel) (show 50 ≤ k by omega)
  have l4 := leo_ge (fun k => drive_Ramp.f k 3 10 0 4) (fun k => drive_Ramp.mono _ _ _ _ k) (show drive_Ramp.f 50 3 10 0 4 = some ([(⟨3, 10⟩ : S42), ⟨4, 6⟩, ⟨5, 2⟩, ⟨6, 0⟩], 0) by kernel_rfl) (show 50 ≤ k by omega)
  have l5 := leo_ge (fun k => papermillref29_Same.f k [(⟨3, 10⟩ : S42), ⟨4, 6⟩, ⟨5, 2⟩, ⟨6, 0⟩] [(⟨3, 10⟩ : S42), ⟨4, 6⟩, ⟨5, 2⟩, ⟨6, 0⟩]) (fun k => papermillref29_Same.mono _ _ k) (show papermillref29_Same.f 50 [(⟨3, 10⟩ : S42), ⟨4, 6⟩, ⟨5, 2⟩, ⟨6, 0⟩] [(⟨3, 10⟩ : S42), ⟨4, 6⟩, ⟨5, 2⟩, ⟨6, 0⟩] = some true by decide +kernel) (show 50 ≤ k by omega)
  have l6 : drive_When.f [(⟨5, 10⟩ : S42)] 29 = some (7, 0) := by
    unfold drive_When.f
    rw [aw_when _ 29 7 rfl (by omega) (by omega) (by omega) (fun t ht => by omega) (by omega)]
    rfl
  have l7 : drive_Window.f k [(⟨5, 10⟩ : S42)] 9 11 = some (5, 7, 0) := by rw [dWindow_eq _ _ _ _ (by omega), aw_window _ rfl]
  have l8 := aw_none [] rfl
  try dsimp only at l1 l2 l3 l4 l5
  rw [Option.bind_some, l1, l2, l3, l4, l6, l7, l8]
  rw [Option.bind_some, Option.bind_some, Option.bind_some, Option.bind_some, Option.bind_some, Option.bind_some, Option.bind_some]
  rw [l5]
  rfl
end Go.Proofs.Ytfjeekjlhgjckaa.P
