/- The statement DriveRamps over numbers alone. -/
import Derived.Test.YtfjeekjlhgjckaaPx17
import Derived.Test.YtfjeekjlhgjckaaDriveLen
import Derived.Test.YtfjeekjlhgjckaaDriveAwake
import Derived.Test.YtfjeekjlhgjckaaDriveRamp
namespace Go.Proofs.Ytfjeekjlhgjckaa.Pure
open Go.RowKit Go.Proofs.Ytfjeekjlhgjckaa.P Go.Proofs.YtfjeekjlhgjckaaW.PrintWords Go.Proofs.YtfjeekjlhgjckaaW.PrintLast
set_option linter.unusedVariables false

theorem same_loop (l : List S42) (hl : l.length ≤ 9223372036854775806) : ∀ (k i : Nat), l.length - i < k → papermillref29_Same.l0 k l l i = some true := by
  intro k
  induction k with
  | zero => intro i h; omega
  | succ k ih =>
    intro i h
    unfold papermillref29_Same.l0
    by_cases c : (i : Int) < l.length
    · rw [if_pos c, if_pos (by omega), if_pos c, if_neg (by simp), dwrap (by omega) (by omega)]
      exact ih (i + 1) (by omega)
    · rw [if_neg c]

theorem Same_eq (l : List S42) (hl : l.length ≤ 9223372036854775806) (k : Nat) (hk : l.length < k) : papermillref29_Same.f k l l = some true := by
  unfold papermillref29_Same.f
  rw [if_pos rfl]
  exact same_loop l hl k 0 (by omega)

theorem ramp_len (a b c d : Int) : (rampSpec a b c d).1.length ≤ 512 := by
  unfold rampSpec
  split
  · decide
  · split
    · decide
    · split
      · decide
      · unfold rampL; simp; omega

theorem DriveRamps (a0_0 a0_1 a0_2 a0_3 : Int) (w0 : (Lit.int .i64 a0_0).wf = true) (w1 : (Lit.int .i64 a0_1).wf = true) (w2 : (Lit.int .i64 a0_2).wf = true) (w3 : (Lit.int .i64 a0_3).wf = true) :
    ∃ k, papermilllaw29_DriveRamps.f k a0_0 a0_1 a0_2 a0_3 = some true := by
  refine ⟨41000, ?_⟩
  generalize hk : (41000 : Nat) = k
  have hk2 : 41000 ≤ k := by omega
  clear hk
  have hl := ramp_len a0_0 a0_1 a0_2 a0_3
  unfold papermilllaw29_DriveRamps.f
  rw [dRamp_eq _ _ _ _ _ (by omega), rRamp_eq _ _ _ _ _ (by omega), Option.bind_some, Option.bind_some, Same_eq _ (by omega) _ (by omega), Option.bind_some, if_pos rfl, if_pos rfl, awake_ge (by omega), Option.bind_some]
end Go.Proofs.Ytfjeekjlhgjckaa.Pure
