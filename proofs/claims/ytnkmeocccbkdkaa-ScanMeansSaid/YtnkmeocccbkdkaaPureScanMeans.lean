/- The statement ScanMeans over numbers alone. -/
import Derived.Test.YtnkmeocccbkdkaaPx33
import Derived.Test.YtnkmeocccbkdkaaPx6
import Derived.Test.YtnkmeocccbkdkaaPx28
import Derived.Test.YtnkmeocccbkdkaaRatMake
import Derived.Test.YtnkmeocccbkdkaaScanAwake
namespace Go.Proofs.Ytnkmeocccbkdkaa.Pure
open Go.RowKit Go.Proofs.Ytnkmeocccbkdkaa.P Go.Proofs.YtnkmeocccbkdkaaW.PrintWords Go.Proofs.YtnkmeocccbkdkaaW.PrintLast
set_option linter.unusedVariables false

theorem mean_both (n s : Int) (k : Nat) (hk : 1000003000 ≤ k) : ∃ b x y e, scan_Mean.f k n s = some (b, x, y, e) ∧ papermillref35_Mean.f k n s = some (b, x, y, e) ∧ x.length ≤ 48 ∧ y.length ≤ 48 := by
  unfold scan_Mean.f papermillref35_Mean.f
  by_cases c1 : n < 0
  · rw [if_pos c1, if_pos c1]; exact ⟨_, _, _, _, rfl, rfl, by simp, by simp⟩
  · rw [if_neg c1, if_neg c1]
    by_cases c2 : n > 512
    · rw [if_pos c2, if_pos c2]; exact ⟨_, _, _, _, rfl, rfl, by simp, by simp⟩
    · rw [if_neg c2, if_neg c2]
      by_cases c3 : s < -1125899906842624
      · rw [if_pos c3, if_pos c3]; exact ⟨_, _, _, _, rfl, rfl, by simp, by simp⟩
      · rw [if_neg c3, if_neg c3]
        by_cases c4 : s > 1125899906842624
        · rw [if_pos c4, if_pos c4]; exact ⟨_, _, _, _, rfl, rfl, by simp, by simp⟩
        · rw [if_neg c4, if_neg c4]
          obtain ⟨b, x, y, e, h1, h2, h3, h4⟩ := make_both s n (by omega) (by omega) k hk
          rw [h1, h2]
          exact ⟨b, x, y, e, rfl, rfl, h3, h4⟩

theorem ScanMeans (a0_0 a0_1 : Int) (w0 : (Lit.int .i64 a0_0).wf = true) (w1 : (Lit.int .i64 a0_1).wf = true) :
    ∃ k, papermilllaw35_ScanMeans.f k a0_0 a0_1 = some true := by
  refine ⟨1000003000, ?_⟩
  obtain ⟨b, x, y, e, h1, h2, h3, h4⟩ := mean_both a0_0 a0_1 1000003000 (by omega)
  unfold papermilllaw35_ScanMeans.f papermillref17_Same.f
  rw [h1, h2]
  simp only [Option.bind_some]
  rw [if_pos (by simp), refsame_eq x (by omega) _ (by omega), refsame_eq y (by omega) _ (by omega), awake_ge (by omega)]
  simp
end Go.Proofs.Ytnkmeocccbkdkaa.Pure
