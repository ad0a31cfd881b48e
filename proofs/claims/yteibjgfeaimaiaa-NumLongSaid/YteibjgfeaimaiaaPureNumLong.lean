/- The statement NumLong over lists alone: Sum accepts 65536 elements and no more. -/
import Derived.Test.YteibjgfeaimaiaaPx15
import Derived.Test.YteibjgfeaimaiaaNumSpec
import Derived.Test.YteibjgfeaimaiaaRefMd
namespace Go.Proofs.Yteibjgfeaimaiaa.Pure
open Go.RowKit Go.Proofs.Yteibjgfeaimaiaa.P Go.Proofs.YteibjgfeaimaiaaW.PrintWords Go.Proofs.YteibjgfeaimaiaaW.PrintLast Go.Proofs.Yteibjgfeaimaiaa.Math
set_option linter.unusedVariables false

theorem long_l0 (x : Int) (n : Nat) (hn : n ≤ 65540) (h2 : 65532 ≤ n) (d : Nat) : ∀ (k : Nat) (l : List Int) (i : Nat), n - i = d → i ≤ n → l.length = n → d + 70000 < k →
    papermilllaw01_NumLong.l0 k x (n : Int) l (i : Int) = some true := by
  induction d with
  | zero =>
    intro k l i hd hi hl hk
    obtain ⟨k, rfl⟩ : ∃ m, k = m + 1 := ⟨k - 1, by omega⟩
    simp only [papermilllaw01_NumLong.l0]
    rw [if_neg (by omega), num_Sum_eq l (by omega) k (by omega), ref_Sum_eq l (by omega) k (by omega), awake_true k (by omega)]
    simp only [Option.bind_some, if_true]
    by_cases c : (n : Int) ≤ 65536
    · rw [if_pos c]
    · rw [if_neg c, if_pos (by unfold sumSpec; rw [if_pos (by omega)])]
  | succ d ih =>
    intro k l i hd hi hl hk
    obtain ⟨k, rfl⟩ : ∃ m, k = m + 1 := ⟨k - 1, by omega⟩
    simp only [papermilllaw01_NumLong.l0]
    rw [if_pos (by omega), if_pos (by omega), if_pos (by omega), wrap64_id (by omega) (by omega)]
    have := ih k (l.set (i : Int).toNat x) (i + 1) (by omega) (by omega) (by simpa using hl) (by omega)
    rwa [show ((i + 1 : Nat) : Int) = (i : Int) + 1 from by omega] at this

theorem NumLong : papermilllaw01_NumLong.Pure := by
  intro a x ha _
  have hu : 0 ≤ a ∧ a ≤ 255 := by simp [Lit.wf, IntKind.min, IntKind.max, IntKind.signed, IntKind.bits] at ha; omega
  refine ⟨200000, ?_⟩
  unfold papermilllaw01_NumLong.f
  rw [Int.tmod_eq_emod_of_nonneg (by omega), wrap64_id (x := a % 9) (by omega) (by omega), wrap64_id (x := 65532 + a % 9) (by omega) (by omega), if_pos (by omega), if_pos (by omega)]
  obtain ⟨n, hn⟩ : ∃ n : Nat, (n : Int) = 65532 + a % 9 := ⟨(65532 + a % 9).toNat, by omega⟩
  rw [← hn]
  exact long_l0 x n (by omega) (by omega) n 200000 _ 0 (by omega) (by omega) (by simp) (by omega)

end Go.Proofs.Yteibjgfeaimaiaa.Pure
