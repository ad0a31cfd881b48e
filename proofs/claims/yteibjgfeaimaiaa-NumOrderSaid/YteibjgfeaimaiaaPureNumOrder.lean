/- The statement NumOrder over lists alone: a sum does not depend on the order, and agrees with Add. -/
import Derived.Test.YteibjgfeaimaiaaPx12
import Derived.Test.YteibjgfeaimaiaaNumSpec
import Derived.Test.YteibjgfeaimaiaaRefMd
namespace Go.Proofs.Yteibjgfeaimaiaa.Pure
open Go.RowKit Go.Proofs.Yteibjgfeaimaiaa.P Go.Proofs.YteibjgfeaimaiaaW.PrintWords Go.Proofs.YteibjgfeaimaiaaW.PrintLast Go.Proofs.Yteibjgfeaimaiaa.Math
set_option linter.unusedVariables false

theorem sumSpec_reverse (l : List Int) : sumSpec l.reverse = sumSpec l := by
  unfold sumSpec
  rw [List.length_reverse, List.all_reverse, List.sum_reverse]

theorem sumSpec_two (a b : Int) : sumSpec [a, b] = if inR a = true ∧ inR b = true then resSpec (a + b) else (0, 1) := by
  unfold sumSpec resSpec
  rw [if_neg (by simp)]
  by_cases h : inR a = true ∧ inR b = true
  · rw [if_pos h, if_neg (by simp [h.1, h.2])]
    have : ([a, b] : List Int).sum = a + b := by simp
    rw [this]
  · rw [if_neg h, if_pos]
    have e : ([a, b] : List Int).all inR = (inR a && inR b) := by simp
    rw [e]
    cases ha : inR a <;> cases hb : inR b <;> simp_all

theorem order_l0 (l : List Int) (a b : Int) (hl : l.length ≤ 200) (i : Nat) : ∀ (k : Nat), i ≤ l.length → i + 300 < k →
    papermilllaw01_NumOrder.l0 k l a b ((l.drop i).reverse) ((i : Int) - 1) = some true := by
  induction i with
  | zero =>
    intro k hi hk
    obtain ⟨k, rfl⟩ : ∃ m, k = m + 1 := ⟨k - 1, by omega⟩
    simp only [papermilllaw01_NumOrder.l0]
    rw [if_neg (by omega), List.drop_zero, num_Sum_eq l (by omega) k (by omega), num_Sum_eq l.reverse (by simp; omega) k (by simp; omega), num_Sum_eq [a, b] (by simp) k (by simp; omega), num_Add_eq a b k (by omega), awake_true k (by omega), sumSpec_reverse, sumSpec_two]
    simp
  | succ i ih =>
    intro k hi hk
    obtain ⟨k, rfl⟩ : ∃ m, k = m + 1 := ⟨k - 1, by omega⟩
    simp only [papermilllaw01_NumOrder.l0]
    have e : rd l (((i + 1 : Nat) : Int) - 1) = l[i] := by
      rw [show ((i + 1 : Nat) : Int) - 1 = (i : Int) from by omega]
      simp [rd, show i < l.length by omega]
    rw [if_pos (by omega), if_pos (by omega), if_pos (by omega), if_pos (by simp; omega), e, wrap64_id (by omega) (by omega)]
    have h := ih k (by omega) (by omega)
    rw [List.drop_eq_getElem_cons (show i < l.length by omega), List.reverse_cons] at h
    rwa [show ((i + 1 : Nat) : Int) - 1 - 1 = (i : Int) - 1 from by omega]

theorem NumOrder : papermilllaw01_NumOrder.Pure := by
  intro l a b _ _ _ _ _
  refine ⟨1000, ?_⟩
  unfold papermilllaw01_NumOrder.f
  by_cases c : (l.length : Int) > 200
  · rw [if_pos c, awake_true 1000 (by omega)]; rfl
  · rw [if_neg c, wrap64_id (by omega) (by omega)]
    have h := order_l0 l a b (by omega) l.length 1000 (Nat.le_refl _) (by omega)
    rwa [List.drop_length, List.reverse_nil] at h

end Go.Proofs.Yteibjgfeaimaiaa.Pure
