/- The statement AlignBacks over numbers alone: Back and its reference answer alike, for any marks. -/
import Derived.Test.YthdjlejljipjmaaPx20
import Derived.Test.YthdjlejljipjmaaPx19
import Derived.Test.YthdjlejljipjmaaAlignRef
import Derived.Test.YthdjlejljipjmaaAlignAwake
namespace Go.Proofs.Ythdjlejljipjmaa.Pure
open Go.RowKit Go.Proofs.Ythdjlejljipjmaa.P Go.Proofs.YthdjlejljipjmaaW.PrintWords Go.Proofs.YthdjlejljipjmaaW.PrintLast
set_option linter.unusedVariables false

theorem refback_l0 (l : List S41) (b : Int) (h : chkM l = 0) (hb0 : mB l 0 ≤ b) (hb1 : b ≤ mB l (l.length - 1)) (j : Nat) : ∀ (k : Nat) (lo hi : Int), j + 700 ≤ k → mA l 0 ≤ lo → hi ≤ mA l (l.length - 1) → lo ≤ bck l b → bck l b ≤ hi → hi - lo < ((2 ^ j : Nat) : Int) →
    papermillref14_Back.l0 k l b lo hi = some (bck l b, 0) := by
  have hok := (chkM_zero l).1 h
  have h2 := hok.1
  have r0 := hok.2.2.1 0 (by omega)
  have r1 := hok.2.2.1 (l.length - 1) (by omega)
  induction j with
  | zero =>
    intro k lo hi hk h0 h1 hlo hhi hd
    obtain ⟨k, rfl⟩ : ∃ m, k = m + 1 := ⟨k - 1, by omega⟩
    rw [Nat.pow_zero] at hd
    simp only [papermillref14_Back.l0]
    rw [if_neg (by omega)]
    congr 2
    omega
  | succ j ih =>
    intro k lo hi hk h0 h1 hlo hhi hd
    obtain ⟨k, rfl⟩ : ∃ m, k = m + 1 := ⟨k - 1, by omega⟩
    rw [Nat.pow_succ] at hd
    simp only [papermillref14_Back.l0]
    by_cases c : lo < hi
    · have hm1 : lo ≤ (lo + hi) / 2 := by omega
      have hm2 : (lo + hi) / 2 < hi := by omega
      have hg := galois hok (a := (lo + hi) / 2) (b := b) (by omega) (by omega) hb0 hb1
      rw [if_pos c, wrap64_id (x := lo + hi) (by omega) (by omega), Int.tdiv_eq_ediv_of_nonneg (by omega), wrap64_id (x := (lo + hi) / 2) (by omega) (by omega), wrap64_id (x := (lo + hi) / 2 + 1) (by omega) (by omega), reffwd_eq _ _ _ (by omega)]
      have e : fwdS l ((lo + hi) / 2) = (fwd l ((lo + hi) / 2), 0) := by
        unfold fwdS
        rw [if_pos h, if_pos ⟨by omega, by omega⟩]
      rw [e]
      simp only [Option.bind_some]
      by_cases c2 : fwd l ((lo + hi) / 2) ≥ b
      · rw [if_pos c2]
        exact ih k lo _ (by omega) h0 (by omega) hlo (hg.1 c2) (by omega)
      · rw [if_neg c2]
        have hn : ¬ bck l b ≤ (lo + hi) / 2 := fun hh => c2 (hg.2 hh)
        exact ih k _ hi (by omega) (by omega) h1 (by omega) hhi (by omega)
    · rw [if_neg c]
      congr 2
      omega

theorem refback_eq (l : List S41) (b : Int) (k : Nat) (hk : 1000 ≤ k) : papermillref14_Back.f k l b = align_Back.f l b := by
  obtain ⟨k, rfl⟩ : ∃ m, k = m + 1 := ⟨k - 1, by omega⟩
  unfold papermillref14_Back.f align_Back.f
  rw [refcheckM_eq l _ (by omega)]
  simp only [Option.bind_some, papermillref14_Back.j0]
  by_cases h : chkM l = 0
  · have hok := (chkM_zero l).1 h
    have h2 := hok.1
    have h64 := hok.2.1
    have r0 := hok.2.2.1 0 (by omega)
    have r1 := hok.2.2.1 (l.length - 1) (by omega)
    have q1 : (0 : Int) < (l.length : Int) := by omega
    have q2 : (0 : Int) ≤ ((l.length - 1 : Nat) : Int) := by omega
    have q3 : ((l.length - 1 : Nat) : Int) < (l.length : Int) := by omega
    rw [if_pos h, if_pos h, last_idx l (by omega) h64]
    simp only [if_pos q1, if_pos q2, if_pos q3]
    change (if b < mB l 0 then (if (true = true) then some ((0 : Int), (1 : Int)) else papermillref14_Back.l0 k l b (mA l 0) (mA l (l.length - 1))) else (if (decide (b > mB l (l.length - 1)) = true) then some (0, 1) else papermillref14_Back.l0 k l b (mA l 0) (mA l (l.length - 1)))) = _
    by_cases c1 : b < mB l 0
    · rw [if_pos c1, if_pos rfl, if_neg (by omega)]
    · rw [if_neg c1]
      by_cases c2 : b > mB l (l.length - 1)
      · rw [if_pos (decide_eq_true c2), if_neg (by omega)]
      · rw [if_neg (by simpa using c2), if_pos (by omega)]
        have br := bck_range hok (b := b) (by omega) (by omega)
        exact refback_l0 l b h (by omega) (by omega) 40 k _ _ (by omega) (Int.le_refl _) (Int.le_refl _) br.1 br.2 (by
          have : (2 : Nat) ^ 40 = 1099511627776 := by decide
          omega)
  · rw [if_neg h, if_neg h]

theorem AlignBacks (l0 : List S41) (a1 : Int) (m0 : l0.length ≤ maxLen) (wl0 : ∀ x ∈ l0, (Lit.int .i64 x.f0).wf = true ∧ (Lit.int .i64 x.f1).wf = true) (w1 : (Lit.int .i64 a1).wf = true) :
    ∃ k, papermilllaw14_AlignBacks.f k l0 a1 = some true := by
  refine ⟨2000, ?_⟩
  unfold papermilllaw14_AlignBacks.f papermilllaw14_few.f
  rw [align_awake _ (by omega), refback_eq _ _ _ (by omega)]
  unfold align_Back.f
  simp
end Go.Proofs.Ythdjlejljipjmaa.Pure
