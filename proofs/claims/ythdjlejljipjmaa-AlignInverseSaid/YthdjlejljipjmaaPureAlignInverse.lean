/- The statement AlignInverse over numbers alone: Back is the least inverse of Forward, which never decreases. -/
import Derived.Test.YthdjlejljipjmaaPx26
import Derived.Test.YthdjlejljipjmaaAlignSpec
import Derived.Test.YthdjlejljipjmaaAlignAwake
namespace Go.Proofs.Ythdjlejljipjmaa.Pure
open Go.RowKit Go.Proofs.Ythdjlejljipjmaa.P Go.Proofs.YthdjlejljipjmaaW.PrintWords Go.Proofs.YthdjlejljipjmaaW.PrintLast
set_option linter.unusedVariables false

theorem fwd_ok (l : List S41) (a : Int) (h : chkM l = 0) (h0 : mA l 0 ≤ a) (h1 : a ≤ mA l (l.length - 1)) (k : Nat) (hk : 200 ≤ k) : align_Forward.f k l a = some (fwd l a, 0) := by
  rw [forward_eq l a k hk]
  unfold fwdS
  rw [if_pos h, if_pos ⟨h0, h1⟩]

theorem inv_j4 (l : List S41) (a : Int) (h : chkM l = 0) (h0 : mA l 0 < a) (h1 : a ≤ mA l (l.length - 1)) (k : Nat) (hk : 400 ≤ k) : papermilllaw14_AlignInverse.j4 k l a false = some true := by
  obtain ⟨k, rfl⟩ : ∃ m, k = m + 1 := ⟨k - 1, by omega⟩
  have hok := (chkM_zero l).1 h
  have h2 := hok.1
  have r0 := hok.2.2.1 0 (by omega)
  have r1 := hok.2.2.1 (l.length - 1) (by omega)
  simp only [papermilllaw14_AlignInverse.j4]
  rw [if_neg (by simp), fwd_ok l a h (by omega) h1 k (by omega), wrap64_id (x := a - 1) (by omega) (by omega), fwd_ok l (a - 1) h (by omega) (by omega) k (by omega), align_awake _ (by omega)]
  have hm := fwd_mono hok (a := a - 1) (a' := a) (by omega) (by omega) h1
  simp only [Option.bind_some, if_true]
  rw [if_pos hm]

theorem inv_j3 (l : List S41) (a : Int) (h : chkM l = 0) (k : Nat) (hk : 500 ≤ k) : papermilllaw14_AlignInverse.j3 k l a = some true := by
  obtain ⟨k, rfl⟩ : ∃ m, k = m + 2 := ⟨k - 2, by omega⟩
  have hok := (chkM_zero l).1 h
  have h2 := hok.1
  have q1 : (0 : Int) < (l.length : Int) := by omega
  have q2 : (0 : Int) ≤ ((l.length - 1 : Nat) : Int) := by omega
  have q3 : ((l.length - 1 : Nat) : Int) < (l.length : Int) := by omega
  have triv : papermilllaw14_AlignInverse.j4 (k + 1) l a true = some true := by
    simp only [papermilllaw14_AlignInverse.j4]
    rw [if_pos trivial, align_awake _ (by omega)]; rfl
  simp only [papermilllaw14_AlignInverse.j3]
  rw [last_idx l (by omega) hok.2.1]
  simp only [if_pos q1, if_pos q2, if_pos q3]
  change (if a ≤ mA l 0 then papermilllaw14_AlignInverse.j4 (k + 1) l a true else papermilllaw14_AlignInverse.j4 (k + 1) l a (decide (a > mA l (l.length - 1)))) = _
  by_cases c1 : a ≤ mA l 0
  · rw [if_pos c1]; exact triv
  · rw [if_neg c1]
    by_cases c2 : a > mA l (l.length - 1)
    · rw [decide_eq_true c2]; exact triv
    · rw [decide_eq_false c2]; exact inv_j4 l a h (by omega) (by omega) (k + 1) (by omega)

theorem AlignInverse (l0 : List S41) (a1 a2 : Int) (m0 : l0.length ≤ maxLen) (wl0 : ∀ x ∈ l0, (Lit.int .i64 x.f0).wf = true ∧ (Lit.int .i64 x.f1).wf = true) (w1 : (Lit.int .i64 a1).wf = true) (w2 : (Lit.int .i64 a2).wf = true) :
    ∃ k, papermilllaw14_AlignInverse.f k l0 a1 a2 = some true := by
  refine ⟨2000, ?_⟩
  have triv : papermilllaw14_AlignInverse.j0 2000 l0 a1 a2 true = some true := by
    simp only [papermilllaw14_AlignInverse.j0]
    rw [if_pos trivial, align_awake _ (by omega)]; rfl
  unfold papermilllaw14_AlignInverse.f papermilllaw14_few.f
  rw [checkM_eq _ _ (by omega)]
  simp only [Option.bind_some]
  by_cases c : (l0.length : Int) ≤ 100
  · rw [if_pos (decide_eq_true c)]
    by_cases h : chkM l0 = 0
    · rw [if_pos h]
      have hok := (chkM_zero l0).1 h
      have h2 := hok.1
      have h64 := hok.2.1
      have r0 := hok.2.2.1 0 (by omega)
      have r1 := hok.2.2.1 (l0.length - 1) (by omega)
      have q1 : (0 : Int) < (l0.length : Int) := by omega
      have q2 : (0 : Int) ≤ ((l0.length - 1 : Nat) : Int) := by omega
      have q3 : ((l0.length - 1 : Nat) : Int) < (l0.length : Int) := by omega
      have e0 : (((l0.length : Nat) : Int) == 0) = false := beq_eq_false_iff_ne.2 (by omega)
      rw [e0]
      simp only [papermilllaw14_AlignInverse.j0]
      rw [if_neg (by simp), last_idx l0 (by omega) h64]
      unfold align_Back.f
      rw [if_pos h]
      simp only [Option.bind_some, if_pos q1, if_pos q2, if_pos q3]
      by_cases hb : mB l0 0 ≤ a2 ∧ a2 ≤ mB l0 (l0.length - 1)
      · rw [if_pos hb]
        change (if a2 ≥ mB l0 0 then papermilllaw14_AlignInverse.j1 1999 l0 a1 a2 (bck l0 a2) 0 (true != (decide (a2 ≤ mB l0 (l0.length - 1)))) else _) = _
        rw [if_pos hb.1, decide_eq_true hb.2]
        have br := bck_range hok hb.1 hb.2
        have g := (galois hok br.1 br.2 hb.1 hb.2).2 (Int.le_refl _)
        change papermilllaw14_AlignInverse.j1 1999 l0 a1 a2 (bck l0 a2) 0 false = _
        simp only [papermilllaw14_AlignInverse.j1]
        rw [if_neg (by simp), if_pos trivial, fwd_ok l0 _ h br.1 br.2 _ (by omega), last_idx l0 (by omega) h64]
        simp only [Option.bind_some, if_true, if_pos q1, if_pos q2, if_pos q3]
        rw [if_neg (by omega)]
        change (if bck l0 a2 < mA l0 0 then _ else papermilllaw14_AlignInverse.j2 1998 l0 a1 a2 (bck l0 a2) (decide (bck l0 a2 > mA l0 (l0.length - 1)))) = _
        rw [if_neg (by omega), decide_eq_false (by omega)]
        simp only [papermilllaw14_AlignInverse.j2]
        rw [if_neg (by simp), if_pos q1, wrap64_id (x := bck l0 a2 - 1) (by omega) (by omega)]
        change (if bck l0 a2 > mA l0 0 then _ else _) = _
        by_cases c3 : bck l0 a2 > mA l0 0
        · rw [if_pos c3, fwd_ok l0 (bck l0 a2 - 1) h (by omega) (by omega) _ (by omega)]
          simp only [Option.bind_some, if_true]
          have gn : ¬ a2 ≤ fwd l0 (bck l0 a2 - 1) := fun hh => by
            have := (galois hok (a := bck l0 a2 - 1) (b := a2) (by omega) (by omega) hb.1 hb.2).1 hh
            omega
          rw [if_neg (by omega)]
          exact inv_j3 l0 a1 h _ (by omega)
        · rw [if_neg c3]
          exact inv_j3 l0 a1 h _ (by omega)
      · rw [if_neg hb]
        have key : papermilllaw14_AlignInverse.j1 1999 l0 a1 a2 0 1 false = some true := by
          simp only [papermilllaw14_AlignInverse.j1]
          rw [if_neg (by simp), if_neg (by decide)]
          exact inv_j3 l0 a1 h _ (by omega)
        change (if a2 ≥ mB l0 0 then papermilllaw14_AlignInverse.j1 1999 l0 a1 a2 0 1 (false != (decide (a2 ≤ mB l0 (l0.length - 1)))) else papermilllaw14_AlignInverse.j1 1999 l0 a1 a2 0 1 (false != false)) = _
        by_cases c4 : a2 ≥ mB l0 0
        · rw [if_pos c4, decide_eq_false (by omega)]; exact key
        · rw [if_neg c4]; exact key
    · rw [if_neg h]; exact triv
  · rw [if_neg (by simpa using c)]; exact triv
end Go.Proofs.Ythdjlejljipjmaa.Pure
