/- Marks: what Check answers; what Forward and Back are; plain arithmetic. -/
import Derived.Test.YthdjlejljipjmaaBits
import Derived.Test.YthdjlejljipjmaaHandMulDiv
import Derived.Test.YthdjlejljipjmaaPx4
import Derived.Test.YthdjlejljipjmaaPx3
namespace Go.Proofs.Ythdjlejljipjmaa.P
open Go.RowKit Go.Proofs.YthdjlejljipjmaaW.PrintWords Go.Proofs.YthdjlejljipjmaaW.PrintLast Go.Proofs.YthdjlejljipjmaaW.PrintMore Go.Proofs.Ythdjlejljipjmaa.First Go.Proofs.Ythdjlejljipjmaa.Math
set_option linter.unusedVariables false

abbrev Mk := S41
def mA (l : List Mk) (i : Nat) : Int := (rd_T41 l (i : Int)).f0
def mB (l : List Mk) (i : Nat) : Int := (rd_T41 l (i : Int)).f1

theorem rdM_get (l : List Mk) (i : Nat) (h : i < l.length) : rd_T41 l (i : Int) = l[i] := by
  unfold rd_T41
  rw [Int.toNat_natCast, List.getD_eq_getElem?_getD, List.getElem?_eq_getElem h]; rfl
theorem mA_get (l : List Mk) (i : Nat) (h : i < l.length) : mA l i = l[i].f0 := by unfold mA; rw [rdM_get l i h]
theorem mB_get (l : List Mk) (i : Nat) (h : i < l.length) : mB l i = l[i].f1 := by unfold mB; rw [rdM_get l i h]

def inM (x : Mk) : Bool := decide (0 ≤ x.f0 ∧ x.f0 ≤ 17179869184 ∧ 0 ≤ x.f1 ∧ x.f1 ≤ 17179869184)
def srt : Mk → List Mk → Bool
  | _, [] => true
  | p, x :: l => decide (p.f0 < x.f0 ∧ p.f1 < x.f1) && srt x l

def chkM (l : List Mk) : Int :=
  if 64 < l.length then 8 else if l.length < 2 then 10 else if l.all inM = true then (if srt (rd_T41 l 0) (l.drop 1) = true then 0 else 9) else 1

/-- Valid marks. -/
def okM (l : List Mk) : Prop := 2 ≤ l.length ∧ l.length ≤ 64 ∧ (∀ i, i < l.length → 0 ≤ mA l i ∧ mA l i ≤ 17179869184 ∧ 0 ≤ mB l i ∧ mB l i ≤ 17179869184) ∧ (∀ i, i + 1 < l.length → mA l i < mA l (i + 1) ∧ mB l i < mB l (i + 1))

theorem srt_idx (l : List Mk) (d : Nat) : ∀ i, i + 1 + d = l.length → (srt (rd_T41 l (i : Int)) (l.drop (i + 1)) = true ↔ ∀ j, i ≤ j → j + 1 < l.length → mA l j < mA l (j + 1) ∧ mB l j < mB l (j + 1)) := by
  induction d with
  | zero =>
    intro i hi
    rw [List.drop_of_length_le (by omega)]
    exact ⟨fun _ j h1 h2 => by omega, fun _ => rfl⟩
  | succ d ih =>
    intro i hi
    have hlt : i + 1 < l.length := by omega
    have := ih (i + 1) (by omega)
    rw [List.drop_eq_getElem_cons hlt, srt, Bool.and_eq_true, decide_eq_true_eq]
    rw [rdM_get l (i + 1) hlt] at this
    rw [this]
    have ea : mA l (i + 1) = l[i + 1].f0 := mA_get l _ hlt
    have eb : mB l (i + 1) = l[i + 1].f1 := mB_get l _ hlt
    constructor
    · rintro ⟨h1, h2⟩ j hj hj2
      by_cases e : j = i
      · subst e; rw [ea, eb]; exact h1
      · exact h2 j (by omega) hj2
    · intro h
      refine ⟨?_, fun j hj hj2 => h j (by omega) hj2⟩
      have := h i (Nat.le_refl _) hlt
      rw [ea, eb] at this
      exact this

theorem chkM_zero (l : List Mk) : chkM l = 0 ↔ okM l := by
  unfold chkM okM
  by_cases h1 : 64 < l.length
  · rw [if_pos h1]; exact ⟨fun h => by omega, fun h => by omega⟩
  · rw [if_neg h1]
    by_cases h2 : l.length < 2
    · rw [if_pos h2]; exact ⟨fun h => by omega, fun h => by omega⟩
    · rw [if_neg h2]
      have hs := srt_idx l (l.length - 1) 0 (by omega)
      rw [show ((0 : Nat) : Int) = 0 from rfl, show 0 + 1 = 1 from rfl] at hs
      have hin : l.all inM = true ↔ ∀ i, i < l.length → 0 ≤ mA l i ∧ mA l i ≤ 17179869184 ∧ 0 ≤ mB l i ∧ mB l i ≤ 17179869184 := by
        rw [List.all_eq_true]
        constructor
        · intro h i hi
          have := h l[i] (List.getElem_mem hi)
          rw [mA_get l i hi, mB_get l i hi]
          unfold inM at this
          exact of_decide_eq_true this
        · intro h x hx
          obtain ⟨i, hi, rfl⟩ := List.getElem_of_mem hx
          have := h i hi
          rw [mA_get l i hi, mB_get l i hi] at this
          unfold inM
          exact decide_eq_true this
      by_cases h3 : l.all inM = true
      · rw [if_pos h3]
        by_cases h4 : srt (rd_T41 l 0) (l.drop 1) = true
        · rw [if_pos h4]
          exact ⟨fun _ => ⟨by omega, by omega, hin.1 h3, fun i hi => hs.1 h4 i (Nat.zero_le _) hi⟩, fun _ => rfl⟩
        · rw [if_neg h4]
          exact ⟨fun h => by omega, fun h => absurd (hs.2 fun j _ hj => h.2.2.2 j hj) h4⟩
      · rw [if_neg h3]
        exact ⟨fun h => by omega, fun h => absurd (hin.2 h.2.2.1) h3⟩

theorem shown_eq (x : Int) : align_shown.f x = some (decide (0 ≤ x ∧ x ≤ 17179869184)) := by
  unfold align_shown.f
  by_cases h : x ≥ 0
  · rw [if_pos h]; congr 1; rw [decide_eq_decide]; omega
  · rw [if_neg h, decide_eq_false (by omega)]

theorem checkM_l1 (l : List Mk) (hl : l.length ≤ 64) (d : Nat) : ∀ (k i : Nat), i + 1 + d = l.length → d + 2 ≤ k → align_Check.l1 k l ((i + 1 : Nat) : Int) = some (if srt (rd_T41 l (i : Int)) (l.drop (i + 1)) = true then 0 else 9) := by
  induction d with
  | zero =>
    intro k i hi hk
    obtain ⟨k, rfl⟩ : ∃ m, k = m + 1 := ⟨k - 1, by omega⟩
    simp only [align_Check.l1]
    rw [if_neg (by omega), List.drop_of_length_le (by omega), if_pos (by rfl)]
  | succ d ih =>
    intro k i hi hk
    obtain ⟨k, rfl⟩ : ∃ m, k = m + 1 := ⟨k - 1, by omega⟩
    have hlt : i + 1 < l.length := by omega
    have := ih k (i + 1) (by omega) (by omega)
    simp only [align_Check.l1]
    rw [wrap64_id (x := ((i + 1 : Nat) : Int) - 1) (by omega) (by omega), wrap64_id (x := ((i + 1 : Nat) : Int) + 1) (by omega) (by omega), show ((i + 1 : Nat) : Int) - 1 = (i : Int) by omega, show ((i + 1 : Nat) : Int) + 1 = ((i + 1 + 1 : Nat) : Int) by omega]
    rw [if_pos (by omega), if_pos (by omega), if_pos (by omega), if_pos (by omega), List.drop_eq_getElem_cons hlt, srt, this, rdM_get l (i + 1) hlt]
    by_cases c1 : l[i + 1].f0 ≤ (rd_T41 l (i : Int)).f0
    · rw [if_pos c1, decide_eq_false (by omega), Bool.false_and]; rfl
    · rw [if_neg c1]
      by_cases c2 : l[i + 1].f1 ≤ (rd_T41 l (i : Int)).f1
      · rw [if_pos c2, decide_eq_false (by omega), Bool.false_and]; rfl
      · rw [if_neg c2, decide_eq_true (by omega), Bool.true_and]

theorem checkM_l0 (l : List Mk) (hl : l.length ≤ 64) (h2 : 2 ≤ l.length) (d : Nat) : ∀ (k i : Nat), i + d = l.length → d + 80 ≤ k → align_Check.l0 k l l (l.length : Int) i = some (if (l.drop i).all inM = true then (if srt (rd_T41 l 0) (l.drop 1) = true then 0 else 9) else 1) := by
  induction d with
  | zero =>
    intro k i hi hk
    obtain ⟨k, rfl⟩ : ∃ m, k = m + 1 := ⟨k - 1, by omega⟩
    simp only [align_Check.l0]
    rw [if_neg (by omega), List.drop_of_length_le (by omega), if_pos (show ([] : List Mk).all inM = true from rfl)]
    exact checkM_l1 l hl (l.length - 1) k 0 (by omega) (by omega)
  | succ d ih =>
    intro k i hi hk
    obtain ⟨k, rfl⟩ : ∃ m, k = m + 1 := ⟨k - 1, by omega⟩
    have hlt : i < l.length := by omega
    have := ih k (i + 1) (by omega) (by omega)
    simp only [align_Check.l0]
    rw [if_pos (by omega), if_pos (by omega), if_pos (by omega), rdM_get l i hlt, shown_eq, shown_eq, wrap64_id (x := (i : Int) + 1) (by omega) (by omega), show (i : Int) + 1 = ((i + 1 : Nat) : Int) by omega, this, List.drop_eq_getElem_cons hlt, List.all_cons]
    simp only [Option.bind_some]
    by_cases c1 : 0 ≤ l[i].f0 ∧ l[i].f0 ≤ 17179869184
    · rw [if_pos (decide_eq_true c1)]
      by_cases c2 : 0 ≤ l[i].f1 ∧ l[i].f1 ≤ 17179869184
      · have e : inM l[i] = true := decide_eq_true ⟨c1.1, c1.2, c2.1, c2.2⟩
        rw [if_pos (decide_eq_true c2), e, Bool.true_and]
      · have e : inM l[i] = false := decide_eq_false (fun h => c2 h.2.2)
        rw [if_neg (by simpa using c2), e, Bool.false_and]; rfl
    · have e : inM l[i] = false := decide_eq_false (fun h => c1 ⟨h.1, h.2.1⟩)
      rw [if_neg (by simpa using c1), e, Bool.false_and]; rfl

theorem checkM_eq (l : List Mk) (k : Nat) (hk : 200 ≤ k) : align_Check.f k l = some (chkM l) := by
  unfold align_Check.f chkM
  by_cases h1 : (l.length : Int) > 64
  · rw [if_pos h1, if_pos (by omega)]
  · rw [if_neg h1, if_neg (show ¬ 64 < l.length by omega)]
    by_cases h2 : (l.length : Int) < 2
    · rw [if_pos h2, if_pos (by omega)]
    · rw [if_neg h2, if_neg (show ¬ l.length < 2 by omega)]
      have := checkM_l0 l (by omega) (by omega) l.length k 0 (by omega) (by omega)
      simpa using this

theorem mono_lt {l : List Mk} (h : okM l) : ∀ (d i : Nat), i + 1 + d < l.length → mA l i < mA l (i + 1 + d) ∧ mB l i < mB l (i + 1 + d) := by
  intro d
  induction d with
  | zero => intro i hi; exact h.2.2.2 i hi
  | succ d ih =>
    intro i hi
    have a := ih i (by omega)
    have b := h.2.2.2 (i + 1 + d) (by omega)
    rw [show i + 1 + (d + 1) = i + 1 + d + 1 by omega]
    omega

theorem mono_of {l : List Mk} (h : okM l) {i j : Nat} (hij : i < j) (hj : j < l.length) : mA l i < mA l j ∧ mB l i < mB l j := by
  have := mono_lt h (j - i - 1) i (by omega)
  rwa [show i + 1 + (j - i - 1) = j by omega] at this

/-! ### the segment and the line -/
/-- Before x in a field of the marks. -/
def bef (fld : Mk → Int) (l : List Mk) (x : Int) (i : Nat) : Bool := !decide (fld (rd_T41 l ((i : Int) + 1)) < x)
def seg (fld : Mk → Int) (l : List Mk) (x : Int) : Nat := first (bef fld l x) (l.length - 2)
def fA (m : Mk) : Int := m.f0
def fB (m : Mk) : Int := m.f1

theorem seg_le (fld : Mk → Int) (l : List Mk) (x : Int) : seg fld l x ≤ l.length - 2 := (first_spec _ _).1

theorem segA_spec {l : List Mk} (h : okM l) {a : Int} (h0 : mA l 0 ≤ a) (h1 : a ≤ mA l (l.length - 1)) : mA l (seg fA l a) ≤ a ∧ a ≤ mA l (seg fA l a + 1) ∧ (0 < seg fA l a → mA l (seg fA l a) < a) := by
  obtain ⟨g1, g2, g3⟩ := first_spec (bef fA l a) (l.length - 2)
  change seg fA l a ≤ _ at g1
  change ∀ t, t < seg fA l a → _ at g2
  change seg fA l a < _ → bef fA l a (seg fA l a) = true at g3
  have h2 := h.1
  generalize seg fA l a = k at *
  have lo : 0 < k → mA l k < a := fun hk => by
    have := g2 (k - 1) (by omega)
    unfold bef fA at this
    rw [show ((k - 1 : Nat) : Int) + 1 = (k : Int) by omega] at this
    simpa [mA] using this
  refine ⟨?_, ?_, lo⟩
  · by_cases hk : k = 0
    · subst hk; exact h0
    · have := lo (by omega); omega
  · by_cases hk : k < l.length - 2
    · have := g3 hk
      unfold bef fA at this
      rw [show (k : Int) + 1 = ((k + 1 : Nat) : Int) by omega] at this
      have : ¬ mA l (k + 1) < a := by simpa [mA] using this
      omega
    · rw [show k + 1 = l.length - 1 by omega]; exact h1

theorem segB_spec {l : List Mk} (h : okM l) {b : Int} (h0 : mB l 0 ≤ b) (h1 : b ≤ mB l (l.length - 1)) : mB l (seg fB l b) ≤ b ∧ b ≤ mB l (seg fB l b + 1) ∧ (0 < seg fB l b → mB l (seg fB l b) < b) := by
  obtain ⟨g1, g2, g3⟩ := first_spec (bef fB l b) (l.length - 2)
  change seg fB l b ≤ _ at g1
  change ∀ t, t < seg fB l b → _ at g2
  change seg fB l b < _ → bef fB l b (seg fB l b) = true at g3
  have h2 := h.1
  generalize seg fB l b = k at *
  have lo : 0 < k → mB l k < b := fun hk => by
    have := g2 (k - 1) (by omega)
    unfold bef fB at this
    rw [show ((k - 1 : Nat) : Int) + 1 = (k : Int) by omega] at this
    simpa [mB] using this
  refine ⟨?_, ?_, lo⟩
  · by_cases hk : k = 0
    · subst hk; exact h0
    · have := lo (by omega); omega
  · by_cases hk : k < l.length - 2
    · have := g3 hk
      unfold bef fB at this
      rw [show (k : Int) + 1 = ((k + 1 : Nat) : Int) by omega] at this
      have : ¬ mB l (k + 1) < b := by simpa [mB] using this
      omega
    · rw [show k + 1 = l.length - 1 by omega]; exact h1

/-- What B shows when A shows a. -/
def fwd (l : List Mk) (a : Int) : Int := mB l (seg fA l a) + (a - mA l (seg fA l a)) * (mB l (seg fA l a + 1) - mB l (seg fA l a)) / (mA l (seg fA l a + 1) - mA l (seg fA l a))
/-- The least a for which that is at least b. -/
def bck (l : List Mk) (b : Int) : Int := mA l (seg fB l b) + -(-((b - mB l (seg fB l b)) * (mA l (seg fB l b + 1) - mA l (seg fB l b))) / (mB l (seg fB l b + 1) - mB l (seg fB l b)))

theorem md_down (x y c : Int) (hx : 0 ≤ x) (hxc : x ≤ c) (hy : 0 ≤ y) (hy' : y ≤ 17179869184) (hc : 0 < c) (hc' : c ≤ 17179869184) : md x y c 0 = (x * y / c, 0) ∧ 0 ≤ x * y / c ∧ x * y / c ≤ y := by
  have h0 := Int.mul_nonneg hx hy
  have h1 := Int.mul_le_mul_of_nonneg_right hxc hy
  have q0 := Int.ediv_nonneg h0 (Int.le_of_lt hc)
  have q1 : x * y / c ≤ y := Int.ediv_le_of_le_mul hc (by rw [Int.mul_comm y c]; exact h1)
  refine ⟨?_, q0, q1⟩
  unfold md rnd
  rw [if_neg (by omega), if_neg (by omega), if_neg (show ¬ ((0 : Int) < 0 ∨ (3 : Int) ≤ 0) by omega), if_neg (show ¬ c < 0 by omega), if_neg (show ¬ c < 0 by omega), if_pos rfl, if_neg (by omega)]

theorem up_eq (p c : Int) (hc : 0 < c) (q : Int) (hq : 0 ≤ q) (hp0 : 0 ≤ p) (hp : p ≤ q * c) : 0 ≤ -(-p / c) ∧ -(-p / c) ≤ q := by
  have h1 := Int.mul_ediv_add_emod (-p) c
  have h2 := Int.emod_nonneg (-p) (show c ≠ 0 by omega)
  have h3 := Int.emod_lt_of_pos (-p) hc
  generalize -p / c = z at *
  generalize -p % c = r at *
  constructor
  · rcases Int.lt_or_le 0 z with g | g
    · have := Int.mul_le_mul_of_nonneg_left (show 1 ≤ z by omega) (Int.le_of_lt hc); omega
    · omega
  · rcases Int.lt_or_le q (-z) with g | g
    · have := Int.mul_le_mul_of_nonneg_left (show z ≤ -q - 1 by omega) (Int.le_of_lt hc)
      rw [Int.mul_sub, Int.mul_one, Int.mul_neg, Int.mul_comm c q] at this
      omega
    · omega

theorem md_up (x y c : Int) (hx : 0 ≤ x) (hxc : x ≤ c) (hy : 0 ≤ y) (hy' : y ≤ 17179869184) (hc : 0 < c) (hc' : c ≤ 17179869184) : md x y c 1 = (-(-(x * y) / c), 0) ∧ 0 ≤ -(-(x * y) / c) ∧ -(-(x * y) / c) ≤ y := by
  have h0 := Int.mul_nonneg hx hy
  have h1 := Int.mul_le_mul_of_nonneg_right hxc hy
  have hu := up_eq (x * y) c hc y hy h0 (by rw [Int.mul_comm y c]; exact h1)
  refine ⟨?_, hu.1, hu.2⟩
  unfold md rnd
  rw [if_neg (by omega), if_neg (by omega), if_neg (show ¬ ((1 : Int) < 0 ∨ (3 : Int) ≤ 1) by omega), if_neg (show ¬ c < 0 by omega), if_neg (show ¬ c < 0 by omega), if_neg (show ¬ (1 : Int) = 0 by omega), if_pos rfl, if_neg (by omega)]
end Go.Proofs.Ythdjlejljipjmaa.P
