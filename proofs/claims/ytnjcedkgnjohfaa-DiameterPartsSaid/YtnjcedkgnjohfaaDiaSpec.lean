/- What the functions of the package diameter and of its reference answer, as plain functions of numbers. -/
import Derived.Test.YtnjcedkgnjohfaaHandDia
import Derived.Test.YtnjcedkgnjohfaaHandMulDiv
import Derived.Test.YtnjcedkgnjohfaaPx3
import Derived.Test.YtnjcedkgnjohfaaPx2
import Derived.Test.YtnjcedkgnjohfaaPx6
import Derived.Test.YtnjcedkgnjohfaaPx6
import Derived.Test.YtnjcedkgnjohfaaPx7
import Derived.Test.YtnjcedkgnjohfaaPx7
import Derived.Test.YtnjcedkgnjohfaaPx7
namespace Go.Proofs.Ytnjcedkgnjohfaa.P
open Go.RowKit Go.Proofs.YtnjcedkgnjohfaaW.PrintWords Go.Proofs.YtnjcedkgnjohfaaW.PrintLast Go.Proofs.YtnjcedkgnjohfaaW.PrintMore Go.Proofs.Ytnjcedkgnjohfaa.First Go.Proofs.Ytnjcedkgnjohfaa.Math
set_option linter.unusedVariables false

def lenSpec (core dia cal : Int) : Int × Int :=
  if core < 1 ∨ 2500 < core ∨ cal < 1 ∨ 5000 < cal ∨ dia < 1 ∨ 2500 < dia then (0, 1) else if dia < core then (0, 9) else (woundZ core dia cal, 0)

def chkSpec (core dia cal : Int) : Int :=
  if core < 1 ∨ 2500 < core ∨ cal < 1 ∨ 5000 < cal ∨ dia < 1 ∨ 2500 < dia then 1 else if dia < core then 9 else 0

theorem check_eq (core dia cal : Int) (k : Nat) (hk : 2 ≤ k) : diameter_check.f k core dia cal = some (chkSpec core dia cal) := by
  obtain ⟨k, rfl⟩ : ∃ m, k = m + 1 := ⟨k - 1, by omega⟩
  unfold diameter_check.f chkSpec
  rw [within_eq]
  simp only [Option.bind_some]
  by_cases h : 1 ≤ core ∧ core ≤ 2500 ∧ 1 ≤ cal ∧ cal ≤ 5000
  · rw [decide_eq_true h, if_pos rfl]
    by_cases h1 : dia < 1
    · rw [if_pos h1, if_pos (by omega)]; simp [diameter_check.j0]
    · rw [if_neg h1]
      by_cases h2 : dia > 2500
      · rw [decide_eq_true h2, if_pos (by omega)]; simp [diameter_check.j0]
      · rw [decide_eq_false h2, if_neg (by omega)]
        simp only [diameter_check.j0]
        rw [if_neg (by simp)]
        split <;> rfl
  · rw [decide_eq_false h, if_neg (by simp), if_pos (by omega)]; simp [diameter_check.j0]

theorem length_eq (core dia cal : Int) (k : Nat) (hk : 2 ≤ k) : diameter_Length.f k core dia cal = some (lenSpec core dia cal) := by
  unfold diameter_Length.f
  rw [check_eq core dia cal k hk]
  simp only [Option.bind_some]
  unfold chkSpec lenSpec
  by_cases h : core < 1 ∨ 2500 < core ∨ cal < 1 ∨ 5000 < cal ∨ dia < 1 ∨ 2500 < dia
  · rw [if_pos h, if_pos h, if_neg (by omega)]
  · rw [if_neg h, if_neg h]
    by_cases h2 : dia < core
    · rw [if_pos h2, if_pos h2, if_neg (by omega)]
    · rw [if_neg h2, if_neg h2, if_pos rfl, wound_eq core dia cal (by omega) (by omega) (by omega) (by omega) (by omega)]; rfl

theorem refLimits_eq (core dia cal : Int) (k : Nat) (hk : 2 ≤ k) : papermillref37_limits.f k core dia cal = some (chkSpec core dia cal) := by
  obtain ⟨k, rfl⟩ : ∃ m, k = m + 1 := ⟨k - 1, by omega⟩
  have t : ∀ b : Bool, papermillref37_limits.j0 (k + 1) core dia b = some (if b = true then 1 else if dia < core then 9 else 0) := fun b => by
    simp only [papermillref37_limits.j0]
    cases b
    · simp; split <;> rfl
    · simp
  have bad : (core < 1 ∨ 2500 < core ∨ cal < 1 ∨ 5000 < cal ∨ dia < 1 ∨ 2500 < dia) → chkSpec core dia cal = 1 := fun h => by unfold chkSpec; rw [if_pos h]
  unfold papermillref37_limits.f
  simp only [t]
  by_cases h1 : core < 1
  · rw [if_pos h1, bad (by omega)]; simp
  · rw [if_neg h1]
    by_cases h2 : core > 2500
    · rw [if_pos h2, bad (by omega)]; simp
    · rw [if_neg h2]
      by_cases h3 : dia < 1
      · rw [if_pos h3, bad (by omega)]; simp
      · rw [if_neg h3]
        by_cases h4 : dia > 2500
        · rw [if_pos h4, bad (by omega)]; simp
        · rw [if_neg h4]
          by_cases h5 : cal < 1
          · rw [if_pos h5, bad (by omega)]; simp
          · rw [if_neg h5]
            by_cases h6 : cal > 5000
            · rw [decide_eq_true h6, bad (by omega)]; simp
            · unfold chkSpec; rw [decide_eq_false h6, if_neg (show ¬ (core < 1 ∨ 2500 < core ∨ cal < 1 ∨ 5000 < cal ∨ dia < 1 ∨ 2500 < dia) by omega)]; simp

theorem refLength_eq (core dia cal : Int) (k : Nat) (hk : 2 ≤ k) : papermillref37_Length.f k core dia cal = some (lenSpec core dia cal) := by
  unfold papermillref37_Length.f
  rw [refLimits_eq core dia cal k hk]
  simp only [Option.bind_some]
  unfold chkSpec lenSpec
  by_cases h : core < 1 ∨ 2500 < core ∨ cal < 1 ∨ 5000 < cal ∨ dia < 1 ∨ 2500 < dia
  · rw [if_pos h, if_pos h, if_neg (by omega)]
  · rw [if_neg h, if_neg h]
    by_cases h2 : dia < core
    · rw [if_pos h2, if_pos h2, if_neg (by omega)]
    · rw [if_neg h2, if_neg h2, if_pos rfl]
      unfold woundZ
      have b1 := sq_bound core (by omega) (by omega)
      have b2 := sq_bound dia (by omega) (by omega)
      have b3 := sq_mono (show 0 ≤ core by omega) (show core ≤ dia by omega)
      generalize dia * dia = D at *
      generalize core * core = C at *
      rw [wrap64_id (x := 1000000000 * cal) (by omega) (by omega), if_neg (by omega), wrap64_id (x := D) (by omega) (by omega), wrap64_id (x := C) (by omega) (by omega), wrap64_id (x := D - C) (by omega) (by omega), wrap64_id (x := 3141592653 * (D - C)) (by omega) (by omega), wrap64_id (x := 3141592653 * (D - C) * 250) (by omega) (by omega), Int.tdiv_eq_ediv_of_nonneg (by omega)]
      have g1 := Int.ediv_nonneg (show 0 ≤ 3141592653 * (D - C) * 250 by omega) (show 0 ≤ 1000000000 * cal by omega)
      have g2 := Int.ediv_le_self (1000000000 * cal) (show 0 ≤ 3141592653 * (D - C) * 250 by omega)
      rw [wrap64_id (by omega) (by omega), Int.mul_assoc]

/-- The search's answer, from what holds at it and just below it. -/
theorem dia_found (core len cal : Int) (m : Nat) (h1 : 1 ≤ core) (h2 : core + m ≤ 2500) (h3 : 1 ≤ cal) (h4 : cal ≤ 5000) (h5 : 0 ≤ len) (h6 : len ≤ 17179869184)
    (hy : len ≤ woundZ core (core + m) cal) (hn : m = 0 ∨ woundZ core (core + m - 1) cal < len) : diaSpec core len cal = (core + m, 0) := by
  have hf : first (fun n => decide (len ≤ woundZ core (core + n) cal)) (2500 - core + 1).toNat = m := by
    refine first_unique _ _ m (by omega) (fun t ht => ?_) (fun _ => decide_eq_true hy)
    have := wound_mono core (core + t) (core + m - 1) cal (by omega) (by omega) h3
    exact decide_eq_false (by omega)
  unfold diaSpec
  rw [if_neg (by omega), hf, if_neg (by omega)]

theorem dia_none (core len cal : Int) (h1 : 1 ≤ core) (h2 : core ≤ 2500) (h3 : 1 ≤ cal) (h4 : cal ≤ 5000) (h5 : 0 ≤ len) (h6 : len ≤ 17179869184)
    (hn : woundZ core 2500 cal < len) : diaSpec core len cal = (0, 32) := by
  have hf : first (fun n => decide (len ≤ woundZ core (core + n) cal)) (2500 - core + 1).toNat = (2500 - core + 1).toNat := by
    refine first_unique _ _ _ (Nat.le_refl _) (fun t ht => ?_) (fun h => absurd h (Nat.lt_irrefl _))
    have := wound_mono core (core + t) 2500 cal (by omega) (by omega) h3
    exact decide_eq_false (by omega)
  unfold diaSpec
  rw [if_neg (by omega), hf, if_pos (by omega)]

/-- What Dia's answer says. -/
theorem dia_says (core len cal : Int) :
    (diaSpec core len cal = (0, 1) ∧ (core < 1 ∨ 2500 < core ∨ cal < 1 ∨ 5000 < cal ∨ len < 0 ∨ 17179869184 < len)) ∨
    ((1 ≤ core ∧ core ≤ 2500 ∧ 1 ≤ cal ∧ cal ≤ 5000 ∧ 0 ≤ len ∧ len ≤ 17179869184) ∧ ((diaSpec core len cal = (0, 32) ∧ woundZ core 2500 cal < len) ∨
      ∃ d, diaSpec core len cal = (d, 0) ∧ core ≤ d ∧ d ≤ 2500 ∧ len ≤ woundZ core d cal ∧ (core < d → woundZ core (d - 1) cal < len))) := by
  by_cases h : core < 1 ∨ 2500 < core ∨ cal < 1 ∨ 5000 < cal ∨ len < 0 ∨ 17179869184 < len
  · left; exact ⟨by unfold diaSpec; rw [if_pos h], h⟩
  · right
    refine ⟨by omega, ?_⟩
    obtain ⟨f1, f2, f3⟩ := first_spec (fun n => decide (len ≤ woundZ core (core + n) cal)) (2500 - core + 1).toNat
    have e : diaSpec core len cal = if 2500 < core + (first (fun n => decide (len ≤ woundZ core (core + n) cal)) (2500 - core + 1).toNat : Nat) then (0, 32)
      else (core + (first (fun n => decide (len ≤ woundZ core (core + n) cal)) (2500 - core + 1).toNat : Nat), 0) := by unfold diaSpec; rw [if_neg h]
    rw [e]
    clear e
    generalize first (fun n => decide (len ≤ woundZ core (core + n) cal)) (2500 - core + 1).toNat = m at *
    by_cases c : 2500 < core + (m : Int)
    · left
      refine ⟨by rw [if_pos c], ?_⟩
      have := f2 (2500 - core).toNat (by omega)
      rw [show core + ((2500 - core).toNat : Int) = 2500 from by omega] at this
      exact Int.not_le.1 (of_decide_eq_false this)
    · right
      refine ⟨core + m, by rw [if_neg c], by omega, by omega, of_decide_eq_true (f3 (by omega)), fun hlt => ?_⟩
      have := f2 (m - 1) (by omega)
      rw [show core + ((m - 1 : Nat) : Int) = core + m - 1 from by omega] at this
      exact Int.not_le.1 (of_decide_eq_false this)

theorem refDia_l0 (core len cal : Int) (h1 : 1 ≤ core) (h2 : core ≤ 2500) (h3 : 1 ≤ cal) (h4 : cal ≤ 5000) (h5 : 0 ≤ len) (h6 : len ≤ 17179869184) (d : Nat) : ∀ (k : Nat) (x : Int), 2501 - x = d → core ≤ x → x ≤ 2501 → d + 2 < k →
    (core < x → woundZ core (x - 1) cal < len) → papermillref37_Dia.l0 k core len cal x = some (diaSpec core len cal) := by
  induction d with
  | zero =>
    intro k x hd hx hx2 hk hp
    obtain ⟨k, rfl⟩ : ∃ m, k = m + 1 := ⟨k - 1, by omega⟩
    have : x = 2501 := by omega
    subst this
    simp only [papermillref37_Dia.l0]
    rw [if_neg (by omega), dia_none core len cal h1 h2 h3 h4 h5 h6 (hp (by omega))]
  | succ d ih =>
    intro k x hd hx hx2 hk hp
    obtain ⟨k, rfl⟩ : ∃ m, k = m + 1 := ⟨k - 1, by omega⟩
    simp only [papermillref37_Dia.l0]
    rw [if_pos (by omega), refLength_eq core x cal k (by omega)]
    simp only [Option.bind_some]
    have e : lenSpec core x cal = (woundZ core x cal, 0) := by unfold lenSpec; rw [if_neg (by omega), if_neg (by omega)]
    rw [e]
    by_cases c : woundZ core x cal ≥ len
    · rw [if_pos c]
      have := dia_found core len cal (x - core).toNat h1 (by omega) h3 h4 h5 h6 (by rw [show core + ((x - core).toNat : Int) = x from by omega]; exact c)
        (by by_cases hc : core < x
            · right; rw [show core + ((x - core).toNat : Int) - 1 = x - 1 from by omega]; exact hp hc
            · left; omega)
      rw [this, show core + ((x - core).toNat : Int) = x from by omega]
    · rw [if_neg c, wrap64_id (by omega) (by omega)]
      exact ih k (x + 1) (by omega) (by omega) (by omega) (by omega) (fun _ => by rw [show x + 1 - 1 = x from by omega]; omega)

theorem refDia_eq (core len cal : Int) (k : Nat) (hk : 2600 ≤ k) : papermillref37_Dia.f k core len cal = some (diaSpec core len cal) := by
  obtain ⟨k, rfl⟩ : ∃ m, k = m + 1 := ⟨k - 1, by omega⟩
  have t : ∀ b : Bool, papermillref37_Dia.j0 (k + 1) core len cal b = if b = true then some (0, 1) else papermillref37_Dia.l0 k core len cal core := fun b => by
    simp only [papermillref37_Dia.j0]
  have bad : (core < 1 ∨ 2500 < core ∨ cal < 1 ∨ 5000 < cal ∨ len < 0 ∨ 17179869184 < len) → diaSpec core len cal = (0, 1) := fun h => by unfold diaSpec; rw [if_pos h]
  unfold papermillref37_Dia.f
  simp only [t]
  by_cases a1 : core < 1
  · rw [if_pos a1, bad (by omega)]; rfl
  · rw [if_neg a1]
    by_cases a2 : core > 2500
    · rw [if_pos a2, bad (by omega)]; rfl
    · rw [if_neg a2]
      by_cases a3 : len < 0
      · rw [if_pos a3, bad (by omega)]; rfl
      · rw [if_neg a3]
        by_cases a4 : len > 17179869184
        · rw [if_pos a4, bad (by omega)]; rfl
        · rw [if_neg a4]
          by_cases a5 : cal < 1
          · rw [if_pos a5, bad (by omega)]; rfl
          · rw [if_neg a5]
            by_cases a6 : cal > 5000
            · rw [decide_eq_true a6, bad (by omega)]; rfl
            · rw [decide_eq_false a6, if_neg (by simp)]
              exact refDia_l0 core len cal (by omega) (by omega) (by omega) (by omega) (by omega) (by omega) (2501 - core).toNat k core (by omega) (by omega) (by omega) (by omega) (fun h => absurd h (by omega))

def massSpec (wd ln bs : Int) : Int × Int :=
  if wd < 0 ∨ 12000 < wd ∨ ln < 0 ∨ 17179869184 < ln ∨ bs < 0 ∨ 1000000 < bs then (0, 1) else (rnd (wd * ln * bs) 1000000000 2, 0)

theorem rnd2_def (n d : Int) : rnd n d 2 = if 2 * (n % d) < d then n / d else if d < 2 * (n % d) then n / d + 1 else if n / d % 2 = 0 then n / d else n / d + 1 := by
  unfold rnd; rw [if_neg (by omega), if_neg (by omega)]

theorem rnd2_bounds (n d : Int) (hd : 0 < d) : 2 * n - d ≤ 2 * (d * rnd n d 2) ∧ 2 * (d * rnd n d 2) ≤ 2 * n + d := by
  have h1 := Int.mul_ediv_add_emod n d
  have h2 := Int.emod_nonneg n (show d ≠ 0 by omega)
  have h3 := Int.emod_lt_of_pos n hd
  rw [rnd2_def]
  generalize n / d = q at *
  generalize n % d = r at *
  have e : d * (q + 1) = d * q + d := by grind
  split
  · omega
  · split
    · rw [e]; omega
    · split
      · omega
      · rw [e]; omega

theorem rnd2_mono (a b d : Int) (hd : 0 < d) (h : a ≤ b) : rnd a d 2 ≤ rnd b d 2 := by
  have h1 := Int.mul_ediv_add_emod a d
  have h2 := Int.emod_nonneg a (show d ≠ 0 by omega)
  have h3 := Int.emod_lt_of_pos a hd
  have k1 := Int.mul_ediv_add_emod b d
  have k2 := Int.emod_nonneg b (show d ≠ 0 by omega)
  have k3 := Int.emod_lt_of_pos b hd
  have hq := Int.ediv_le_ediv hd h
  rw [rnd2_def, rnd2_def]
  generalize a / d = p at *
  generalize b / d = q at *
  generalize a % d = r at *
  generalize b % d = s at *
  rcases Int.lt_or_eq_of_le hq with hlt | heq
  · repeat' split
    all_goals omega
  · subst heq
    repeat' split
    all_goals omega

theorem rnd2_nonneg (n d : Int) (hd : 0 < d) (h : 0 ≤ n) : 0 ≤ rnd n d 2 := by
  have h4 := Int.ediv_nonneg h (show 0 ≤ d by omega)
  rw [rnd2_def]
  repeat' split
  all_goals omega

theorem mul3_bounds (wd ln bs : Int) (h1 : 0 ≤ wd) (h2 : wd ≤ 12000) (h3 : 0 ≤ ln) (h4 : ln ≤ 17179869184) (h5 : 0 ≤ bs) (h6 : bs ≤ 1000000) :
    0 ≤ wd * ln ∧ wd * ln ≤ 206158430208000 ∧ 0 ≤ wd * ln * bs ∧ wd * ln * bs ≤ 206158430208000000000 := by
  have a1 := Int.mul_nonneg h1 h3
  have a2 := mul_le h1 h2 h3 h4
  have a3 := Int.mul_nonneg a1 h5
  have a4 := mul_le a1 (show wd * ln ≤ 206158430208000 by omega) h5 h6
  exact ⟨a1, by omega, a3, by omega⟩

theorem md_mass (wd ln bs : Int) (h1 : 0 ≤ wd) (h2 : wd ≤ 12000) (h3 : 0 ≤ ln) (h4 : ln ≤ 17179869184) (h5 : 0 ≤ bs) (h6 : bs ≤ 1000000) : md (wd * ln) bs 1000000000 2 = (rnd (wd * ln * bs) 1000000000 2, 0) := by
  obtain ⟨a1, a2, a3, a4⟩ := mul3_bounds wd ln bs h1 h2 h3 h4 h5 h6
  have b1 := rnd2_bounds (wd * ln * bs) 1000000000 (by omega)
  have b2 := rnd2_nonneg (wd * ln * bs) 1000000000 (by omega) a3
  unfold md
  rw [if_neg (by omega), if_neg (by omega), if_neg (by omega), if_neg (show ¬ (1000000000 : Int) < 0 by omega), if_neg (show ¬ (1000000000 : Int) < 0 by omega), if_neg (by omega)]

theorem mass_eq (wd ln bs : Int) : diameter_Mass.f wd ln bs = some (massSpec wd ln bs) := by
  unfold diameter_Mass.f massSpec
  by_cases a1 : wd < 0
  · rw [if_pos a1, if_pos (by omega)]
  · rw [if_neg a1]
    by_cases a2 : wd > 12000
    · rw [if_pos a2, if_pos (by omega)]
    · rw [if_neg a2]
      by_cases a3 : ln < 0
      · rw [if_pos a3, if_pos (by omega)]
      · rw [if_neg a3]
        by_cases a4 : ln > 17179869184
        · rw [if_pos a4, if_pos (by omega)]
        · rw [if_neg a4]
          by_cases a5 : bs < 0
          · rw [if_pos a5, if_pos (by omega)]
          · rw [if_neg a5]
            by_cases a6 : bs > 1000000
            · rw [if_pos a6, if_pos (by omega)]
            · have b := mul3_bounds wd ln bs (by omega) (by omega) (by omega) (by omega) (by omega) (by omega)
              rw [if_neg a6, if_neg (by omega), wrap64_id (by omega) (by omega)]
              unfold num_MulDiv.f
              simp only [Option.bind_some]
              rw [md_mass wd ln bs (by omega) (by omega) (by omega) (by omega) (by omega) (by omega)]

theorem dia_awake (k : Nat) (hk : 10 ≤ k) : papermilllaw37_awake.f k = some true := by
  have e1 : lenSpec 100 200 100 = (235619, 0) := by decide +kernel
  have e2 : diaSpec 100 235619 100 = (200, 0) := dia_found 100 235619 100 100 (by omega) (by omega) (by omega) (by omega) (by omega) (by omega) (by decide +kernel) (.inr (by decide +kernel))
  have e3 : diaSpec 100 235620 100 = (201, 0) := dia_found 100 235620 100 101 (by omega) (by omega) (by omega) (by omega) (by omega) (by omega) (by decide +kernel) (.inr (by decide +kernel))
  have e4 : diameter_Turns.f k 100 200 300 = some (166, 0) := by
    unfold diameter_Turns.f
    rw [check_eq 100 200 300 k (by omega)]
    decide +kernel
  have e5 : massSpec 1000 1000 80500 = (80, 0) := by decide +kernel
  have e6 : lenSpec 100 99 1 = (0, 9) := by decide +kernel
  have e7 : diaSpec 100 17179869184 5000 = (0, 32) := dia_none 100 17179869184 5000 (by omega) (by omega) (by omega) (by omega) (by omega) (by omega) (by decide +kernel)
  unfold papermilllaw37_awake.f papermilllaw37_awake.g
  rw [length_eq _ _ _ k (by omega), length_eq _ _ _ k (by omega), e4, mass_eq]
  unfold diameter_Dia.f
  simp only [Option.bind_some, e1, e2, e3, e5, e6, e7]
  decide
end Go.Proofs.Ytnjcedkgnjohfaa.P
