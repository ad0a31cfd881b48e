/- What the small functions of the package scan answer. -/
import Derived.Test.YtnkmeocccbkdkaaPx28
namespace Go.Proofs.Ytnkmeocccbkdkaa.P
open Go.RowKit Go.Proofs.YtnkmeocccbkdkaaW.PrintWords Go.Proofs.YtnkmeocccbkdkaaW.PrintLast Go.Proofs.YtnkmeocccbkdkaaW.PrintMore
set_option linter.unusedVariables false

theorem swrap {x : Int} (h0 : -9223372036854775808 ≤ x) (h1 : x ≤ 9223372036854775807) : wrap64 x = x := by unfold wrap64; omega

/-- A scanner that is permitted. -/
def okS (wd bx sp : Int) : Prop := 2 ≤ wd ∧ wd ≤ 12000 ∧ 1 ≤ bx ∧ bx ≤ 64 ∧ 1 ≤ sp ∧ sp ≤ 12000
instance (wd bx sp : Int) : Decidable (okS wd bx sp) := by unfold okS; exact inferInstance

theorem scheck_eq (wd bx sp : Int) : scan_Check.f wd bx sp = some (if okS wd bx sp then 0 else 1) := by
  unfold scan_Check.f
  by_cases h : okS wd bx sp
  · rw [if_pos h]
    unfold okS at h
    rw [if_neg (by omega), if_neg (by omega), if_neg (by omega), if_neg (by omega), if_neg (by omega), if_neg (by omega)]
  · rw [if_neg h]
    unfold okS at h
    repeat' split
    all_goals first | rfl | omega

theorem smoment_eq (wd bx sp t : Int) : scan_moment.f wd bx sp t = some (if okS wd bx sp ∧ 0 ≤ t ∧ t ≤ 2147483647 then 0 else 1) := by
  unfold scan_moment.f
  rw [scheck_eq]
  simp only [Option.bind_some]
  by_cases h : okS wd bx sp
  · rw [if_pos h, if_pos rfl]
    by_cases h1 : t < 0
    · rw [if_pos h1, if_neg (by omega)]
    · rw [if_neg h1]
      by_cases h2 : t > 2147483647
      · rw [if_pos h2, if_neg (by omega)]
      · rw [if_neg h2, if_pos ⟨h, by omega, by omega⟩]
  · rw [if_neg h, if_neg (by omega), if_neg (fun hh => h hh.1)]

/-- Where the sensor is. -/
def placeZ (wd sp t : Int) : Int := min (t * sp % (2 * (wd - 1))) (2 * (wd - 1) - t * sp % (2 * (wd - 1)))

theorem place_bounds (wd sp t : Int) (hw : 2 ≤ wd) : 0 ≤ placeZ wd sp t ∧ placeZ wd sp t ≤ wd - 1 := by
  unfold placeZ
  have h1 := Int.emod_nonneg (t * sp) (show 2 * (wd - 1) ≠ 0 by omega)
  have h2 := Int.emod_lt_of_pos (t * sp) (show 0 < 2 * (wd - 1) by omega)
  omega

theorem tsp_bounds (sp t : Int) (h1 : 1 ≤ sp) (h2 : sp ≤ 12000) (h3 : 0 ≤ t) (h4 : t ≤ 2147483648) : 0 ≤ t * sp ∧ t * sp ≤ 25769803776000 :=
  ⟨Int.mul_nonneg h3 (by omega), Int.le_trans (Int.mul_le_mul_of_nonneg_right h4 (by omega)) (Int.le_trans (Int.mul_le_mul_of_nonneg_left h2 (by omega)) (by omega))⟩

theorem splace_eq (wd bx sp t : Int) (h : okS wd bx sp) (h0 : 0 ≤ t) (h1 : t ≤ 2147483648) : scan_place.f wd bx sp t = some (placeZ wd sp t) := by
  have hs := h
  unfold okS at hs
  have b := tsp_bounds sp t (by omega) (by omega) h0 h1
  have e1 := Int.emod_nonneg (t * sp) (show 2 * (wd - 1) ≠ 0 by omega)
  have e2 := Int.emod_lt_of_pos (t * sp) (show 0 < 2 * (wd - 1) by omega)
  unfold scan_place.f placeZ
  rw [swrap (x := wd - 1) (by omega) (by omega), swrap (x := 2 * (wd - 1)) (by omega) (by omega), if_neg (by omega), swrap (x := t * sp) (by omega) (by omega), Int.tmod_eq_emod_of_nonneg (by omega), swrap (by omega) (by omega)]
  unfold mn
  congr 1
  split <;> omega

/-- The box in which the sensor is. -/
def boxZ (wd bx sp t : Int) : Int := placeZ wd sp t * bx / wd

theorem box_bounds (wd bx sp t : Int) (h : okS wd bx sp) : 0 ≤ boxZ wd bx sp t ∧ boxZ wd bx sp t < bx ∧ boxZ wd bx sp t * wd ≤ placeZ wd sp t * bx ∧ placeZ wd sp t * bx < (boxZ wd bx sp t + 1) * wd := by
  unfold okS at h
  have p := place_bounds wd sp t (by omega)
  have hp : 0 ≤ placeZ wd sp t * bx := Int.mul_nonneg p.1 (by omega)
  unfold boxZ
  have h1 := Int.ediv_nonneg hp (show 0 ≤ wd by omega)
  have h2 : placeZ wd sp t * bx < wd * bx := Int.mul_lt_mul_of_pos_right (by omega) (by omega)
  have h3 : placeZ wd sp t * bx / wd < bx := Int.ediv_lt_of_lt_mul (by omega) (by rw [Int.mul_comm bx wd]; exact h2)
  have h4 := Int.mul_ediv_add_emod (placeZ wd sp t * bx) wd
  have h5 := Int.emod_nonneg (placeZ wd sp t * bx) (show wd ≠ 0 by omega)
  have h6 := Int.emod_lt_of_pos (placeZ wd sp t * bx) (show 0 < wd by omega)
  generalize placeZ wd sp t * bx / wd = q at *
  generalize placeZ wd sp t * bx = X at *
  have e1 : q * wd = wd * q := Int.mul_comm _ _
  have e2 : (q + 1) * wd = wd * q + wd := by grind
  exact ⟨h1, h3, by omega, by omega⟩

theorem sbox_eq (wd bx sp t : Int) (h : okS wd bx sp) (h0 : 0 ≤ t) (h1 : t ≤ 2147483648) : scan_box.f wd bx sp t = some (boxZ wd bx sp t) := by
  unfold scan_box.f
  rw [splace_eq wd bx sp t h h0 h1]
  have hb := box_bounds wd bx sp t h
  unfold okS at h
  have p := place_bounds wd sp t (by omega)
  have hp : 0 ≤ placeZ wd sp t * bx ∧ placeZ wd sp t * bx ≤ 768000 := ⟨Int.mul_nonneg p.1 (by omega), Int.le_trans (Int.mul_le_mul_of_nonneg_right (show placeZ wd sp t ≤ 12000 by omega) (by omega)) (by omega)⟩
  simp only [Option.bind_some]
  rw [if_neg (by omega), swrap (x := placeZ wd sp t * bx) (by omega) (by omega), Int.tdiv_eq_ediv_of_nonneg (by omega)]
  unfold boxZ at hb ⊢
  rw [swrap (by omega) (by omega)]

/-! ### Profiles -/
/-- One measurement more. -/
def profStep (wd bx sp : Int) (acc : List S23) (m : S52) : List S23 :=
  acc.set (boxZ wd bx sp m.f0).toNat ⟨(rd_T23 acc (boxZ wd bx sp m.f0)).f0 + 1, (rd_T23 acc (boxZ wd bx sp m.f0)).f1 + m.f1⟩

def okM (m : S52) : Prop := 0 ≤ m.f0 ∧ m.f0 ≤ 2147483647 ∧ -1000000 ≤ m.f1 ∧ m.f1 ≤ 1000000
instance (m : S52) : Decidable (okM m) := by unfold okM; exact inferInstance

def profGo (wd bx sp : Int) : List S23 → List S52 → List S23 × Int
  | acc, [] => (acc, 0)
  | acc, m :: ms => if okM m then profGo wd bx sp (profStep wd bx sp acc m) ms else ([], 1)

/-- What Profile answers. -/
def profSpec (wd bx sp : Int) (l : List S52) : List S23 × Int :=
  if ¬ okS wd bx sp then ([], 1) else if 512 < l.length then ([], 8) else profGo wd bx sp (List.replicate bx.toNat ⟨0, 0⟩) l
end Go.Proofs.Ytnkmeocccbkdkaa.P
