/- Profiles: what the given reference answers, and what every box holds behind a list of measurements. -/
import Derived.Test.YtcpmnimjlhfdmaaScanRef
import Derived.Test.YtcpmnimjlhfdmaaHandProfile
import Derived.Test.YtcpmnimjlhfdmaaPx11
import Derived.Test.YtcpmnimjlhfdmaaPx6
namespace Go.Proofs.Ytcpmnimjlhfdmaa.P
open Go.RowKit Go.Proofs.YtcpmnimjlhfdmaaW.PrintWords Go.Proofs.YtcpmnimjlhfdmaaW.PrintLast Go.Proofs.YtcpmnimjlhfdmaaW.PrintMore
set_option linter.unusedVariables false

theorem box_eq (a b : S47) (h0 : a.f0 = b.f0) (h1 : a.f1 = b.f1) : a = b := by cases a; cases b; cases h0; cases h1; rfl

theorem rdT_get (xs : List S47) (j : Nat) (h : j < xs.length) : xs[j]? = some (rd_T47 xs (j : Int)) := by
  unfold rd_T47
  rw [Int.toNat_natCast, List.getD_eq_getElem?_getD, List.getElem?_eq_getElem h]; rfl

theorem rdT_set (xs : List S47) (j i : Nat) (y : S47) (h : j < xs.length) : rd_T47 (xs.set j y) (i : Int) = if i = j then y else rd_T47 xs (i : Int) := by
  unfold rd_T47
  rw [Int.toNat_natCast, List.getD_eq_getElem?_getD, List.getElem?_set]
  by_cases c : j = i
  · subst c; rw [if_pos rfl, if_pos h, if_pos rfl]; rfl
  · rw [if_neg c, if_neg (fun hh => c hh.symm), List.getD_eq_getElem?_getD]

theorem boxw (wd bx sp t : Int) (h : okS wd bx sp) : wrap64 (Int.tdiv (wrap64 (placeZ wd sp t * bx)) wd) = boxZ wd bx sp t := by
  have hb := box_bounds wd bx sp t h
  unfold okS at h
  have p := place_bounds wd sp t (by omega)
  have hp : 0 ≤ placeZ wd sp t * bx ∧ placeZ wd sp t * bx ≤ 768000 := ⟨Int.mul_nonneg p.1 (by omega), Int.le_trans (Int.mul_le_mul_of_nonneg_right (show placeZ wd sp t ≤ 12000 by omega) (by omega)) (by omega)⟩
  rw [swrap (x := placeZ wd sp t * bx) (by omega) (by omega), Int.tdiv_eq_ediv_of_nonneg (by omega)]
  unfold boxZ at hb ⊢
  rw [swrap (by omega) (by omega)]

/-- One step, with the box's place as a natural number. -/
theorem step_at (wd bx sp : Int) (acc : List S47) (m : S49) (h : okS wd bx sp) (hl : acc.length = bx.toNat) :
    ∃ j : Nat, j < acc.length ∧ boxZ wd bx sp m.f0 = (j : Int) ∧ profStep wd bx sp acc m = acc.set j ⟨(rd_T47 acc (j : Int)).f0 + 1, (rd_T47 acc (j : Int)).f1 + m.f1⟩ := by
  have hb := box_bounds wd bx sp m.f0 h
  obtain ⟨j, hj⟩ := Int.eq_ofNat_of_zero_le hb.1
  refine ⟨j, by omega, hj, ?_⟩
  unfold profStep
  rw [hj, Int.toNat_natCast]

theorem okb_step (wd bx sp : Int) (B i : Nat) (acc : List S47) (m : S49) (h : okS wd bx sp) (hB : B = bx.toNat) (ho : Okb B i acc) (hm : okM m) : Okb B (i + 1) (profStep wd bx sp acc m) := by
  obtain ⟨j, hj, _, e⟩ := step_at wd bx sp acc m h (by rw [ho.1, hB])
  have hp := ho.2 (rd_T47 acc (j : Int)) (List.mem_of_getElem? (rdT_get acc j hj))
  unfold okM at hm
  rw [e]
  refine ⟨by rw [List.length_set]; exact ho.1, fun q hq => ?_⟩
  rcases List.mem_or_eq_of_mem_set hq with hq | rfl
  · have := ho.2 q hq; omega
  · dsimp only; omega

theorem Okb_zero (B : Nat) : Okb B 0 (List.replicate B z47) := ⟨List.length_replicate, fun p hp => by rw [List.eq_of_mem_replicate hp]; decide⟩

theorem meas_at (l : List S49) (i : Nat) (h : i < l.length) : l.drop i = rd_T49 l (i : Int) :: l.drop (i + 1) := by
  rw [List.drop_eq_getElem_cons h]
  unfold rd_T49
  rw [Int.toNat_natCast, List.getD_eq_getElem?_getD, List.getElem?_eq_getElem h, Option.getD_some]

theorem refProf_loop (wd bx sp : Int) (h : okS wd bx sp) (l : List S49) (hl : l.length ≤ 512) : ∀ (k i : Nat) (acc : List S47), Okb bx.toNat i acc → i ≤ l.length → l.length - i < k → papermillref35_Profile.l0 k l acc i wd bx sp = some (profGo wd bx sp acc (l.drop i)) := by
  intro k
  induction k with
  | zero => intro i acc _ h1 h2; omega
  | succ k ih =>
    intro i acc ho h1 h2
    unfold papermillref35_Profile.l0
    by_cases c : (i : Int) < l.length
    · have hi : i < l.length := by omega
      have hs := h
      unfold okS at hs
      rw [if_pos c, if_pos (by omega), rmoment_eq, meas_at l i hi]
      generalize hm : rd_T49 l (i : Int) = m
      simp only [Option.bind_some]
      unfold profGo
      by_cases c1 : 0 ≤ m.f0 ∧ m.f0 ≤ 2147483647
      · rw [decide_eq_true c1, if_pos rfl]
        by_cases c2 : m.f1 < -1000000
        · rw [if_pos c2, if_neg (by unfold okM; omega)]
        · rw [if_neg c2]
          by_cases c3 : m.f1 > 1000000
          · rw [if_pos c3, if_neg (by unfold okM; omega)]
          · have hok : okM m := ⟨c1.1, c1.2, by omega, by omega⟩
            obtain ⟨j, hj, hbj, hst⟩ := step_at wd bx sp acc m h ho.1
            have hp := ho.2 (rd_T47 acc (j : Int)) (List.mem_of_getElem? (rdT_get acc j hj))
            have ho2 := okb_step wd bx sp bx.toNat i acc m h rfl ho hok
            unfold okM at hok
            rw [if_neg c3, rplace_eq wd bx sp m.f0 h c1.1 (by omega), if_pos (show okM m from hok)]
            simp only [Option.bind_some]
            rw [if_neg (by omega), boxw wd bx sp m.f0 h, hbj, if_pos (by omega), if_pos (by omega), Int.toNat_natCast]
            have e1 : (acc.set j ⟨wrap64 ((rd_T47 acc (j : Int)).f0 + 1), (rd_T47 acc (j : Int)).f1⟩).set j ⟨(rd_T47 (acc.set j ⟨wrap64 ((rd_T47 acc (j : Int)).f0 + 1), (rd_T47 acc (j : Int)).f1⟩) (j : Int)).f0, wrap64 ((rd_T47 (acc.set j ⟨wrap64 ((rd_T47 acc (j : Int)).f0 + 1), (rd_T47 acc (j : Int)).f1⟩) (j : Int)).f1 + m.f1)⟩ = profStep wd bx sp acc m := by
              rw [hst, rdT_set _ _ _ _ hj, if_pos rfl, List.set_set]
              dsimp only
              rw [swrap (x := (rd_T47 acc (j : Int)).f0 + 1) (by omega) (by omega), swrap (x := (rd_T47 acc (j : Int)).f1 + m.f1) (by omega) (by omega)]
            rw [e1, swrap (x := (i : Int) + 1) (by omega) (by omega)]
            exact ih (i + 1) _ ho2 (by omega) (by omega)
      · rw [decide_eq_false c1, if_neg (by decide), if_neg (by unfold okM; omega)]
    · rw [if_neg c]
      obtain rfl : i = l.length := by omega
      rw [List.drop_length]; rfl

theorem refProfile_eq (wd bx sp : Int) (l : List S49) (k : Nat) (hk : 600 ≤ k) (hl : l.length ≤ 600) : papermillref35_Profile.f k wd bx sp l = some (profSpec wd bx sp l) := by
  unfold papermillref35_Profile.f profSpec
  rw [rcheck_eq]
  simp only [Option.bind_some]
  by_cases h : okS wd bx sp
  · have hs := h
    unfold okS at hs
    rw [if_pos h, if_pos rfl, if_neg (show ¬ ¬ okS wd bx sp from fun hh => hh h)]
    by_cases c : 512 < l.length
    · rw [if_pos (by omega), if_pos c]
    · rw [if_neg (by omega), if_neg c, if_pos (by omega), if_pos (by omega)]
      exact refProf_loop wd bx sp h l (by omega) k 0 _ (Okb_zero _) (by omega) (by omega)
  · rw [if_neg h, if_neg (by decide), if_pos h]

theorem same_loop (l : List S47) (hl : l.length ≤ 9223372036854775806) : ∀ (k i : Nat), l.length - i < k → papermillref35_Same.l0 k l l i = some true := by
  intro k
  induction k with
  | zero => intro i h; omega
  | succ k ih =>
    intro i h
    unfold papermillref35_Same.l0
    by_cases c : (i : Int) < l.length
    · rw [if_pos c, if_pos (by omega), if_pos c, if_neg (by simp), swrap (by omega) (by omega)]
      exact ih (i + 1) (by omega)
    · rw [if_neg c]

theorem Same_eq (l : List S47) (hl : l.length ≤ 9223372036854775806) (k : Nat) (hk : l.length < k) : papermillref35_Same.f k l l = some true := by
  unfold papermillref35_Same.f
  rw [if_pos rfl]
  exact same_loop l hl k 0 (by omega)

/-! ### what the boxes hold -/
def cnt (wd bx sp : Int) (j : Int) : List S49 → Int
  | [] => 0
  | m :: ms => (if boxZ wd bx sp m.f0 = j then 1 else 0) + cnt wd bx sp j ms
def sm (wd bx sp : Int) (j : Int) : List S49 → Int
  | [] => 0
  | m :: ms => (if boxZ wd bx sp m.f0 = j then m.f1 else 0) + sm wd bx sp j ms

theorem cnt_cons (wd bx sp j : Int) (m : S49) (ms : List S49) : cnt wd bx sp j (m :: ms) = (if boxZ wd bx sp m.f0 = j then 1 else 0) + cnt wd bx sp j ms := rfl
theorem sm_cons (wd bx sp j : Int) (m : S49) (ms : List S49) : sm wd bx sp j (m :: ms) = (if boxZ wd bx sp m.f0 = j then m.f1 else 0) + sm wd bx sp j ms := rfl
theorem cnt_append (wd bx sp j : Int) (a b : List S49) : cnt wd bx sp j (a ++ b) = cnt wd bx sp j a + cnt wd bx sp j b := by
  induction a with
  | nil => simp [cnt]
  | cons x a ih => rw [List.cons_append, cnt_cons, cnt_cons, ih]; omega
theorem sm_append (wd bx sp j : Int) (a b : List S49) : sm wd bx sp j (a ++ b) = sm wd bx sp j a + sm wd bx sp j b := by
  induction a with
  | nil => simp [sm]
  | cons x a ih => rw [List.cons_append, sm_cons, sm_cons, ih]; omega

theorem cnt_bounds (wd bx sp j : Int) (l : List S49) : 0 ≤ cnt wd bx sp j l ∧ cnt wd bx sp j l ≤ l.length := by
  induction l with
  | nil => simp [cnt]
  | cons x a ih => rw [cnt_cons, List.length_cons]; split <;> omega
theorem sm_bounds (wd bx sp j : Int) (l : List S49) (h : ∀ m ∈ l, okM m) : -(1000000 * (l.length : Int)) ≤ sm wd bx sp j l ∧ sm wd bx sp j l ≤ 1000000 * (l.length : Int) := by
  induction l with
  | nil => simp [sm]
  | cons x a ih =>
    have h1 := h x List.mem_cons_self
    have h2 := ih (fun m hm => h m (List.mem_cons_of_mem _ hm))
    unfold okM at h1
    rw [sm_cons, List.length_cons]; split <;> omega

theorem profGo_all (wd bx sp : Int) (l : List S49) : ∀ acc, (∀ m ∈ l, okM m) → profGo wd bx sp acc l = (l.foldl (profStep wd bx sp) acc, 0) := by
  induction l with
  | nil => intro acc _; rfl
  | cons x a ih =>
    intro acc h
    unfold profGo
    rw [if_pos (h x List.mem_cons_self), ih _ (fun m hm => h m (List.mem_cons_of_mem _ hm))]
    rfl
theorem profGo_bad (wd bx sp : Int) (l : List S49) : ∀ acc, ¬ (∀ m ∈ l, okM m) → profGo wd bx sp acc l = ([], 1) := by
  induction l with
  | nil => intro acc h; exact absurd (fun m hm => by cases hm) h
  | cons x a ih =>
    intro acc h
    unfold profGo
    by_cases c : okM x
    · rw [if_pos c]
      exact ih _ (fun hh => h (fun m hm => (List.mem_cons.1 hm).elim (fun e => e ▸ c) (fun hm => hh m hm)))
    · rw [if_neg c]

theorem fold_get (wd bx sp : Int) (h : okS wd bx sp) (l : List S49) : ∀ acc : List S47, acc.length = bx.toNat →
    (l.foldl (profStep wd bx sp) acc).length = bx.toNat ∧ ∀ i : Nat, i < bx.toNat → (rd_T47 (l.foldl (profStep wd bx sp) acc) (i : Int)).f0 = (rd_T47 acc (i : Int)).f0 + cnt wd bx sp i l ∧ (rd_T47 (l.foldl (profStep wd bx sp) acc) (i : Int)).f1 = (rd_T47 acc (i : Int)).f1 + sm wd bx sp i l := by
  induction l with
  | nil => intro acc ha; exact ⟨ha, fun i hi => ⟨by simp [cnt], by simp [sm]⟩⟩
  | cons x a ih =>
    intro acc ha
    obtain ⟨j, hj, hbj, hst⟩ := step_at wd bx sp acc x h ha
    rw [List.foldl_cons]
    obtain ⟨g1, g2⟩ := ih (profStep wd bx sp acc x) (by rw [hst, List.length_set]; exact ha)
    refine ⟨g1, fun i hi => ?_⟩
    obtain ⟨e0, e1⟩ := g2 i hi
    rw [e0, e1, hst, rdT_set _ _ _ _ hj, cnt_cons, sm_cons, hbj]
    by_cases c : i = j
    · subst c; rw [if_pos rfl, if_pos rfl, if_pos rfl]; exact ⟨by dsimp only; omega, by dsimp only; omega⟩
    · rw [if_neg c, if_neg (by omega), if_neg (by omega)]; exact ⟨by omega, by omega⟩

theorem rdT_zero (B i : Nat) : rd_T47 (List.replicate B ⟨0, 0⟩) (i : Int) = ⟨0, 0⟩ := by
  unfold rd_T47
  rw [Int.toNat_natCast, List.getD_eq_getElem?_getD, List.getElem?_replicate]
  split <;> rfl

/-- What Profile answers: nothing, or the boxes. -/
theorem prof_cases (wd bx sp : Int) (l : List S49) :
    ((¬ okS wd bx sp ∨ 512 < l.length ∨ ¬ (∀ m ∈ l, okM m)) ∧ (profSpec wd bx sp l).1 = [] ∧ (profSpec wd bx sp l).2 ≠ 0) ∨
    (okS wd bx sp ∧ l.length ≤ 512 ∧ (∀ m ∈ l, okM m) ∧ (profSpec wd bx sp l).2 = 0 ∧ (profSpec wd bx sp l).1.length = bx.toNat ∧ ∀ i : Nat, i < bx.toNat → rd_T47 (profSpec wd bx sp l).1 (i : Int) = ⟨cnt wd bx sp i l, sm wd bx sp i l⟩) := by
  unfold profSpec
  by_cases h : okS wd bx sp
  · rw [if_neg (fun hh => hh h)]
    by_cases c : 512 < l.length
    · rw [if_pos c]; exact .inl ⟨.inr (.inl c), rfl, by decide⟩
    · rw [if_neg c]
      by_cases d : ∀ m ∈ l, okM m
      · rw [profGo_all _ _ _ _ _ d]
        obtain ⟨g1, g2⟩ := fold_get wd bx sp h l (List.replicate bx.toNat ⟨0, 0⟩) List.length_replicate
        refine .inr ⟨h, by omega, d, rfl, g1, fun i hi => ?_⟩
        obtain ⟨e0, e1⟩ := g2 i hi
        rw [rdT_zero] at e0 e1
        exact box_eq _ _ (by rw [e0]; dsimp only; omega) (by rw [e1]; dsimp only; omega)
      · rw [profGo_bad _ _ _ _ _ d]; exact .inl ⟨.inr (.inr d), rfl, by decide⟩
  · rw [if_pos h]; exact .inl ⟨.inl h, rfl, by decide⟩
end Go.Proofs.Ytcpmnimjlhfdmaa.P
