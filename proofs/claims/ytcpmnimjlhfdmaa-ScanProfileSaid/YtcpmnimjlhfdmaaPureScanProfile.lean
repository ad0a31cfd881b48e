/- The statement ScanProfile over numbers alone. -/
import Derived.Test.YtcpmnimjlhfdmaaPx15
import Derived.Test.YtcpmnimjlhfdmaaScanProf
import Derived.Test.YtcpmnimjlhfdmaaScanAwake
namespace Go.Proofs.Ytcpmnimjlhfdmaa.Pure
open Go.RowKit Go.Proofs.Ytcpmnimjlhfdmaa.P Go.Proofs.YtcpmnimjlhfdmaaW.PrintWords Go.Proofs.YtcpmnimjlhfdmaaW.PrintLast
set_option linter.unusedVariables false

def sumTo (f : Int → Int) : Nat → Int
  | 0 => 0
  | n + 1 => sumTo f n + f n

theorem sumTo_add (f g : Int → Int) (n : Nat) : sumTo (fun i => f i + g i) n = sumTo f n + sumTo g n := by
  induction n with
  | zero => rfl
  | succ n ih => unfold sumTo; rw [ih]; omega

theorem sumTo_zero (n : Nat) : sumTo (fun _ => 0) n = 0 := by
  induction n with
  | zero => rfl
  | succ n ih => unfold sumTo; rw [ih]; rfl

theorem sumTo_one (c v : Int) (n : Nat) (h0 : 0 ≤ c) : sumTo (fun j => if c = j then v else 0) n = if c < n then v else 0 := by
  induction n with
  | zero => rw [if_neg (by omega)]; rfl
  | succ n ih =>
    unfold sumTo; rw [ih]
    by_cases h : c = (n : Int)
    · rw [if_pos h, if_neg (by omega), if_pos (by omega)]; omega
    · rw [if_neg h]
      by_cases h2 : c < (n : Int)
      · rw [if_pos h2, if_pos (by omega)]; omega
      · rw [if_neg h2, if_neg (by omega)]; rfl

theorem sumTo_congr (f g : Int → Int) (n : Nat) (h : ∀ i : Nat, i < n → f i = g i) : sumTo f n = sumTo g n := by
  induction n with
  | zero => rfl
  | succ n ih => unfold sumTo; rw [ih (fun i hi => h i (by omega)), h n (by omega)]

def tot : List S49 → Int
  | [] => 0
  | m :: ms => m.f1 + tot ms

theorem tot_bounds (l : List S49) (h : ∀ m ∈ l, okM m) : -(1000000 * (l.length : Int)) ≤ tot l ∧ tot l ≤ 1000000 * (l.length : Int) := by
  induction l with
  | nil => simp [tot]
  | cons x a ih =>
    have h1 := h x List.mem_cons_self
    have h2 := ih (fun m hm => h m (List.mem_cons_of_mem _ hm))
    unfold okM at h1
    rw [show tot (x :: a) = x.f1 + tot a from rfl, List.length_cons]; omega

theorem cnt_total (wd bx sp : Int) (h : okS wd bx sp) (l : List S49) : sumTo (fun j => cnt wd bx sp j l) bx.toNat = l.length := by
  have hs := h
  unfold okS at hs
  induction l with
  | nil => exact sumTo_zero _
  | cons x a ih =>
    have hb := box_bounds wd bx sp x.f0 h
    rw [sumTo_congr _ (fun j => (if boxZ wd bx sp x.f0 = j then 1 else 0) + cnt wd bx sp j a) _ (fun i hi => rfl), sumTo_add, ih, sumTo_one _ _ _ hb.1, if_pos (by omega), List.length_cons]
    omega

theorem sm_total (wd bx sp : Int) (h : okS wd bx sp) (l : List S49) : sumTo (fun j => sm wd bx sp j l) bx.toNat = tot l := by
  have hs := h
  unfold okS at hs
  induction l with
  | nil => exact sumTo_zero _
  | cons x a ih =>
    have hb := box_bounds wd bx sp x.f0 h
    rw [sumTo_congr _ (fun j => (if boxZ wd bx sp x.f0 = j then x.f1 else 0) + sm wd bx sp j a) _ (fun i hi => rfl), sumTo_add, ih, sumTo_one _ _ _ hb.1, if_pos (by omega)]
    rfl

theorem sumTo_bounds (f : Int → Int) (b : Int) (hb : 0 ≤ b) (hf : ∀ i : Nat, -b ≤ f i ∧ f i ≤ b) (n : Nat) (hn : n ≤ 64) : -(64 * b) ≤ sumTo f n ∧ sumTo f n ≤ 64 * b := by
  have key : ∀ n : Nat, -((n : Int) * b) ≤ sumTo f n ∧ sumTo f n ≤ (n : Int) * b := by
    intro n
    induction n with
    | zero => simp [sumTo]
    | succ n ih =>
      have h := hf n
      have e : ((n + 1 : Nat) : Int) * b = (n : Int) * b + b := by rw [show ((n + 1 : Nat) : Int) = (n : Int) + 1 by omega, Int.add_mul, Int.one_mul]
      unfold sumTo; rw [e]; omega
  have h1 := key n
  have h2 : (n : Int) * b ≤ 64 * b := Int.mul_le_mul_of_nonneg_right (by omega) hb
  omega

/-- The rest of the law, behind the sums. -/
theorem profile_rest (wd bx sp a2 : Int) (l : List S49) (h : okS wd bx sp) (hl : l.length ≤ 512) (hok : ∀ m ∈ l, okM m) (x9 : Int) (h9 : x9 = l.length) (k : Nat) (hk : 40 ≤ k) :
    papermilllaw35_ScanProfile.j3 (k + 1) l a2 x9 0 ((l.length : Int) == 0) wd bx sp = some true := by
  unfold papermilllaw35_ScanProfile.j3; dsimp only
  by_cases c : l.length = 0
  · rw [if_pos (by simp [c]), if_pos (by omega), if_pos (by omega), if_pos rfl, awake_ge hk]; rfl
  · have hn : 0 < (l.length : Int) := by omega
    have t1 : -(l.length : Int) < Int.tmod a2 l.length ∧ Int.tmod a2 l.length < l.length := by
      have h1 := Int.tmod_lt_of_pos a2 hn
      have h2 : -(l.length : Int) < Int.tmod a2 l.length := by
        by_cases ha : 0 ≤ a2
        · have := Int.tmod_nonneg (l.length : Int) ha; omega
        · have h3 := Int.tmod_lt_of_pos (-a2) hn
          rw [Int.neg_tmod] at h3; omega
      exact ⟨h2, h1⟩
    rw [if_neg (by simp [c]), if_neg (by omega), swrap (x := Int.tmod a2 l.length + l.length) (by omega) (by omega), Int.tmod_eq_emod_of_nonneg (show 0 ≤ Int.tmod a2 l.length + l.length by omega)]
    have r0 := Int.emod_nonneg (Int.tmod a2 l.length + l.length) (show (l.length : Int) ≠ 0 by omega)
    have r1 := Int.emod_lt_of_pos (Int.tmod a2 l.length + l.length) hn
    obtain ⟨r, hr⟩ := Int.eq_ofNat_of_zero_le r0
    rw [hr] at r1 ⊢
    have hrl : r < l.length := by omega
    rw [if_pos (by omega), swrap (x := (r : Int) + 1) (by omega) (by omega), if_pos (by omega), if_pos (by omega)]
    have e1 : (l.take ((r : Int) + 1).toNat).drop (r : Int).toNat = [rd_T49 l (r : Int)] := by
      rw [show ((r : Int) + 1).toNat = r + 1 by omega, Int.toNat_natCast, List.drop_take, show r + 1 - r = 1 by omega, meas_at l r hrl]; rfl
    rw [e1]
    have hm : okM (rd_T49 l (r : Int)) := hok _ (by
      have := meas_at l r hrl
      exact List.mem_of_mem_drop (show rd_T49 l (r : Int) ∈ l.drop r by rw [this]; exact List.mem_cons_self))
    generalize rd_T49 l (r : Int) = m at hm ⊢
    unfold scan_Profile.f
    have hm' := hm
    unfold okM at hm'
    simp only [Option.bind_some]
    rw [if_pos (by omega), sBox_eq, if_pos ⟨h, hm'.1, hm'.2.1⟩]
    simp only [Option.bind_some]
    have hb := box_bounds wd bx sp m.f0 h
    have hs := h
    unfold okS at hs
    rcases prof_cases wd bx sp [m] with g | g
    · exfalso
      rcases g.1 with g | g | g
      · exact g h
      · simp at g
      · exact g (fun x hx => by rw [List.mem_singleton.1 hx]; exact hm)
    · obtain ⟨j, hj⟩ := Int.eq_ofNat_of_zero_le hb.1
      have ej := g.2.2.2.2.2 j (by omega)
      have hlen := g.2.2.2.2.1
      rw [if_pos g.2.2.2.1, if_pos trivial, if_pos (by rw [hlen]; omega), hj, if_neg (by omega), if_neg (by rw [hlen]; omega), if_pos (by omega), if_pos (by rw [hlen]; omega), ej]
      have c1 : cnt wd bx sp (j : Int) [m] = 1 := by unfold cnt; rw [if_pos hj]; rfl
      have c2 : sm wd bx sp (j : Int) [m] = m.f1 := by unfold sm; rw [if_pos hj]; unfold sm; omega
      rw [c1, c2, if_pos (by simp), awake_ge hk]; rfl

theorem profile_l1 (wd bx sp a2 : Int) (l : List S49) (h : okS wd bx sp) (hl : l.length ≤ 512) (hok : ∀ m ∈ l, okM m) (x9 : Int) (h9 : x9 = l.length) (k : Nat) (hk : 40 ≤ k) :
    ∀ d i : Nat, i + d = l.length → papermilllaw35_ScanProfile.l1 (k + 1 + d + 1) l a2 x9 (tot (l.drop i)) i wd bx sp = some true := by
  intro d
  induction d with
  | zero =>
    intro i hi
    obtain rfl : i = l.length := by omega
    unfold papermilllaw35_ScanProfile.l1
    rw [if_neg (by omega), if_pos h9, List.drop_length, if_pos (show tot [] = 0 from rfl)]
    exact profile_rest wd bx sp a2 l h hl hok x9 h9 k hk
  | succ d ih =>
    intro i hi
    unfold papermilllaw35_ScanProfile.l1
    have hd := meas_at l i (by omega)
    have tb := tot_bounds (l.drop (i + 1)) (fun m hm => hok m (List.mem_of_mem_drop hm))
    have hl2 : (l.drop (i + 1)).length ≤ 512 := by rw [List.length_drop]; omega
    have e : tot (l.drop i) - (rd_T49 l (i : Int)).f1 = tot (l.drop (i + 1)) := by
      rw [hd]; show (rd_T49 l (i : Int)).f1 + tot (l.drop (i + 1)) - _ = _; omega
    rw [if_pos (by omega), if_pos (by omega), e, swrap (x := tot (l.drop (i + 1))) (by omega) (by omega), swrap (x := (i : Int) + 1) (by omega) (by omega)]
    exact ih (i + 1) (by omega)

theorem profile_l0 (wd bx sp a2 : Int) (l : List S49) (h : okS wd bx sp) (hl : l.length ≤ 512) (hok : ∀ m ∈ l, okM m) (x7 : List S47) (h7 : x7.length = bx.toNat)
    (hg : ∀ i : Nat, i < bx.toNat → rd_T47 x7 (i : Int) = ⟨cnt wd bx sp i l, sm wd bx sp i l⟩) (k : Nat) (hk : 40 ≤ k) :
    ∀ d i : Nat, i + d = bx.toNat → papermilllaw35_ScanProfile.l0 (k + 1 + l.length + 1 + d + 1) l a2 x7 (sumTo (fun j => cnt wd bx sp j l) i) (sumTo (fun j => sm wd bx sp j l) i) i wd bx sp = some true := by
  have hs := h
  unfold okS at hs
  intro d
  induction d with
  | zero =>
    intro i hi
    obtain rfl : i = bx.toNat := by omega
    unfold papermilllaw35_ScanProfile.l0
    rw [if_neg (by omega), cnt_total wd bx sp h, sm_total wd bx sp h]
    exact profile_l1 wd bx sp a2 l h hl hok _ rfl k hk l.length 0 (by omega)
  | succ d ih =>
    intro i hi
    unfold papermilllaw35_ScanProfile.l0
    have c1 := sumTo_bounds (fun j => cnt wd bx sp j l) 512 (by omega) (fun i => by have := cnt_bounds wd bx sp i l; omega) i (by omega)
    have c2 := sumTo_bounds (fun j => sm wd bx sp j l) 512000000 (by omega) (fun i => by have := sm_bounds wd bx sp i l hok; omega) i (by omega)
    have c3 := cnt_bounds wd bx sp i l
    have c4 := sm_bounds wd bx sp i l hok
    rw [if_pos (by omega), if_pos (by omega), hg i (by omega)]
    dsimp only
    rw [swrap (x := sumTo (fun j => cnt wd bx sp j l) i + cnt wd bx sp i l) (by omega) (by omega), swrap (x := sumTo (fun j => sm wd bx sp j l) i + sm wd bx sp i l) (by omega) (by omega), swrap (x := (i : Int) + 1) (by omega) (by omega)]
    exact ih (i + 1) (by omega)

theorem ScanProfile (a0_0 a0_1 a0_2 : Int) (l1 : List S49) (a2 : Int) (w0 : (Lit.int .i64 a0_0).wf = true) (w1 : (Lit.int .i64 a0_1).wf = true) (w2 : (Lit.int .i64 a0_2).wf = true) (m1 : l1.length ≤ maxLen) (wl1 : ∀ x ∈ l1, (Lit.int .i64 x.f0).wf = true ∧ (Lit.int .i64 x.f1).wf = true) (w3 : (Lit.int .i64 a2).wf = true) :
    ∃ k, papermilllaw35_ScanProfile.f k a0_0 a0_1 a0_2 l1 a2 = some true := by
  by_cases c : (l1.length : Int) > 600
  · refine ⟨40, ?_⟩
    unfold papermilllaw35_ScanProfile.f
    rw [if_pos c, awake_40]; rfl
  · refine ⟨40 + 1 + l1.length + 1 + a0_1.toNat + 1 + 1, ?_⟩
    unfold papermilllaw35_ScanProfile.f
    rw [if_neg c]
    unfold scan_Profile.f
    simp only [Option.bind_some]
    rcases prof_cases a0_0 a0_1 a0_2 l1 with g | g
    · rw [if_neg g.2.2, g.2.1, if_pos (show (([] : List S47).length : Int) = 0 from rfl), awake_ge (by omega)]; rfl
    · obtain ⟨h, hl, hok, e0, hlen, hg⟩ := g
      have hs := h
      unfold okS at hs
      rw [if_pos e0, if_pos (by rw [hlen]; omega), rcheck_eq, if_pos h]
      simp only [Option.bind_some]
      unfold papermilllaw35_ScanProfile.j0; dsimp only
      rw [if_neg (by decide)]
      exact profile_l0 a0_0 a0_1 a0_2 a2 l1 h hl hok _ hlen hg 40 (Nat.le_refl _) a0_1.toNat 0 (by omega)
end Go.Proofs.Ytcpmnimjlhfdmaa.Pure
