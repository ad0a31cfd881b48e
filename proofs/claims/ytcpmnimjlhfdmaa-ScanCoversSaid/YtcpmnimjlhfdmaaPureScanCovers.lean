/- The statement ScanCovers over numbers alone. -/
import Derived.Test.YtcpmnimjlhfdmaaPx14
import Derived.Test.YtcpmnimjlhfdmaaPx7
import Derived.Test.YtcpmnimjlhfdmaaPx13
import Derived.Test.YtcpmnimjlhfdmaaScanProf
import Derived.Test.YtcpmnimjlhfdmaaScanAwake
namespace Go.Proofs.Ytcpmnimjlhfdmaa.Pure
open Go.RowKit Go.Proofs.Ytcpmnimjlhfdmaa.P Go.Proofs.YtcpmnimjlhfdmaaW.PrintWords Go.Proofs.YtcpmnimjlhfdmaaW.PrintLast
set_option linter.unusedVariables false

/-- The boxes that are met in n moments from t on. -/
def markGo (wd bx sp : Int) : Nat → Int → List Bool → List Bool
  | 0, _, x => x
  | n + 1, t, x => markGo wd bx sp n (t + 1) (x.set (boxZ wd bx sp t).toNat true)

/-- Is every box that holds a place met? -/
def chkGo (e : List Int) (x : List Bool) : Nat → Nat → Bool
  | 0, _ => true
  | n + 1, i => if rdOf false x (i : Int) = true ∨ ¬ (rd e (i : Int) < rd e ((i : Int) + 1)) then chkGo e x n (i + 1) else false

theorem markGo_len (wd bx sp : Int) : ∀ (n : Nat) (t : Int) (x : List Bool), (markGo wd bx sp n t x).length = x.length := by
  intro n
  induction n with
  | zero => intro t x; rfl
  | succ n ih => intro t x; unfold markGo; rw [ih, List.length_set]

theorem sCov_l1 (wd bx sp : Int) (h : okS wd bx sp) (x : List Bool) (hx : x.length = bx.toNat) (k : Nat) : ∀ d i : Nat, i + d = bx.toNat → scan_Covered.l1 (k + d + 1) (edgesSpec wd bx) x bx i = some (chkGo (edgesSpec wd bx) x d i, 0) := by
  have hs := h
  unfold okS at hs
  have hlen := edgesSpec_len wd bx
  intro d
  induction d with
  | zero => intro i hi; unfold scan_Covered.l1; rw [if_neg (by omega)]; rfl
  | succ d ih =>
    intro i hi
    unfold scan_Covered.l1 chkGo
    rw [if_pos (by omega), if_pos (by omega), if_pos (by omega), swrap (x := (i : Int) + 1) (by omega) (by omega)]
    by_cases c : rdOf false x (i : Int) = true
    · rw [if_pos c, if_pos (.inl c)]; exact ih (i + 1) (by omega)
    · rw [if_neg c, if_pos (by rw [hlen]; omega), if_pos (by omega), if_pos (by rw [hlen]; omega)]
      by_cases g : rd (edgesSpec wd bx) (i : Int) < rd (edgesSpec wd bx) ((i : Int) + 1)
      · rw [if_pos g, if_neg (fun hh => hh.elim c (fun hn => hn g))]
      · rw [if_neg g, if_pos (.inr g)]; exact ih (i + 1) (by omega)

theorem sCov_l0 (wd bx sp fr tb : Int) (h : okS wd bx sp) (h2 : tb ≤ 2147483648) (k : Nat) : ∀ (d : Nat) (t : Int) (x : List Bool), 0 ≤ t → t + d = tb → x.length = bx.toNat →
    scan_Covered.l0 (k + 1 + bx.toNat + d + 1) (edgesSpec wd bx) x t wd bx sp fr tb = some (chkGo (edgesSpec wd bx) (markGo wd bx sp d t x) bx.toNat 0, 0) := by
  have hs := h
  unfold okS at hs
  intro d
  induction d with
  | zero =>
    intro t x h0 h1 hx
    unfold scan_Covered.l0
    rw [if_neg (by omega), hx, show ((bx.toNat : Nat) : Int) = bx by omega, show k + 1 + bx.toNat = k + bx.toNat + 1 by omega]
    exact sCov_l1 wd bx sp h x hx k bx.toNat 0 (by omega)
  | succ d ih =>
    intro t x h0 h1 hx
    have hb := box_bounds wd bx sp t h
    unfold scan_Covered.l0
    rw [if_pos (by omega), sbox_eq wd bx sp t h h0 (by omega)]
    simp only [Option.bind_some]
    rw [if_pos hb.1, if_pos (by omega), swrap (x := t + 1) (by omega) (by omega)]
    exact ih (t + 1) _ (by omega) (by omega) (by rw [List.length_set]; exact hx)

theorem rCov_l1 (wd bx sp : Int) (h : okS wd bx sp) (x : List Bool) (hx : x.length = bx.toNat) (k : Nat) : ∀ d i : Nat, i + d = bx.toNat → papermillref35_Covered.l1 (k + d + 1) x (edgesSpec wd bx) i wd bx sp = some (chkGo (edgesSpec wd bx) x d i, 0) := by
  have hs := h
  unfold okS at hs
  have hlen := edgesSpec_len wd bx
  intro d
  induction d with
  | zero => intro i hi; unfold papermillref35_Covered.l1; rw [if_neg (by omega)]; rfl
  | succ d ih =>
    intro i hi
    unfold papermillref35_Covered.l1 chkGo
    rw [if_pos (by omega), if_pos (by omega), if_pos (by rw [hlen]; omega), swrap (x := (i : Int) + 1) (by omega) (by omega), if_pos (by omega), if_pos (by rw [hlen]; omega)]
    by_cases g : rd (edgesSpec wd bx) (i : Int) < rd (edgesSpec wd bx) ((i : Int) + 1)
    · rw [if_pos g, if_pos (by omega)]
      by_cases c : rdOf false x (i : Int) = true
      · rw [if_pos c, if_pos (.inl c)]; exact ih (i + 1) (by omega)
      · rw [if_neg c, if_neg (fun hh => hh.elim c (fun hn => hn g))]
    · rw [if_neg g, if_pos (.inr g)]; exact ih (i + 1) (by omega)

theorem rCov_l0 (wd bx sp fr tb : Int) (h : okS wd bx sp) (h2 : tb ≤ 2147483648) (k : Nat) (hk : 100 ≤ k) : ∀ (d : Nat) (t : Int) (x : List Bool), 0 ≤ t → t + d = tb → x.length = bx.toNat →
    papermillref35_Covered.l0 (k + 1 + bx.toNat + d + 1) x t wd bx sp fr tb = some (chkGo (edgesSpec wd bx) (markGo wd bx sp d t x) bx.toNat 0, 0) := by
  have hs := h
  unfold okS at hs
  intro d
  induction d with
  | zero =>
    intro t x h0 h1 hx
    unfold papermillref35_Covered.l0
    rw [if_neg (by omega), refEdges_eq _ _ _ _ (by omega), if_pos h, show k + 1 + bx.toNat = k + bx.toNat + 1 by omega]
    exact rCov_l1 wd bx sp h x hx k bx.toNat 0 (by omega)
  | succ d ih =>
    intro t x h0 h1 hx
    have hb := box_bounds wd bx sp t h
    unfold papermillref35_Covered.l0
    rw [if_pos (by omega), rplace_eq wd bx sp t h h0 (by omega)]
    simp only [Option.bind_some]
    rw [if_neg (by omega), boxw wd bx sp t h, if_pos hb.1, if_pos (by omega), swrap (x := t + 1) (by omega) (by omega)]
    exact ih (t + 1) _ (by omega) (by omega) (by rw [List.length_set]; exact hx)

def covSpec (wd bx sp fr tb : Int) : Bool × Int :=
  if ¬ okS wd bx sp ∨ fr < 0 ∨ tb < fr ∨ 2147483648 < tb then (false, 1) else if 65536 < tb - fr then (false, 32) else
    (chkGo (edgesSpec wd bx) (markGo wd bx sp (tb - fr).toNat fr (List.replicate bx.toNat false)) bx.toNat 0, 0)

theorem sCovered_eq (wd bx sp fr tb : Int) (k : Nat) : scan_Covered.f (k + 1 + bx.toNat + (tb - fr).toNat + 1 + 1) wd bx sp fr tb = some (covSpec wd bx sp fr tb) := by
  unfold scan_Covered.f scan_Edges.f covSpec
  simp only [Option.bind_some]
  by_cases h : okS wd bx sp
  · have hs := h
    unfold okS at hs
    have hj : ∀ b : Bool, (b = true ↔ (fr < 0 ∨ tb < fr ∨ 2147483648 < tb)) → scan_Covered.j0 (k + 1 + bx.toNat + (tb - fr).toNat + 1 + 1) (edgesSpec wd bx) b wd bx sp fr tb = some (if ¬ okS wd bx sp ∨ fr < 0 ∨ tb < fr ∨ 2147483648 < tb then (false, 1) else if 65536 < tb - fr then (false, 32) else
    (chkGo (edgesSpec wd bx) (markGo wd bx sp (tb - fr).toNat fr (List.replicate bx.toNat false)) bx.toNat 0, 0)) := by
      intro b hb
      unfold scan_Covered.j0; dsimp only
      by_cases c : fr < 0 ∨ tb < fr ∨ 2147483648 < tb
      · rw [if_pos (hb.2 c), if_pos (.inr c)]
      · rw [if_neg (fun hh => c (hb.1 hh)), if_neg (show ¬ (¬ okS wd bx sp ∨ fr < 0 ∨ tb < fr ∨ 2147483648 < tb) from fun hh => hh.elim (fun hn => hn h) c), swrap (x := tb - fr) (by omega) (by omega)]
        by_cases e : 65536 < tb - fr
        · rw [if_pos e, if_pos e]
        · rw [if_neg e, if_neg e, if_pos (by omega), if_pos (by omega)]
          exact sCov_l0 wd bx sp fr tb h (by omega) k _ _ _ (by omega) (by omega) List.length_replicate
    simp only [if_pos h, if_true]
    by_cases c1 : fr < 0
    · rw [if_pos c1]; exact hj true (by constructor <;> intro _ <;> first | rfl | exact .inl c1)
    · rw [if_neg c1]
      by_cases c2 : fr > tb
      · rw [if_pos c2]; exact hj true (by constructor <;> intro _ <;> first | rfl | exact .inr (.inl c2))
      · rw [if_neg c2]; exact hj _ (by rw [decide_eq_true_iff]; omega)
  · simp only [if_neg h]
    rw [if_neg (by decide), if_pos (.inl h)]

theorem rCovered_eq (wd bx sp fr tb : Int) (k : Nat) (hk : 100 ≤ k) : papermillref35_Covered.f (k + 1 + bx.toNat + (tb - fr).toNat + 1 + 1) wd bx sp fr tb = some (covSpec wd bx sp fr tb) := by
  unfold papermillref35_Covered.f covSpec
  rw [rcheck_eq]
  simp only [Option.bind_some]
  by_cases h : okS wd bx sp
  · have hs := h
    unfold okS at hs
    have hj : ∀ b : Bool, (b = true ↔ (fr < 0 ∨ tb < fr ∨ 2147483648 < tb)) → papermillref35_Covered.j0 (k + 1 + bx.toNat + (tb - fr).toNat + 1 + 1) b wd bx sp fr tb = some (if ¬ okS wd bx sp ∨ fr < 0 ∨ tb < fr ∨ 2147483648 < tb then (false, 1) else if 65536 < tb - fr then (false, 32) else
    (chkGo (edgesSpec wd bx) (markGo wd bx sp (tb - fr).toNat fr (List.replicate bx.toNat false)) bx.toNat 0, 0)) := by
      intro b hb
      unfold papermillref35_Covered.j0; dsimp only
      by_cases c : fr < 0 ∨ tb < fr ∨ 2147483648 < tb
      · rw [if_pos (hb.2 c), if_pos (.inr c)]
      · rw [if_neg (fun hh => c (hb.1 hh)), if_neg (show ¬ (¬ okS wd bx sp ∨ fr < 0 ∨ tb < fr ∨ 2147483648 < tb) from fun hh => hh.elim (fun hn => hn h) c), swrap (x := tb - fr) (by omega) (by omega)]
        by_cases e : 65536 < tb - fr
        · rw [if_pos e, if_pos e]
        · rw [if_neg e, if_neg e, if_pos (by omega), if_pos (by omega)]
          exact rCov_l0 wd bx sp fr tb h (by omega) k hk _ _ _ (by omega) (by omega) List.length_replicate
    simp only [if_pos h, if_true]
    by_cases c1 : fr < 0
    · rw [if_pos c1]; exact hj true (by constructor <;> intro _ <;> first | rfl | exact .inl c1)
    · rw [if_neg c1]
      by_cases c2 : fr > tb
      · rw [if_pos c2]; exact hj true (by constructor <;> intro _ <;> first | rfl | exact .inr (.inl c2))
      · rw [if_neg c2]; exact hj _ (by rw [decide_eq_true_iff]; omega)
  · simp only [if_neg h]
    rw [if_neg (by decide), if_pos (.inl h)]

theorem ScanCovers (a0_0 a0_1 a0_2 a1_0 a1_1 : Int) (w0 : (Lit.int .i64 a0_0).wf = true) (w1 : (Lit.int .i64 a0_1).wf = true) (w2 : (Lit.int .i64 a0_2).wf = true) (w3 : (Lit.int .i64 a1_0).wf = true) (w4 : (Lit.int .i64 a1_1).wf = true) :
    ∃ k, papermilllaw35_ScanCovers.f k a0_0 a0_1 a0_2 a1_0 a1_1 = some true := by
  refine ⟨100 + 1 + a0_1.toNat + (a1_1 - a1_0).toNat + 1 + 1 + 1, ?_⟩
  have hj : ∀ b : Bool, papermilllaw35_ScanCovers.j0 (100 + 1 + a0_1.toNat + (a1_1 - a1_0).toNat + 1 + 1 + 1) b a0_0 a0_1 a0_2 a1_0 a1_1 = some true := by
    intro b
    unfold papermilllaw35_ScanCovers.j0; dsimp only
    by_cases c : b = true
    · rw [if_pos c, awake_ge (by omega)]; rfl
    · rw [if_neg c, sCovered_eq, rCovered_eq _ _ _ _ _ _ (by omega)]
      simp only [Option.bind_some, beq_self_eq_true, if_true]
      rw [awake_ge (by omega)]; rfl
  unfold papermilllaw35_ScanCovers.f
  split
  · split
    · split <;> exact hj _
    · exact hj _
  · exact hj _
end Go.Proofs.Ytcpmnimjlhfdmaa.Pure
