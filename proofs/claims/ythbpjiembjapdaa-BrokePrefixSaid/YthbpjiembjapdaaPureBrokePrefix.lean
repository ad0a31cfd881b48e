/- The statement BrokePrefix over numbers alone: the first movements of a valid account are a valid account, and the sums agree. -/
import Derived.Test.YthbpjiembjapdaaPx15
import Derived.Test.YthbpjiembjapdaaPx14
import Derived.Test.YthbpjiembjapdaaBrokeLevel
import Derived.Test.YthbpjiembjapdaaHandSums
namespace Go.Proofs.Ythbpjiembjapdaa.Pure
open Go.RowKit Go.Proofs.Ythbpjiembjapdaa.P Go.Proofs.YthbpjiembjapdaaW.PrintWords Go.Proofs.YthbpjiembjapdaaW.PrintLast
set_option linter.unusedVariables false

theorem chk2_take (cap : Int) (l : List S32) : ∀ (n : Nat) (lv pr : Int), chk2 cap lv pr l = 0 → chk2 cap lv pr (l.take n) = 0 := by
  induction l with
  | nil => intro n lv pr h; simpa using h
  | cons x l ih =>
    intro n lv pr h
    cases n with
    | zero => rfl
    | succ n =>
      rw [List.take_succ_cons]
      unfold chk2 at h ⊢
      split at h
      · omega
      · rw [if_neg (by assumption)]
        split at h
        · omega
        · rw [if_neg (by assumption)]
          split at h
          · omega
          · rw [if_neg (by assumption)]
            exact ih n _ _ h

theorem chk_take (l : List S32) (cap : Int) (n : Nat) (h : chk l cap = 0) : chk (l.take n) cap = 0 := by
  obtain ⟨h0, h1, h2, h3, h4⟩ := chk_zero l cap h
  unfold chk
  have e : firstErr (l.take n) = 0 := (firstErr_zero _).2 fun x hx => h3 x (List.mem_of_mem_take hx)
  rw [if_neg (by omega), if_neg (by rw [List.length_take]; omega), if_pos e]
  exact chk2_take cap l n 0 0 h4

theorem ints_l0 (s : List Int) (hs : s.length = 7) (d : Nat) : ∀ (k i : Nat), 7 - i = d → i ≤ 7 → d < k → papermilllaw22_ints.l0 k s s 7 i = some true := by
  induction d with
  | zero =>
    intro k i hd hi hk
    obtain ⟨k, rfl⟩ : ∃ m, k = m + 1 := ⟨k - 1, by omega⟩
    simp only [papermilllaw22_ints.l0]
    rw [if_neg (by omega)]
  | succ d ih =>
    intro k i hd hi hk
    obtain ⟨k, rfl⟩ : ∃ m, k = m + 1 := ⟨k - 1, by omega⟩
    simp only [papermilllaw22_ints.l0]
    rw [if_pos (by omega), if_pos (by omega), if_pos (by omega), if_pos (by omega), if_pos trivial, w64 (by omega) (by omega)]
    have := ih k (i + 1) (by omega) (by omega) (by omega)
    rwa [show ((i + 1 : Nat) : Int) = (i : Int) + 1 from by omega] at this

theorem ints_eq (s : List Int) (hs : s.length = 7) (k : Nat) (hk : 10 ≤ k) : papermilllaw22_ints.f k s s = some true := by
  unfold papermilllaw22_ints.f
  rw [if_pos rfl, hs]
  have := ints_l0 s hs 7 k 0 (by omega) (by omega) (by omega)
  simpa using this

theorem pre_l0 (l : List S32) (hv : ∀ x ∈ l, chk1 x = 0) (hl : l.length ≤ 512) (s : List Int) (hs : s.length = 7) (d : Nat) : ∀ (k i : Nat) (acc : List Int), l.length - i = d → i ≤ l.length → d + 200 ≤ k → Oks i acc → (l.drop i).foldl stepS acc = s →
    papermilllaw22_BrokePrefix.l0 k l s acc i = some true := by
  induction d with
  | zero =>
    intro k i acc hd hi hk ho hf
    obtain ⟨k, rfl⟩ : ∃ m, k = m + 1 := ⟨k - 1, by omega⟩
    rw [List.drop_of_length_le (by omega)] at hf
    simp only [List.foldl_nil] at hf
    subst hf
    simp only [papermilllaw22_BrokePrefix.l0]
    rw [if_neg (by omega), ints_eq _ hs _ (by omega), broke_awake _ (by omega)]
    rfl
  | succ d ih =>
    intro k i acc hd hi hk ho hf
    obtain ⟨k, rfl⟩ : ∃ m, k = m + 1 := ⟨k - 1, by omega⟩
    have hlt : i < l.length := by omega
    have hx := hv _ (List.getElem_mem hlt)
    have hb := (chk1_zero _).1 hx
    have hj := ho.2 (l[i].f1 - 1).toNat
    have h7 := ho.1
    simp only [papermilllaw22_BrokePrefix.l0]
    have er : rd acc (l[i].f1 - 1) = acc.getD (l[i].f1 - 1).toNat 0 := rfl
    rw [if_pos (by omega), if_pos (by omega), rdT_get l i hlt, if_neg (by omega), if_neg (by omega), w64 (x := l[i].f1 - 1) (by omega) (by omega), if_pos (by omega), if_pos (by omega), er, w64 (x := acc.getD (l[i].f1 - 1).toNat 0 + l[i].f2) (by omega) (by omega), w64 (x := (i : Int) + 1) (by omega) (by omega)]
    rw [List.drop_eq_getElem_cons hlt, List.foldl_cons] at hf
    have := ih k (i + 1) (stepS acc l[i]) (by omega) (by omega) (by omega) (oks_step ho hx) hf
    rwa [show ((i + 1 : Nat) : Int) = (i : Int) + 1 from by omega] at this

theorem BrokePrefix (l0 : List S32) (a1 a2 : Int) (m0 : l0.length ≤ maxLen) (wl0 : ∀ x ∈ l0, (Lit.int .i64 x.f0).wf = true ∧ (Lit.int .i64 x.f1).wf = true ∧ (Lit.int .i64 x.f2).wf = true ∧ (Lit.int .i64 x.f3).wf = true) (w1 : (Lit.int .i64 a1).wf = true) (w2 : (Lit.int .i64 a2).wf = true) :
    ∃ k, papermilllaw22_BrokePrefix.f k l0 a1 a2 = some true := by
  refine ⟨4000, ?_⟩
  have triv : papermilllaw22_BrokePrefix.j0 4000 l0 a1 a2 true = some true := by
    simp only [papermilllaw22_BrokePrefix.j0]
    rw [if_pos trivial, broke_awake _ (by omega)]; rfl
  unfold papermilllaw22_BrokePrefix.f
  by_cases c1 : a2 < 0
  · rw [if_pos c1]; exact triv
  · rw [if_neg c1]
    by_cases c2 : a2 > (l0.length : Int)
    · rw [if_pos c2]; exact triv
    · rw [if_neg c2, check_eq _ _ _ (by omega)]
      simp only [Option.bind_some]
      by_cases h : chk l0 a1 = 0
      · obtain ⟨n, rfl⟩ := Int.eq_ofNat_of_zero_le (show 0 ≤ a2 by omega)
        obtain ⟨hc0, hc1, hl, hv, h2⟩ := chk_zero l0 a1 h
        have ht := chk_take l0 a1 n h
        have l7 := sumsF_len l0
        have t7 := sumsF_len (l0.take n)
        rw [h, show ((0 : Int) != 0) = false from rfl]
        simp only [papermilllaw22_BrokePrefix.j0]
        have hS1 : broke_Sums.f l0 a1 = some (sumsF l0, 0) := by unfold broke_Sums.f; rw [if_pos h]
        have hS2 : broke_Sums.f (l0.take n) a1 = some (sumsF (l0.take n), 0) := by unfold broke_Sums.f; rw [if_pos ht]
        rw [if_neg (by simp), hS1]
        simp only [Option.bind_some]
        rw [if_pos (by omega), if_pos (by omega), Int.toNat_natCast, hS2, check_eq _ _ _ (by omega), ht]
        simp only [Option.bind_some, if_true]
        rw [l7, t7, if_pos (by omega), show (((7 : Nat) : Int) != 7) = false from rfl]
        simp only [papermilllaw22_BrokePrefix.j1]
        rw [if_neg (by simp)]
        refine pre_l0 l0 hv hl (sumsF l0) l7 (l0.length - n) 3998 n (sumsF (l0.take n)) rfl (by omega) (by omega) ⟨t7, fun j => ?_⟩ ?_
        · have := sumsF_bound (l0.take n) (fun x hx => hv x (List.mem_of_mem_take hx)) j
          rw [List.length_take] at this
          omega
        · unfold sumsF
          rw [← List.foldl_append, List.take_append_drop]
      · have e : (chk l0 a1 != 0) = true := bne_iff_ne.mpr h
        rw [e]; exact triv
end Go.Proofs.Ythbpjiembjapdaa.Pure
