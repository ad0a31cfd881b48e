/- The statement DriveRepeats over numbers alone. -/
import Derived.Test.YtfjeekjlhgjckaaPx24
import Derived.Test.YtfjeekjlhgjckaaDriveLen
import Derived.Test.YtfjeekjlhgjckaaDriveAwake
namespace Go.Proofs.Ytfjeekjlhgjckaa.Pure
open Go.RowKit Go.Proofs.Ytfjeekjlhgjckaa.P Go.Proofs.YtfjeekjlhgjckaaW.PrintWords Go.Proofs.YtfjeekjlhgjckaaW.PrintLast
set_option linter.unusedVariables false

theorem speed_far (l : List S42) : ∀ (p : S42) (t s : Int), incr (p :: l) = true → t < p.f0 → speedGo t s (p :: l) = s := by
  induction l with
  | nil => intro p t s _ ht; unfold speedGo; rw [if_neg (by omega)]; rfl
  | cons q r ih =>
    intro p t s hi ht
    rw [incr_two, Bool.and_eq_true] at hi
    have h1 := of_decide_eq_true hi.1
    unfold speedGo
    rw [if_neg (by omega)]
    exact ih q t s hi.2 (by omega)

theorem speed_bounds (l : List S42) : ∀ (t s : Int), (∀ p ∈ l, okE p) → 0 ≤ s → s ≤ 40000 → 0 ≤ speedGo t s l ∧ speedGo t s l ≤ 40000 := by
  induction l with
  | nil => intro t s _ h0 h1; exact ⟨h0, h1⟩
  | cons p a ih =>
    intro t s h h0 h1
    have hp := h p List.mem_cons_self
    unfold okE at hp
    unfold speedGo
    exact ih t _ (fun x hx => h x (List.mem_cons_of_mem _ hx)) (by split <;> omega) (by split <;> omega)

/-- The list with one more pace, ahead of the first that is later. -/
def insG (a s : Int) : List S42 → List S42
  | [] => [⟨a, s⟩]
  | p :: r => if a < p.f0 then ⟨a, s⟩ :: p :: r else p :: insG a s r

theorem ins_late (a s : Int) (p : S42) (r : List S42) (h : a < p.f0) : insG a s (p :: r) = ⟨a, s⟩ :: p :: r := by unfold insG; rw [if_pos h]
theorem ins_early (a s : Int) (p : S42) (r : List S42) (h : ¬ a < p.f0) : insG a s (p :: r) = p :: insG a s r := by rw [insG, if_neg h]
theorem ins_mem (a s : Int) (l : List S42) : ∀ x ∈ insG a s l, x = ⟨a, s⟩ ∨ x ∈ l := by
  induction l with
  | nil => intro x hx; exact .inl (List.mem_singleton.1 hx)
  | cons p r ih =>
    intro x hx
    by_cases c : a < p.f0
    · rw [ins_late _ _ _ _ c] at hx
      rcases List.mem_cons.1 hx with e | h
      · exact .inl e
      · exact .inr h
    · rw [ins_early _ _ _ _ c] at hx
      rcases List.mem_cons.1 hx with e | h
      · exact .inr (e ▸ List.mem_cons_self)
      · rcases ih x h with e | h
        · exact .inl e
        · exact .inr (List.mem_cons_of_mem _ h)
theorem ins_len (a s : Int) (l : List S42) : (insG a s l).length = l.length + 1 := by
  induction l with
  | nil => rfl
  | cons p r ih =>
    by_cases c : a < p.f0
    · rw [ins_late _ _ _ _ c]; rfl
    · rw [ins_early _ _ _ _ c, List.length_cons, ih, List.length_cons]

theorem ins_incr (a s : Int) (r : List S42) : ∀ p : S42, incr (p :: r) = true → p.f0 < a → (∀ x ∈ r, x.f0 ≠ a) → incr (p :: insG a s r) = true := by
  induction r with
  | nil =>
    intro p _ h _
    show incr (p :: [⟨a, s⟩]) = true
    rw [incr_two, decide_eq_true (show p.f0 < (⟨a, s⟩ : S42).f0 from h)]; rfl
  | cons q r ih =>
    intro p hi h hn
    rw [incr_two, Bool.and_eq_true] at hi
    have hq := hn q List.mem_cons_self
    by_cases c : a < q.f0
    · rw [ins_late _ _ _ _ c, incr_two, incr_two, decide_eq_true (show p.f0 < (⟨a, s⟩ : S42).f0 from h), decide_eq_true (show (⟨a, s⟩ : S42).f0 < q.f0 from c), hi.2]; rfl
    · rw [ins_early _ _ _ _ c, incr_two, hi.1, ih q hi.2 (by omega) (fun x hx => hn x (List.mem_cons_of_mem _ hx))]; rfl

theorem term_cut (p : S42) (a e : Int) (h : p.f0 < a) : term p (min e a) + term ⟨a, p.f1⟩ e = term p e := by
  unfold term
  dsimp only
  rw [← Int.add_mul]
  congr 1
  omega

theorem ins_before (a t : Int) (r : List S42) : ∀ (p : S42), incr (p :: r) = true → p.f0 < a → (∀ x ∈ r, x.f0 ≠ a) → beforeZ (p :: insG a (speedGo a p.f1 r) r) t = beforeZ (p :: r) t := by
  induction r with
  | nil => intro p _ h _; exact term_cut p a t h
  | cons q r ih =>
    intro p hi h hn
    have hi2 := hi
    rw [incr_two, Bool.and_eq_true] at hi2
    have h1 := of_decide_eq_true hi2.1
    have hq := hn q List.mem_cons_self
    by_cases c : a < q.f0
    · rw [speed_far r q a p.f1 hi2.2 c, ins_late _ _ _ _ c, before_two, before_two, before_two]
      have := term_cut p a (min t q.f0) h
      rw [show min (min t q.f0) a = min t a by omega] at this
      dsimp only
      omega
    · have e : speedGo a p.f1 (q :: r) = speedGo a q.f1 r := by rw [speedGo, if_pos (by omega)]
      rw [ins_early _ _ _ _ c, e, before_two, before_two, ih q hi2.2 (by omega) (fun x hx => hn x (List.mem_cons_of_mem _ hx))]

theorem ins_top (a t : Int) (l : List S42) (hi : incr l = true) (hn : ∀ x ∈ l, x.f0 ≠ a) : incr (insG a (speedGo a 0 l) l) = true ∧ beforeZ (insG a (speedGo a 0 l) l) t = beforeZ l t := by
  have t0 : ∀ e, term (⟨a, 0⟩ : S42) e = 0 := by intro e; unfold term; exact Int.mul_zero _
  cases l with
  | nil => exact ⟨rfl, t0 t⟩
  | cons p r =>
    have hp := hn p List.mem_cons_self
    by_cases c : a < p.f0
    · rw [speed_far r p a 0 hi c, ins_late _ _ _ _ c]
      refine ⟨by rw [incr_two, decide_eq_true (show (⟨a, 0⟩ : S42).f0 < p.f0 from c), hi]; rfl, ?_⟩
      rw [before_two, t0, Int.zero_add]
    · have e : speedGo a 0 (p :: r) = speedGo a p.f1 r := by rw [speedGo, if_pos (by omega)]
      rw [ins_early _ _ _ _ c, e]
      exact ⟨ins_incr a _ r p hi (by omega) (fun x hx => hn x (List.mem_cons_of_mem _ hx)), ins_before a t r p hi (by omega) (fun x hx => hn x (List.mem_cons_of_mem _ hx))⟩

theorem ins_chk (a : Int) (l : List S42) (hc : chkSpec l = 0) (hl : l.length ≤ 500) (ha : 0 ≤ a ∧ a ≤ 2147483647) (hn : ∀ x ∈ l, x.f0 ≠ a) : chkSpec (insG a (speedGo a 0 l) l) = 0 := by
  obtain ⟨z1, z2, z3⟩ := chk_zero hc
  unfold chkSpec
  rw [ins_len, if_neg (by omega), if_neg, if_pos (ins_top a 0 l z3 hn).1]
  intro hh
  apply hh
  intro x hx
  rcases ins_mem _ _ _ x hx with e | h
  · have := speed_bounds l a 0 z2 (by omega) (by omega)
    rw [e]; exact ⟨ha, this⟩
  · exact z2 x h

theorem ins_lenSpec (a t : Int) (l : List S42) (hc : chkSpec l = 0) (hl : l.length ≤ 500) (ha : 0 ≤ a ∧ a ≤ 2147483647) (hn : ∀ x ∈ l, x.f0 ≠ a) : lenSpec (insG a (speedGo a 0 l) l) t = lenSpec l t := by
  unfold lenSpec
  rw [ins_chk a l hc hl ha hn, hc, (ins_top a t l (chk_zero hc).2.2 hn).2]

theorem rep_loop (l : List S42) (a t : Int) (hc : chkSpec l = 0) (hl : l.length ≤ 500) (ha : 0 ≤ a ∧ a ≤ 2147483647) (k : Nat) (hk : 1500 ≤ k) :
    ∀ (d i : Nat) (x9 : List S42) (b : Bool), i + d = l.length → x9.length ≤ 2 * i + 2 → (∀ x ∈ l.take i, x.f0 ≠ a) → (b = true → x9 ++ l.drop i = insG a (speedGo a 0 l) l) → (b = false → x9 ++ insG a (speedGo a 0 l) (l.drop i) = insG a (speedGo a 0 l) l) →
    papermilllaw29_DriveRepeats.l0 (k + d + 1) l a t (speedGo a 0 l) x9 b i = some true := by
  intro d
  induction d with
  | zero =>
    intro i x9 b hi h9 hn hb1 hb2
    have hil : i = l.length := by omega
    subst hil
    rw [List.take_length] at hn
    unfold papermilllaw29_DriveRepeats.l0
    rw [if_neg (by omega)]
    have hL := ins_lenSpec a t l hc hl ha hn
    cases b with
    | true =>
      have e := hb1 rfl
      rw [List.drop_length, List.append_nil] at e
      rw [if_pos rfl, dLength_eq _ _ _ (by omega), dLength_eq _ _ _ (by omega), awake_ge (by omega), Option.bind_some, Option.bind_some, Option.bind_some, e, hL, if_pos rfl, if_pos rfl]
    | false =>
      have e := hb2 rfl
      rw [List.drop_length] at e
      have e2 : x9 ++ [(⟨a, speedGo a 0 l⟩ : S42)] = insG a (speedGo a 0 l) l := e
      rw [if_neg (by decide), if_pos (by omega), dLength_eq _ _ _ (by omega), dLength_eq _ _ _ (by omega), awake_ge (by omega), Option.bind_some, Option.bind_some, Option.bind_some, e2, hL, if_pos rfl, if_pos rfl]
  | succ d ih =>
    intro i x9 b hi h9 hn hb1 hb2
    have hd := rd_at l i (by omega)
    have ht : l.take (i + 1) = l.take i ++ [rd_T42 l (i : Int)] := by
      have h1 := List.take_append_drop i l
      have h2 : l.take (i + 1) = l.take i ++ (l.drop i).take 1 := by rw [← List.take_add]
      rw [h2, hd]; rfl
    unfold papermilllaw29_DriveRepeats.l0
    rw [if_pos (by omega), if_pos (by omega), dwrap (x := (i : Int) + 1) (by omega) (by omega)]
    generalize rd_T42 l (i : Int) = p at *
    by_cases c : p.f0 = a
    · rw [if_pos c, awake_ge (by omega), Option.bind_some]
    · rw [if_neg c]
      have hn2 : ∀ x ∈ l.take (i + 1), x.f0 ≠ a := by
        intro x hx
        rw [ht] at hx
        rcases List.mem_append.1 hx with h | h
        · exact hn x h
        · rw [List.mem_singleton.1 h]; exact c
      cases b with
      | true =>
        rw [if_pos rfl, if_pos (by omega)]
        refine ih (i + 1) _ true (by omega) (by simp; omega) hn2 (fun _ => ?_) (fun h => by cases h)
        have := hb1 rfl
        rw [hd] at this
        rw [List.append_assoc]; exact this
      | false =>
        rw [if_neg (by decide)]
        have := hb2 rfl
        rw [hd] at this
        by_cases g : p.f0 > a
        · rw [if_pos g, if_pos (by omega), Option.bind_some, if_pos (by simp; omega)]
          refine ih (i + 1) _ true (by omega) (by simp; omega) hn2 (fun _ => ?_) (fun h => by cases h)
          rw [ins_late _ _ _ _ g] at this
          rw [List.append_assoc, List.append_assoc]; exact this
        · rw [if_neg g, if_pos (by omega)]
          refine ih (i + 1) _ false (by omega) (by simp; omega) hn2 (fun h => by cases h) (fun _ => ?_)
          rw [ins_early _ _ _ _ (by omega)] at this
          rw [List.append_assoc]; exact this

theorem DriveRepeats (l0 : List S42) (a1 a2 : Int) (m0 : l0.length ≤ maxLen) (wl0 : ∀ x ∈ l0, (Lit.int .i64 x.f0).wf = true ∧ (Lit.int .i64 x.f1).wf = true) (w1 : (Lit.int .i64 a1).wf = true) (w2 : (Lit.int .i64 a2).wf = true) :
    ∃ k, papermilllaw29_DriveRepeats.f k l0 a1 a2 = some true := by
  refine ⟨1500 + l0.length + 1 + 1, ?_⟩
  generalize hk : (1500 : Nat) = k
  have hk2 : 1500 ≤ k := by omega
  clear hk
  have hj : ∀ b : Bool, (b = true ∨ (l0.length ≤ 500 ∧ chkSpec l0 = 0)) → papermilllaw29_DriveRepeats.j0 (k + l0.length + 1 + 1) l0 a1 a2 b = some true := by
    intro b hb
    unfold papermilllaw29_DriveRepeats.j0; dsimp only
    by_cases cb : b = true
    · rw [if_pos cb, awake_ge (by omega), Option.bind_some]
    · obtain ⟨hl, hc⟩ := hb.resolve_left cb
      rw [if_neg cb, dSpeed_eq _ _ _ (by omega), Option.bind_some]
      by_cases ha : 0 ≤ a1 ∧ a1 ≤ 2147483647
      · have e : speedSpec l0 a1 = (speedGo a1 0 l0, 0) := by unfold speedSpec; rw [if_pos hc, if_pos ha]
        rw [e, if_pos rfl]
        exact rep_loop l0 a1 a2 hc hl ha k hk2 l0.length 0 [] false (by omega) (by simp) (fun x hx => by simp at hx) (fun h => by cases h) (fun _ => rfl)
      · have e : speedSpec l0 a1 = (0, 1) := by unfold speedSpec; rw [if_pos hc, if_neg ha]
        rw [e, if_neg (show ¬ ((1 : Int) = 0) by decide), if_pos rfl, awake_ge (by omega), Option.bind_some]
  unfold papermilllaw29_DriveRepeats.f
  by_cases c : (l0.length : Int) > 500
  · rw [if_pos c]; exact hj true (.inl rfl)
  · rw [if_neg c, dCheck_eq _ _ (by omega), Option.bind_some]
    by_cases d : chkSpec l0 = 0
    · exact hj _ (.inr ⟨by omega, d⟩)
    · exact hj _ (.inl (by simpa using d))
end Go.Proofs.Ytfjeekjlhgjckaa.Pure
