/- The least place below n at which a test says yes (n if there is none): what a search by halving finds for a test that stays true once it is true. No program in sight. -/
namespace Go.Proofs.Ytfjeekjlhgjckaa.First

/-- The least i below n with p i; n if there is none. -/
def first (p : Nat → Bool) : Nat → Nat
  | 0 => 0
  | n + 1 => if first p n < n then first p n else if p n then n else n + 1

theorem first_spec (p : Nat → Bool) (n : Nat) : first p n ≤ n ∧ (∀ t, t < first p n → p t = false) ∧ (first p n < n → p (first p n) = true) := by
  induction n with
  | zero => exact ⟨Nat.le_refl _, fun t h => absurd h (Nat.not_lt_zero _), fun h => absurd h (Nat.not_lt_zero _)⟩
  | succ n ih =>
    obtain ⟨h1, h2, h3⟩ := ih
    unfold first
    by_cases c : first p n < n
    · rw [if_pos c]; exact ⟨by omega, h2, fun _ => h3 c⟩
    · rw [if_neg c]
      have e : first p n = n := by omega
      rw [e] at h2
      cases hp : p n with
      | true => rw [if_pos rfl]; exact ⟨by omega, h2, fun _ => hp⟩
      | false =>
        rw [if_neg (by simp)]
        refine ⟨Nat.le_refl _, fun t ht => ?_, fun h => absurd h (Nat.lt_irrefl _)⟩
        by_cases et : t = n
        · rw [et]; exact hp
        · exact h2 t (by omega)

theorem first_unique (p : Nat → Bool) (n r : Nat) (h1 : r ≤ n) (h2 : ∀ t, t < r → p t = false) (h3 : r < n → p r = true) : first p n = r := by
  obtain ⟨g1, g2, g3⟩ := first_spec p n
  rcases Nat.lt_trichotomy (first p n) r with h | h | h
  · have := h2 _ h; rw [g3 (by omega)] at this; cases this
  · exact h
  · have := g2 _ h; rw [h3 (by omega)] at this; cases this

theorem first_congr {p q : Nat → Bool} {n : Nat} (h : ∀ i, i < n → p i = q i) : first p n = first q n := by
  obtain ⟨g1, g2, g3⟩ := first_spec q n
  exact first_unique p n _ g1 (fun t ht => by rw [h t (by omega)]; exact g2 t ht) (fun hr => by rw [h _ hr]; exact g3 hr)

end Go.Proofs.Ytfjeekjlhgjckaa.First
