/- fixed.digits: the decimal digits, a function that calls itself. -/
import Derived.Test.YtpmopomiadaonaaPx0
import Derived.WalkKit
import Derived.WalkLawsBesides
namespace Go.Proofs.Ytpmopomiadaonaa.P
open Go.RowKit Go.Proofs.YtpmopomiadaonaaW.PrintWords Go.Proofs.YtpmopomiadaonaaW.PrintLast Go.Proofs.YtpmopomiadaonaaW.PrintMore
set_option linter.unusedVariables false
set_option linter.unusedSimpArgs false

/-- One digit. -/
def dig1 (d : Nat) : ByteArray := ⟨#[UInt8.ofNat (48 + d)]⟩

/-- The digits of n, if n is below 10^f. -/
def dig : Nat → Nat → ByteArray
  | 0, _ => ⟨#[]⟩
  | f + 1, n => if n < 10 then dig1 n else dig f (n / 10) ++ dig1 (n % 10)

theorem dig1_size (d : Nat) : (dig1 d).size = 1 := rfl
theorem dig_size (f : Nat) : ∀ n, (dig f n).size ≤ f := by
  induction f with
  | zero => intro n; exact Nat.le_refl _
  | succ f ih =>
    intro n
    by_cases c : n < 10
    · rw [dig, if_pos c, dig1_size]; omega
    · rw [dig, if_neg c, ByteArray.size_append, dig1_size]; have := ih (n / 10); omega

theorem enc_dig (d : Nat) (h : d < 10) : Utf8.encode (48 + (d : Int)) = dig1 d := by
  obtain rfl | rfl | rfl | rfl | rfl | rfl | rfl | rfl | rfl | rfl : d = 0 ∨ d = 1 ∨ d = 2 ∨ d = 3 ∨ d = 4 ∨ d = 5 ∨ d = 6 ∨ d = 7 ∨ d = 8 ∨ d = 9 := by omega
  all_goals rfl

set_option maxHeartbeats 4000000 in
set_option maxRecDepth 100000 in
theorem fixed_digits_walk : ∀ (f n : Nat) (w : World), n < 10 ^ f → n ≤ 1099511627776 → 1 ≤ f → f ≤ 30 →
    Calls Try.prog 32 #[.int .i64 n] w fun e w' => e = .returned (.string (dig f n)) ∧ Drawn0 w w' := by
  intro f
  induction f with
  | zero => intro n w h1 h2 h3 h4; omega
  | succ f ih =>
    intro n w h1 h2 h3 h4
    by_cases c : n < 10
    · have hd : dig (f + 1) n = dig1 n := by unfold dig; rw [if_pos c]
      have he := enc_dig n c
      rw [hd]
      clear ih
      generalize dig1 n = D at *
      have c0 : decide ((n : Int) < 10) = true := decide_eq_true (by omega)
      go_enter Try.func32, Try.ntmps32
      go_wp2
      go_ret
      exact ⟨rfl, ⟨0, rfl⟩⟩
    · have hd : dig (f + 1) n = dig f (n / 10) ++ dig1 (n % 10) := by rw [dig, if_neg c]
      have he := enc_dig (n % 10) (by omega)
      have hf : 1 ≤ f := by
        cases f with
        | zero => simp at h1; omega
        | succ f => omega
      have hi := ih (n / 10) w (by rw [Nat.pow_succ] at h1; omega) (by omega) hf (by omega)
      have hq : Int.tdiv (n : Int) 10 = ((n / 10 : Nat) : Int) := by rw [Int.tdiv_eq_ediv_of_nonneg (by omega)]; omega
      have hr : Int.tmod (n : Int) 10 = ((n % 10 : Nat) : Int) := by rw [Int.tmod_eq_emod_of_nonneg (by omega)]; omega
      have s1 := dig_size f (n / 10)
      have s2 := dig1_size (n % 10)
      rw [hd]
      clear ih hd
      generalize hD : dig1 (n % 10) = D at *
      generalize hE : dig f (n / 10) = E at *
      have c0 : decide ((n : Int) < 10) = false := decide_eq_false (by omega)
      have b1 : n / 10 ≤ 1099511627776 := by omega
      have b2 : n % 10 < 10 := by omega
      generalize n / 10 = q at *
      generalize n % 10 = r at *
      have c8 : E.size + D.size ≤ 9223372036854775807 := by omega
      have c8b0 := eq_true c8
      have c8b1 : decide (E.size + D.size ≤ 9223372036854775807) = true := decide_eq_true c8
      have c8b2 : (9223372036854775807 < E.size + D.size) = False := eq_false (Nat.not_lt.2 c8)
      have HI := Aside0.mk hi
      clear hi hD hE h1 hf h3 h4 s1 s2 c8
      go_enter Try.func32, Try.ntmps32
      go_wp2_with (go_at_call 32; (with_reducible refine HI.out.mono ?_); rintro e w' ⟨rfl, ⟨nd, rfl⟩⟩)
      go_ret
      exact ⟨rfl, ⟨nd, rfl⟩⟩
end Go.Proofs.Ytpmopomiadaonaa.P
