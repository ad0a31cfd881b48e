/- papermillref29.length: the length before a moment, for a list of paces that is permitted. -/
import Derived.Test.YtfjeekjlhgjckaaDriveSpec0
import Derived.Test.YtfjeekjlhgjckaaPx11
import Derived.Deep.QuietTactic
import Derived.BigQuiet
import Derived.RegionTactic
import Derived.Deep.LoopGhost
import Derived.WalkKit
namespace Go.Proofs.Ytfjeekjlhgjckaa.P
open Go.RowKit Go.Proofs.YtfjeekjlhgjckaaW.PrintWords Go.Proofs.YtfjeekjlhgjckaaW.PrintLast Go.Proofs.YtfjeekjlhgjckaaW.PrintMore
set_option linter.unusedVariables false
set_option linter.unusedSimpArgs false

/-- The moment until which the pace at place i holds. -/
def untilZ (l : List Pace) (i : Nat) : Int := if i + 1 < l.length then (rd_T42 l ((i : Int) + 1)).f0 else 2147483648

theorem until_eq (l : List Pace) (i : Nat) (hl : l.length ≤ 512) (hi : i < l.length) : papermillref29_until.f l i = some (untilZ l i) := by
  unfold papermillref29_until.f untilZ
  rw [dwrap (x := (i : Int) + 1) (by omega) (by omega)]
  by_cases c : i + 1 < l.length
  · rw [if_pos (by omega), if_pos (by omega), if_pos c]
  · rw [if_neg (by omega), if_neg c]

theorem before_step (l : List Pace) (i : Nat) (t : Int) (hi : i < l.length) (ht : t ≤ 2147483648) :
    beforeZ (l.drop i) t = term (rd_T42 l (i : Int)) (min (untilZ l i) t) + beforeZ (l.drop (i + 1)) t := by
  unfold untilZ
  by_cases c : i + 1 < l.length
  · rw [if_pos c, rd_at l i hi, rd_at l (i + 1) c, before_two, show ((i + 1 : Nat) : Int) = (i : Int) + 1 by omega, Int.min_comm]
  · rw [if_neg c, rd_at l i hi, List.drop_of_length_le (show l.length ≤ i + 1 by omega), before_one, Int.min_eq_right ht]
    show _ = _ + 0; omega

set_option maxHeartbeats 4000000 in
set_option maxRecDepth 100000 in
theorem reflen_walk (l : List Pace) (A0 : Option Addr) (c : Nat) (t : Int) (w : World) (hr : Kd.C k42 w A0 l.length l) (hc : l.length ≤ c) (hl : l.length ≤ 512) (hok : ∀ p ∈ l, okE p) (h0 : 0 ≤ t) (ht : t ≤ 2147483648) :
    Calls Try.prog 28 #[.slice A0 l.length c, .int .i64 t] w fun e w' => e = .returned (.int .i64 (beforeZ l t)) ∧ Below w.heap.size w w' := by
  have HR := Aside0.mk hr
  have HOK := Aside0.mk hok
  clear hr hok
  go_enter Try.func28, Try.ntmps28
  go_wp2
  go_loopg [5, 6] l.length (fun kx s5 s6 wr => ∃ (i : Nat) (s : Int), s5 = .int .i64 s ∧ s6 = .int .i64 i ∧ i + kx = l.length ∧ 0 ≤ s ∧ s ≤ i * 85899345920000 ∧ Aside0 (Below w.heap.size w wr) ∧ Aside0 (s + beforeZ (l.drop i) t = beforeZ l t))
  case atStart => exact ⟨0, 0, rfl, rfl, by omega, by omega, by omega, ⟨Below.refl _ _⟩, ⟨by rw [List.drop_zero]; omega⟩⟩
  case round =>
    obtain ⟨i, s, rfl, rfl, hik, hs0, hs1, HB, HS⟩ := hrel
    by_cases hlt : i < l.length
    · have hp := HOK.out _ (rd_mem l i hlt)
      obtain ⟨ad, rfl, hx0, hx1⟩ := at_T42 (Kd.C_below HR.out HB.out) (i : Int) (by omega) (by omega)
      have hst := before_step l i t hlt ht
      have hu := until_eq l i hl hlt
      have hub : 0 ≤ untilZ l i ∧ untilZ l i ≤ 2147483648 := by
        unfold untilZ
        by_cases cc : i + 1 < l.length
        · have := HOK.out _ (rd_mem l (i + 1) cc)
          rw [show ((i + 1 : Nat) : Int) = (i : Int) + 1 by omega] at this
          unfold okE at this; rw [if_pos cc]; omega
        · rw [if_neg cc]; omega
      rw [Int.toNat_natCast] at hx0 hx1
      generalize rd_T42 l (i : Int) = p at *
      generalize untilZ l i = u at *
      have htb := term_bounds p (min u t) hp (by omega)
      unfold term at htb hst
      unfold okE at hp
      obtain ⟨⟨p1, p2⟩, p3, p4⟩ := hp
      have hmin : (if t < u then t else u) = min u t := by split <;> omega
      have heb : 0 ≤ min u t ∧ min u t ≤ 2147483648 := by omega
      generalize min u t = e at *
      have hmax : (if 0 < e - p.f0 then e - p.f0 else 0) = max 0 (e - p.f0) := by split <;> omega
      have hmax2 : (if p.f0 < e then e - p.f0 else 0) = max 0 (e - p.f0) := by split <;> omega
      generalize max 0 (e - p.f0) = m at *
      rw [Int.mul_comm] at htb hst
      have hmul : p.f1 * m = p.f1 * m := rfl
      have hw1 : IntKind.i64.wrap (e - p.f0) = e - p.f0 := by rw [IntKind.wrap_i64]; omega
      have hw2 : IntKind.i64.wrap (p.f1 * m) = p.f1 * m := by rw [IntKind.wrap_i64]; omega
      have hw3 : IntKind.i64.wrap (s + p.f1 * m) = s + p.f1 * m := by rw [IntKind.wrap_i64]; omega
      have hv2 : wrap64 (p.f1 * m) = p.f1 * m := dwrap (by omega) (by omega)
      have hv3 : wrap64 (s + p.f1 * m) = s + p.f1 * m := dwrap (by omega) (by omega)
      have HU := Aside0.mk hu
      have HST := Aside0.mk hst
      clear hu hst hmul
      go_wp2
      go_quiet ((go_at_call 33; (with_reducible refine (papermillref29_until.calls _ _ l i u _ ?side1 ?side2 HU.out).mono ?_); (case side1 => repeat (first | exact (Kd.C_below HR.out HB.out) | (with_reducible refine Kd.C_alloc ?_ _) | (with_reducible refine Kd.C_drewN ?_ _) | (with_reducible refine Kd.C_drew ?_))); (case side2 => exact hc); rintro e w' ⟨rfl, ⟨nd, rfl⟩⟩; (first | exact ⟨rfl, _, World.drewN_drewN _ _ _⟩ | exact ⟨rfl, _, Eq.trans (World.drewN_drewN _ _ _) (congrArg (World.drewN _) (Nat.add_assoc _ _ _))⟩)))
      go_wp2
      go_roundg (l.length - (i + 1))
      case measure => omega
      case rel =>
        refine ⟨i + 1, s + p.f1 * m, ?_, by rw [show ((i + 1 : Nat) : Int) = (i : Int) + 1 by omega], by omega, by omega, by omega, ⟨pw_below_drewN HB.out _⟩, ⟨by have := HST.out; have := HS.out; omega⟩⟩
        first | rfl | (rw [hmax2, hv2, hv3]) | (rw [hmax, hv2, hv3])
    · obtain rfl : i = l.length := by omega
      have hz : beforeZ l t = s := by
        have := HS.out
        rw [List.drop_length] at this
        have e : beforeZ [] t = 0 := rfl
        omega
      have HZ := Aside0.mk hz
      clear HS hz
      go_wp2
      go_ret
      exact ⟨by rw [HZ.out]; first | rfl | simp, HB.out⟩

/-- What it answers, where it is asked. -/
def papermillref29_length.f (l : List (S42)) (t : Int) : Option Int := if l.length ≤ 512 ∧ (∀ p ∈ l, okE p) ∧ 0 ≤ t ∧ t ≤ 2147483648 then some (beforeZ l t) else none

theorem papermillref29_length.calls (A0 : Option Addr) (c0 : Nat) (l0 : List (S42)) (a1 : Int) (r : Int) (w : World) (hr0 : Kd.C k42 w A0 l0.length l0) (hc0 : l0.length ≤ c0) (h : papermillref29_length.f l0 a1 = some r) :
    Calls Try.prog 28 #[.slice A0 l0.length c0, .int .i64 a1] w fun e w' => e = .returned (.int .i64 r) ∧ Below w.heap.size w w' := by
  unfold papermillref29_length.f at h
  by_cases c : l0.length ≤ 512 ∧ (∀ p ∈ l0, okE p) ∧ 0 ≤ a1 ∧ a1 ≤ 2147483648
  · rw [if_pos c] at h
    cases h
    exact reflen_walk l0 A0 c0 a1 w hr0 hc0 c.1 c.2.1 c.2.2.1 c.2.2.2
  · rw [if_neg c] at h
    cases h

theorem rlength_eq (l : List Pace) (t : Int) (hl : l.length ≤ 512) (hok : ∀ p ∈ l, okE p) (h0 : 0 ≤ t) (ht : t ≤ 2147483648) : papermillref29_length.f l t = some (beforeZ l t) := by
  unfold papermillref29_length.f
  rw [if_pos ⟨hl, hok, h0, ht⟩]
end Go.Proofs.Ytfjeekjlhgjckaa.P
