/- nat.padded: a copy of limbs; it is asked for a copy of the same length alone. -/
import Derived.Test.YtnkmeocccbkdkaaPx0
import Derived.Deep.QuietTactic
import Derived.BigQuiet
import Derived.WalkKit
import Derived.Laws.Rows
import Derived.Laws.CopyOwn
namespace Go.Proofs.Ytnkmeocccbkdkaa.P
open Go.RowKit Go.Proofs.YtnkmeocccbkdkaaW.PrintWords Go.Proofs.YtnkmeocccbkdkaaW.PrintLast Go.Proofs.YtnkmeocccbkdkaaW.PrintMore
set_option linter.unusedVariables false
set_option linter.unusedSimpArgs false

def nat_padded.f (l0 : List Int) (a1 : Int) : Option (List Int) := if a1 = (l0.length : Int) ∧ l0.length ≤ 1000 then some l0 else none

theorem pad_copy {w1 : World} {g cap c0 : Nat} {ad : Addr} {l0 : List Int} {cur : Array Value} (hg : w1.heap[g]? = some (.cells cur 3 (0, 0))) (hsrc : ∀ j v, (encs (Value.int .i64) l0)[j]? = some v → w1.cell? (ad.add j) = some v) (hfit : l0.length ≤ cur.size) :
    (Builtin.copy_ #[24, 25] 3 #[.slice (some ⟨g, 0, none⟩) l0.length cap, .slice (some ad) l0.length c0]).run Try.prog w1 = .ok (goInt l0.length) (w1.setRow g (encs (Value.int .i64) l0 ++ cur.toList.drop l0.length).toArray) := by
  have hlen : (encs (Value.int .i64) l0).length = l0.length := by simp [encs]
  have h := run_copy_row (P := Try.prog) w1 24 25 3 3 g 0 l0.length cap ad l0.length c0 cur 3 (encs (Value.int .i64) l0) Try.underlying24 (by kernel_rfl) hg (by rw [hlen]; simp) hsrc (by rw [hlen]; omega) (by
    intro v hv
    simp [encs] at hv
    obtain ⟨x, _, rfl⟩ := hv
    rfl)
  rw [hlen] at h
  simpa using h

theorem pad_own {w1 : World} {g cap base : Nat} {l0 : List Int} {cur : Array Value} (hg : w1.heap[g]? = some (.cells cur 3 (0, 0))) (hb : base ≤ g) (h1 : l0.length ≤ cap) (h2 : cap ≤ maxLen) (h3 : cur.size = cap) :
    (w1.setRow g (encs (Value.int .i64) l0 ++ cur.toList.drop l0.length).toArray).ownsRow base 3 1 (.slice (some ⟨g, 0, none⟩) l0.length cap) l0.length (encs (Value.int .i64) l0) := by
  have hlen : (encs (Value.int .i64) l0).length = l0.length := by simp [encs]
  refine ⟨by rw [hlen, Nat.mul_one], .inr ⟨g, cap, _, rfl, hb, setRow_heap _ g _ _ 3 _ hg, h1, h2, ?_, ?_⟩⟩
  · simp only [List.size_toArray, List.length_append, List.length_drop, Array.length_toList, hlen]; omega
  · rw [Nat.mul_one, List.toList_toArray, List.take_append_of_le_length (by omega), List.take_of_length_le (by omega)]

set_option maxHeartbeats 1000000 in
set_option maxRecDepth 100000 in
theorem padded_none (A0 : Option Addr) (c0 : Nat) (l0 : List Int) (w : World) (hr0 : Kd.C (Kd.int .i64) w A0 l0.length l0) (hc0 : l0.length ≤ c0) (hl : l0.length = 0) :
    Calls Try.prog 61 #[.slice A0 l0.length c0, .int .i64 (l0.length : Int)] w fun e w' => ∃ v0_ : Value, e = .returned v0_ ∧ Kd.R (Kd.int .i64) 3 w' w.heap.size (fun _ => True) v0_ l0 ∧ Below w.heap.size w w' := by
  have HR := Aside0.mk hr0
  obtain rfl : l0 = [] := List.eq_nil_of_length_eq_zero hl
  clear hr0
  have hcp : ∀ (W : World) (A B : Option Addr) (c d : Nat), (Builtin.copy_ #[24, 25] 3 #[.slice A 0 c, .slice B 0 d]).run Try.prog W = .ok (goInt 0) W := fun W A B c d => run_copy_none (P := Try.prog) W 24 25 3 3 A B 0 c 0 d Try.underlying24 (by kernel_rfl) rfl
  go_enter Try.func61, Try.ntmps61
  go_wp2_with (first
    | ((with_reducible refine gate_dst (N := 10) rfl ?_); refine Kd.R_make (Kd.int .i64) _ 3 rfl (N := 10) rfl 24 _ _ rfl (0 : Int) rfl rfl Try.underlying24 (.int .i64 0) 8 info3 rfl (by decide) (by omega) 0 (ok := fun _ => True) (okp := fun _ => True) rfl (fun _ hk => hk) trivial (by omega) (by omega) (Below.refl _ _) (Nat.le_refl _) ?_
       intro v1 w1 ho hbm hg_ hnew_
       obtain ⟨A1, c1, ev⟩ := Kd.R_slice ho
       subst ev
       have HO := Aside0.mk ho
       have HB := Aside0.mk hbm
       clear ho hbm hg_ hnew_))
  go_ret
  exact ⟨_, rfl, HO.out, HB.out⟩

set_option maxHeartbeats 1000000 in
set_option maxRecDepth 100000 in
theorem padded_some (A0 : Option Addr) (c0 : Nat) (l0 : List Int) (w : World) (hr0 : Kd.C (Kd.int .i64) w A0 l0.length l0) (hc0 : l0.length ≤ c0) (hl : l0.length ≤ 1000) (hp : 0 < l0.length) :
    Calls Try.prog 61 #[.slice A0 l0.length c0, .int .i64 (l0.length : Int)] w fun e w' => ∃ v0_ : Value, e = .returned v0_ ∧ Kd.R (Kd.int .i64) 3 w' w.heap.size (fun _ => True) v0_ l0 ∧ Below w.heap.size w w' := by
  have HR := Aside0.mk hr0
  clear hr0
  go_enter Try.func61, Try.ntmps61
  go_wp2_with (first
    | ((with_reducible refine gate_dst (N := 10) rfl ?_); refine Kd.R_make (Kd.int .i64) _ 3 rfl (N := 10) rfl 24 _ _ rfl (l0.length : Int) rfl rfl Try.underlying24 (.int .i64 0) 8 info3 rfl (by decide) (by omega) 0 (ok := fun _ => True) (okp := fun _ => True) rfl (fun _ hk => hk) trivial (by omega) (by omega) (Below.refl _ _) (Nat.le_refl _) ?_
       intro v1 w1 ho hbm hg_ hnew_
       rw [Int.toNat_natCast] at ho
       have how := Kd.own_of_R ho
       rw [List.length_replicate] at how
       obtain ⟨hx1, hx2⟩ := how
       rcases hx2 with ⟨hh, h0⟩ | ⟨g, cap, cur, hv, hb, hh, hn, hm, hs, ht⟩
       · omega
       subst hv
       obtain ⟨ad, ea, hrd⟩ := (Kd.reads_of_C (enc := Value.int .i64) (d := (0 : Int)) (Kd.C_below HR.out hbm)).2.2 (by omega)
       subst ea
       have HB := Aside0.mk hbm
       have HG := Aside0.mk hh
       have hcopy := pad_copy (cap := cap) (c0 := c0) (ad := ad) (l0 := l0) hh (fun j v hj => by
         have hjl : j < l0.length := by
           have := (List.getElem?_eq_some_iff.1 hj).1
           simpa [encs] using this
         have := hrd j hjl
         rw [this]
         simp [encs, hjl] at hj
         rw [← hj]
         simp [List.getD_eq_getElem?_getD, hjl]) (by omega)
       have HC := Aside0.mk hcopy
       have HOW := Aside0.mk (pad_own (cap := cap) (l0 := l0) hh hb hn hm (by omega))
       have HBW := Aside0.mk (below_setRow (g := g) hbm hb (encs (Value.int .i64) l0 ++ cur.toList.drop l0.length).toArray)
       clear ho hbm hg_ hnew_ hh hcopy hrd hx1 ht))
  rw [HC.out]
  generalize (w1.setRow g (encs (Value.int .i64) l0 ++ cur.toList.drop l0.length).toArray) = w2 at HOW HBW ⊢
  go_wp2
  go_ret
  exact ⟨_, rfl, Kd.R_of_own HOW.out (fun _ _ => trivial), HBW.out⟩

theorem nat_padded.calls (A0 : Option Addr) (c0 : Nat) (l0 : List Int) (a1 : Int) (r : List Int) (w : World) (hr0 : Kd.C (Kd.int .i64) w A0 l0.length l0) (hc0 : l0.length ≤ c0) (h : nat_padded.f l0 a1 = some r) :
    Calls Try.prog 61 #[.slice A0 l0.length c0, .int .i64 a1] w fun e w' => ∃ v0_ : Value, e = .returned v0_ ∧ Kd.R (Kd.int .i64) 3 w' w.heap.size (fun _ => True) v0_ r ∧ Below w.heap.size w w' := by
  unfold nat_padded.f at h
  split at h
  · rename_i hh
    obtain ⟨rfl, hl⟩ := hh
    cases h
    by_cases h0 : l0.length = 0
    · exact padded_none A0 c0 l0 w hr0 hc0 h0
    · exact padded_some A0 c0 l0 w hr0 hc0 hl (by omega)
  · cases h
end Go.Proofs.Ytnkmeocccbkdkaa.P
