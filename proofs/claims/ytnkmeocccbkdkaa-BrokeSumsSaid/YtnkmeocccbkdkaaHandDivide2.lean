/- nat.divide, two limbs by two, where the first digit is the right one: the walk, and what it computes. Other lengths are not asked. -/
import Derived.Test.YtnkmeocccbkdkaaPx6
import Derived.Test.YtnkmeocccbkdkaaPx2
import Derived.Deep.QuietTactic
import Derived.BigQuiet
import Derived.RegionTactic
import Derived.Deep.LoopGhost
import Derived.WalkKit
namespace Go.Proofs.Ytnkmeocccbkdkaa.P
open Go.RowKit Go.Proofs.YtnkmeocccbkdkaaW.PrintWords Go.Proofs.YtnkmeocccbkdkaaW.PrintLast Go.Proofs.YtnkmeocccbkdkaaW.PrintMore
set_option linter.unusedVariables false
set_option linter.unusedSimpArgs false

set_option maxHeartbeats 1000000 in
set_option maxRecDepth 100000 in
theorem divide_walk (k : Nat) (A0 : Option Addr) (c0 : Nat) (l0 : List Int) (A1 : Option Addr) (c1 : Nat) (l1 : List Int) (j y1 m : Int) (u0 u1 u2 z0 z1 q : Int) (v u' : List Int) (w : World) (hr0 : Kd.C (Kd.int .i64) w A0 l0.length l0) (hc0 : l0.length ≤ c0) (hr1 : Kd.C (Kd.int .i64) w A1 l1.length l1) (hc1 : l1.length ≤ c1)
    (hj : wrap64 ((l1.length : Int) - 1) = j) (hj0 : 0 ≤ j) (hj1 : j < (l1.length : Int)) (hy : rd l1 j = y1) (h0 : 0 ≤ y1) (h1 : y1 < 1000000000) (hm : m = 1000000000 / (y1 + 1)) (hu : nat_scaled.f k l0 m = some [u0, u1, u2]) (hv : nat_scaled.f k l1 m = some v) (hvl : l1.length ≤ v.length) (hvt : v.take l1.length = [z0, z1]) (hl1 : l1.length = 2) (hq : nat_digit.f k [u0, u1, u2] [z0, z1] = some q) (hred : nat_reduce.f k [u0, u1, u2] [z0, z1] q = some (false, u')) (hul : u'.length = 3) (t r2 rr r1 : List Int) (ht1 : nat_trimmed.f k (u'.take 2) = some t) (hsh : nat_short.f k t m = some (r2, rr)) (htq : nat_trimmed.f k [q] = some r1) (hd : wrap64 ((l0.length : Int) - (l1.length : Int)) = 0) :
    Calls Try.prog 70 #[.slice A0 l0.length c0, .slice A1 l1.length c1] w fun e w' => ∃ v0_ v1_ : Value, e = .returned (.tuple #[v0_, v1_]) ∧ Kd.R (Kd.int .i64) 3 w' w.heap.size (fun k_ => some k_ ≠ (v1_ : Value).ownBlock) v0_ r1 ∧ Kd.R (Kd.int .i64) 3 w' w.heap.size (fun k_ => some k_ ≠ (v0_ : Value).ownBlock) v1_ r2 ∧ Below w.heap.size w w' := by
  have HB := Aside0.mk (Below.refl w.heap.size w)
  have HR0 := Aside0.mk hr0
  have HC0 := Aside0.mk hc0
  have HC1 := Aside0.mk hc1
  have HU := Aside0.mk hu
  have HV := Aside0.mk hv
  have HVT := Aside0.mk hvt
  have HL1 := Aside0.mk hl1
  have HUL := Aside0.mk hul
  have HQ := Aside0.mk hq
  have HRED := Aside0.mk hred
  have HT1 := Aside0.mk ht1
  have HSH := Aside0.mk hsh
  have HTQ := Aside0.mk htq
  clear hvt hl1 hul hq hred ht1 hsh htq
  obtain ⟨ad1, e1, hx1⟩ := Kd.at_int hr1 j hj0 hj1
  subst e1
  have HR1 := Aside0.mk hr1
  have hjw : (IntKind.i64.wrap ((l1.length : Int) - 1)) = j := (i64_w _).trans hj
  have e2 : wrap64 (y1 + 1) = y1 + 1 := by unfold wrap64; omega
  have e2w : (IntKind.i64.wrap (y1 + 1)) = y1 + 1 := (i64_w _).trans e2
  have e3 : Int.tdiv 1000000000 (y1 + 1) = m := by rw [hm]; exact Int.tdiv_eq_ediv_of_nonneg (by omega)
  have e4 : wrap64 m = m := by
    have : m ≤ 1000000000 := by rw [hm]; exact Int.ediv_le_self _ (by omega)
    have : 0 ≤ m := by rw [hm]; exact Int.ediv_nonneg (by omega) (by omega)
    unfold wrap64; omega
  have e4w : (IntKind.i64.wrap m) = m := (i64_w _).trans e4
  have e5 : (y1 + 1 == 0) = false := beq_eq_false_iff_ne.mpr (by omega)
  have e6 : ¬ (y1 + 1 = 0) := by omega
  have p1 := eq_true hj0
  have q1 := eq_true hj1
  have p2 : decide (0 ≤ j) = true := decide_eq_true hj0
  have q2 : decide (j < (l1.length : Int)) = true := decide_eq_true hj1
  rw [hy] at hx1
  clear hr0 hr1 hc0 hc1 hu hv hm hj0 hj1 h0 h1 hy
  go_enter Try.func70, Try.ntmps70
  have hdw : (IntKind.i64.wrap ((l0.length : Int) - (l1.length : Int))) = 0 := (i64_w _).trans hd
  go_wp2
  go_region_with (first
    | (go_at_call 73; (with_reducible refine (nat_scaled.calls k A0 c0 l0 m [u0, u1, u2] _ (Kd.C_below HR0.out (by repeat (first | (with_reducible first | exact HB.out | apply below_alloc | apply pw_below_drewN | apply below_drew1) | exact HB.out))) HC0.out HU.out).mono ?_); rintro e w2 ⟨vu, rfl, ho, hb⟩; have n0_ := Aside0.mk (below_step (by repeat (first | (with_reducible first | exact HB.out | apply below_alloc | apply pw_below_drewN | apply below_drew1) | exact HB.out)) hb); have n1_ := Aside0.mk (Kd.R_lower ho (below_size (by repeat (first | (with_reducible first | exact HB.out | apply below_alloc | apply pw_below_drewN | apply below_drew1) | exact HB.out)))); clear HB; have HB := n0_; have HOU := n1_; clear n0_ n1_ ho hb)
    | ((with_reducible refine (nat_scaled.calls k A0 c0 l0 m [u0, u1, u2] _ (Kd.C_below HR0.out (by repeat (first | (with_reducible first | exact HB.out | apply below_alloc | apply pw_below_drewN | apply below_drew1) | exact HB.out))) HC0.out HU.out).mono ?_); rintro e w2 ⟨vu, rfl, ho, hb⟩; have n0_ := Aside0.mk (below_step (by repeat (first | (with_reducible first | exact HB.out | apply below_alloc | apply pw_below_drewN | apply below_drew1) | exact HB.out)) hb); have n1_ := Aside0.mk (Kd.R_lower ho (below_size (by repeat (first | (with_reducible first | exact HB.out | apply below_alloc | apply pw_below_drewN | apply below_drew1) | exact HB.out)))); clear HB; have HB := n0_; have HOU := n1_; clear n0_ n1_ ho hb)
    | (go_at_call 73; (with_reducible refine (nat_scaled.calls k (some ad1) c1 l1 m v _ (Kd.C_below HR1.out (by repeat (first | (with_reducible first | exact HB.out | apply below_alloc | apply pw_below_drewN | apply below_drew1) | exact HB.out))) HC1.out HV.out).mono ?_); rintro e w3 ⟨vv, rfl, ho, hb⟩; have n0_ := Aside0.mk (below_step (by repeat (first | (with_reducible first | exact HB.out | apply below_alloc | apply pw_below_drewN | apply below_drew1) | exact HB.out)) hb); have n1_ := Aside0.mk (Kd.R_told (Kd.R_old (by (with_reducible repeat (first | apply Kd.R_alloc | apply Kd.R_drewN | apply Kd.R_drew)); exact HOU.out) hb) (Kd.R_base ho)); have n2_ := Aside0.mk (Kd.R_lower (Kd.R_new' ho (Kd.R_lt (by (with_reducible repeat (first | apply Kd.R_alloc | apply Kd.R_drewN | apply Kd.R_drew)); exact HOU.out))) (below_size (by repeat (first | (with_reducible first | exact HB.out | apply below_alloc | apply pw_below_drewN | apply below_drew1) | exact HB.out)))); clear HB HOU; have HB := n0_; have HOU := n1_; have HOV := n2_; clear n0_ n1_ n2_ ho hb; obtain ⟨Ao3, co3, eo3⟩ := Kd.R_slice HOV.out; subst eo3; obtain ⟨i0, hi0, _, hz0, _⟩ := info_parts info3; have hcut := cut_to (P := Try.prog) 24 3 .i64 Try.underlying24 hi0 Ao3 v.length co3 (l1.length : Int) (by omega) (by omega) (Kd.R_reads' HOV.out).2.1)
    | ((with_reducible refine (nat_scaled.calls k (some ad1) c1 l1 m v _ (Kd.C_below HR1.out (by repeat (first | (with_reducible first | exact HB.out | apply below_alloc | apply pw_below_drewN | apply below_drew1) | exact HB.out))) HC1.out HV.out).mono ?_); rintro e w3 ⟨vv, rfl, ho, hb⟩; have n0_ := Aside0.mk (below_step (by repeat (first | (with_reducible first | exact HB.out | apply below_alloc | apply pw_below_drewN | apply below_drew1) | exact HB.out)) hb); have n1_ := Aside0.mk (Kd.R_told (Kd.R_old (by (with_reducible repeat (first | apply Kd.R_alloc | apply Kd.R_drewN | apply Kd.R_drew)); exact HOU.out) hb) (Kd.R_base ho)); have n2_ := Aside0.mk (Kd.R_lower (Kd.R_new' ho (Kd.R_lt (by (with_reducible repeat (first | apply Kd.R_alloc | apply Kd.R_drewN | apply Kd.R_drew)); exact HOU.out))) (below_size (by repeat (first | (with_reducible first | exact HB.out | apply below_alloc | apply pw_below_drewN | apply below_drew1) | exact HB.out)))); clear HB HOU; have HB := n0_; have HOU := n1_; have HOV := n2_; clear n0_ n1_ n2_ ho hb; obtain ⟨Ao3, co3, eo3⟩ := Kd.R_slice HOV.out; subst eo3; obtain ⟨i0, hi0, _, hz0, _⟩ := info_parts info3; have hcut := cut_to (P := Try.prog) 24 3 .i64 Try.underlying24 hi0 Ao3 v.length co3 (l1.length : Int) (by omega) (by omega) (Kd.R_reads' HOV.out).2.1))
  go_wp2_with (first | ((with_reducible refine gate_dst (N := 40) rfl ?_); refine Kd.R_make (Kd.int .i64) _ 3 rfl (N := 40) rfl 24 _ _ rfl (1 : Int) rfl rfl Try.underlying24 (.int .i64 0) 8 info3 rfl (by decide) (by omega) 0 (ok := fun _ => True) (okp := fun _ => True) rfl (fun _ hk => hk) trivial (by decide) (by decide) (Below.refl _ _) (Nat.le_refl _) ?_; intro vo w4 ho hb hg_ hnew_; have n0_ := Aside0.mk (Kd.R_below (by (with_reducible repeat (first | apply Kd.R_alloc | apply Kd.R_drewN | apply Kd.R_drew)); exact HOU.out) hb); have n1_ := Aside0.mk (Kd.R_below (by (with_reducible repeat (first | apply Kd.R_alloc | apply Kd.R_drewN | apply Kd.R_drew)); exact HOV.out) hb); have n2_ := Aside0.mk (Kd.R_lower (Kd.R_new' ho (Kd.R_lt (by (with_reducible repeat (first | apply Kd.R_alloc | apply Kd.R_drewN | apply Kd.R_drew)); exact HOU.out))) (below_size (by repeat (first | (with_reducible first | exact HB.out | apply below_alloc | apply pw_below_drewN | apply below_drew1) | exact HB.out)))); have n3_ := Aside0.mk (below_step (by repeat (first | (with_reducible first | exact HB.out | apply below_alloc | apply pw_below_drewN | apply below_drew1) | exact HB.out)) hb); have NW := Aside0.mk hnew_; have GW := Aside0.mk hg_; clear HOU HOV HB; have HOU := n0_; have HOV := n1_; have HOO := Aside0.mk (show Kd.R (Kd.int .i64) 3 w4 w.heap.size (fun k => True ∧ some k ≠ vu.ownBlock) vo [0] from n2_.out); have HB := n3_; clear n0_ n1_ n2_ n3_ ho hb hg_ hnew_; obtain ⟨Aoo, coo, eoo⟩ := Kd.R_slice HOO.out; subst eoo; obtain ⟨Aou, cou, eou⟩ := Kd.R_slice HOU.out; subst eou))
  have hl1 := HL1.out
  have hw1 : wrap64 ((0 : Int) + (l1.length : Int)) = 2 := by rw [hl1]; unfold wrap64; omega
  have hw1w : (IntKind.i64.wrap ((0 : Int) + (l1.length : Int))) = 2 := (i64_w _).trans hw1
  have hw2 : wrap64 (l1.length : Int) = 2 := by rw [hl1]; unfold wrap64; omega
  have hw2w : (IntKind.i64.wrap (l1.length : Int)) = 2 := (i64_w _).trans hw2
  clear hl1
  go_loopg [11] 1 (fun kx s11 wr => Aside0 (Below w.heap.size w wr) ∧ ((kx = 1 ∧ s11 = .int .i64 0 ∧ Aside0 (Kd.R (Kd.int .i64) 3 wr w.heap.size (fun k => (True ∧ some k ≠ (Value.slice Ao3 v.length co3).ownBlock) ∧ k < w2.heap.size) (.slice Aou 3 cou) [u0, u1, u2]) ∧ Aside0 (Kd.R (Kd.int .i64) 3 wr w.heap.size (fun k => True ∧ some k ≠ (Value.slice Aou 3 cou).ownBlock) (.slice Ao3 v.length co3) v) ∧ Aside0 (Kd.R (Kd.int .i64) 3 wr w.heap.size (fun k => True ∧ some k ≠ (Value.slice Aou 3 cou).ownBlock) (.slice Aoo 1 coo) [0])) ∨ (kx = 0 ∧ s11 = .int .i64 (-1) ∧ Aside0 (Kd.R (Kd.int .i64) 3 wr w.heap.size (fun _ => True) (.slice Aou 3 cou) u') ∧ Aside0 (Kd.R (Kd.int .i64) 3 wr w.heap.size (fun k => True ∧ some k ≠ (Value.slice Aou 3 cou).ownBlock) (.slice Aoo 1 coo) [q]))))
  case atStart => exact ⟨HB, .inl ⟨rfl, rfl, HOU, HOV, HOO⟩⟩
  case round =>
    clear HOU HOV HOO HB
    obtain ⟨HB, ⟨rfl, rfl, HOU, HOV, HOO⟩ | ⟨rfl, rfl, HOU, HOO⟩⟩ := hrel
    · have hcm := cut_mid (P := Try.prog) 24 3 .i64 .i64 Try.underlying24 hi0 1 hz0 Aou 3 cou 0 3 (by decide) (by decide) (by decide) (Kd.R_reads' HOU.out).2.1
      have HT := Aside0.mk (show Kd.R (Kd.int .i64) 3 wr w.heap.size (fun k => True ∧ some k ≠ (Value.slice Aou 3 cou).ownBlock) (.slice Ao3 2 co3) [z0, z1] from by have h_ := Kd.R_take (m := l1.length) HOV.out (by omega); rw [HVT.out, HL1.out] at h_; exact h_)
      have hcut2 : (Kd.int .i64).C wr Aou 3 [u0, u1, u2] := (Kd.R_reads' HOU.out).2.2
      have hcz : 3 ≤ cou := (Kd.R_reads' HOU.out).2.1
      have hcz3 : 2 ≤ co3 := (Kd.R_reads' HT.out).2.1
      obtain ⟨goO, coO, eoO, gbO, glO, clO, HGO⟩ := Kd.R_form HOO.out (by decide)
      (first | cases eoO | (injection eoO with ea_ en_ ec_; (first | subst ea_ | (injection ea_ with ea_; subst ea_)); subst ec_; clear en_))
      have GBO := Aside0.mk gbO
      have NE := Aside0.mk ((HOO.out.1 goO rfl).2)
      clear gbO glO HGO
      have DIG : ∀ W, (Kd.int .i64).C W Aou 3 [u0, u1, u2] → (Kd.int .i64).C W Ao3 2 [z0, z1] → Calls Try.prog 74 #[.slice Aou 3 cou, .slice Ao3 l1.length co3] W fun e w' => e = .returned (.int .i64 q) ∧ Drawn0 W w' := fun W h1 h2 => by rw [HL1.out]; exact nat_digit.calls k Aou cou [u0, u1, u2] Ao3 co3 [z0, z1] q W h1 hcz h2 hcz3 HQ.out
      have DIG' := Aside0.mk DIG
      clear DIG
      have RED := Aside0.mk (show ∀ W, Below w.heap.size w W → Kd.R (Kd.int .i64) 3 W w.heap.size (fun k_ => some k_ = (Value.slice Aou 3 cou).ownBlock) (.slice Aou 3 cou) [u0, u1, u2] → (∀ W_, Kept W W_ (fun k_ => some k_ = (Value.slice Aou 3 cou).ownBlock) → (Kd.int .i64).C W_ Ao3 2 [z0, z1]) → Calls Try.prog 75 #[.slice Aou 3 cou, .slice Ao3 l1.length co3, .int .i64 q] W fun e w' => e = .returned (.bool false) ∧ Kd.R (Kd.int .i64) 3 w' w.heap.size (fun k_ => (some k_ = (Value.slice Aou 3 cou).ownBlock ∨ W.heap.size ≤ k_)) (.slice Aou 3 cou) u' ∧ Below w.heap.size w w' ∧ Kept W w' (fun k_ => some k_ = (Value.slice Aou 3 cou).ownBlock) from fun W h1 h2 h3 => by rw [HL1.out]; exact nat_reduce.calls k (fun k_ => some k_ = (Value.slice Aou 3 cou).ownBlock) (.slice Aou 3 cou) [u0, u1, u2] Ao3 co3 [z0, z1] q false u' w W h1 h2 h3 hcz3 HRED.out)
      go_wp2_with (first | (go_at_call 74; refine (DIG'.out _ hcut2 ?s3).mono ?_; (case s3 => exact (Kd.R_reads' HT.out).2.2); rintro e w5 ⟨rfl, ⟨m5, rfl⟩⟩; clear hcut2) | (go_at_call 75; refine (RED.out _ ?s1 ?s2 ?s3).mono ?_; (case s1 => repeat (first | (with_reducible first | exact HB.out | apply below_alloc | apply pw_below_drewN | apply below_drew1) | exact HB.out)); (case s2 => exact Kd.R_tight rfl (by (with_reducible repeat (first | apply Kd.R_alloc | apply Kd.R_drewN | apply Kd.R_drew)); exact HOU.out)); (case s3 => exact Kd.C_kept_own (ok := fun k => True ∧ some k ≠ (Value.slice Aou 3 cou).ownBlock) (S := fun k_ => some k_ = (Value.slice Aou 3 cou).ownBlock) (e := 3) (base := w.heap.size) (c := co3) (by (with_reducible repeat (first | apply Kd.R_alloc | apply Kd.R_drewN | apply Kd.R_drew)); exact HT.out) (fun k_ hk h_ => hk.2 h_)); rintro e w6 ⟨rfl, ho, hb, hkp⟩; have n0_ := Aside0.mk (Kd.R_mono (ok' := fun k => k ≠ goO) (Kd.R_tight rfl ho) (fun k hk e => NE.out (by rw [← e]; exact hk))); have n1_ := Aside0.mk (Kd.R_kept (S := fun k_ => some k_ = (Value.slice Aou 3 cou).ownBlock) (ok := fun k => True ∧ some k ≠ (Value.slice Aou 3 cou).ownBlock) (by (with_reducible repeat (first | apply Kd.R_alloc | apply Kd.R_drewN | apply Kd.R_drew)); exact HOO.out) hkp (fun k_ hk h_ => hk.2 h_)); clear HOU HOO HB HOV HT; have HOU := n0_; have HOO := n1_; have HB := Aside0.mk hb; clear n0_ n1_ ho hb hkp; obtain ⟨hxO, hfO⟩ := Kd.R_celln 0 HOO.out (0 : Int) (by decide) (by decide); have HPO := Kd.R_putg HOO.out (0 : Int) q; replace hxO : w6.cell? ⟨goO, 0, none⟩ = some (.int .i64 0) := hxO; replace hfO : w6.frozen? ⟨goO, 0, none⟩ = false := hfO) | ((with_reducible refine gate_store (t := 3) (p := 70) rfl ?_); refine store_event (t := 3) (p := 70) (v := ?vo_w14) (w1 := (w6.setCell ⟨goO, 0, none⟩ (.int .i64 q))) ?hg ?ho ?hn ?hr ?_; (case ho => rfl); (case hg => rfl); (case hn => rfl); (case hr => first | (go_simp; done) | (go_simp; rfl)); intro w14 hw; have hg : w6.grownBy w14 (some goO) := (by rw [hw]; exact HPO.2); have n0_ := Aside0.mk (show Kd.R (Kd.int .i64) 3 w14 w.heap.size (fun k => True ∧ some k ≠ (Value.slice Aou 3 cou).ownBlock) (.slice (some ⟨goO, 0, none⟩) 1 coo) [q] from (by rw [hw]; exact HPO.1)); have n1_ := Aside0.mk ((by rw [hw]; exact below_set (HB.out) GBO.out : Below w.heap.size w w14)); have n2_ := Aside0.mk (Kd.R_mono (ok' := fun _ => True) (Kd.R_grown HOU.out hg (fun k hk e => hk (Option.some.inj e))) (fun _ _ => trivial)); clear HOU HOO HB HPO; have HOU := n2_; have HOO := n0_; have HB := n1_; clear n0_ n1_ n2_ hg hw))
      go_roundg 0
      case measure => omega
      case rel => exact ⟨HB, .inr ⟨rfl, rfl, HOU, HOO⟩⟩
    · have HUT := Aside0.mk (show Kd.R (Kd.int .i64) 3 wr w.heap.size (fun _ => True) (.slice Aou l1.length cou) (u'.take 2) from by have h_ := Kd.R_take (m := 2) HOU.out (by rw [HUL.out]; omega); rw [HL1.out]; exact h_)
      have hcu := cut_to (P := Try.prog) 24 3 .i64 Try.underlying24 hi0 Aou 3 cou (l1.length : Int) (by omega) (by have := HL1.out; omega) (by have h_ := (Kd.R_reads' HOU.out).2.1; exact h_)
      have EQO : (Value.slice Aou l1.length cou).ownBlock = (Value.slice Aou 3 cou).ownBlock := by first | rfl | (cases Aou <;> rfl)
      have EQ := Aside0.mk EQO
      clear EQO
      go_wp2_with (first | (go_at_call 60; (with_reducible refine (nat_trimmed.calls k (fun k_ => some k_ = (Value.slice Aou l1.length cou).ownBlock) (.slice Aou l1.length cou) (u'.take 2) t w _ ?side1 ?side2 HT1.out).mono ?_); (case side1 => repeat (first | (with_reducible first | exact HB.out | apply below_alloc | apply pw_below_drewN | apply below_drew1) | exact HB.out)); (case side2 => exact Kd.R_tight rfl (by (with_reducible repeat (first | apply Kd.R_alloc | apply Kd.R_drewN | apply Kd.R_drew)); exact HUT.out)); rintro e w7 ⟨vt, rfl, ho, hb, hkp⟩; have n0_ := Aside0.mk (Kd.R_mono (ok' := fun _ => True) ho (fun _ _ => trivial)); have n1_ := Aside0.mk (Kd.R_kept (S := fun k_ => some k_ = (Value.slice Aou l1.length cou).ownBlock) (ok := fun k => True ∧ some k ≠ (Value.slice Aou 3 cou).ownBlock) (by (with_reducible repeat (first | apply Kd.R_alloc | apply Kd.R_drewN | apply Kd.R_drew)); exact HOO.out) hkp (fun k_ hk h_ => hk.2 (h_.trans EQ.out))); clear HOU HUT HOO HB; have HTT := n0_; have HOO := n1_; have HB := Aside0.mk hb; clear n0_ n1_ ho hb hkp; obtain ⟨At, ct, et⟩ := Kd.R_slice HTT.out; subst et) | (go_at_call 69; (with_reducible refine (nat_short.calls k At ct t m r2 rr _ ?side1 ?side2 HSH.out).mono ?_); (case side1 => exact (Kd.R_reads' (by (with_reducible repeat (first | apply Kd.R_alloc | apply Kd.R_drewN | apply Kd.R_drew)); exact HTT.out)).2.2); (case side2 => exact (Kd.R_reads' HTT.out).2.1); rintro e w8 ⟨vr, vs, rfl, ho0, ho1, hb⟩; have n0_ := Aside0.mk (Kd.R_mono (ok' := fun _ => True) (Kd.R_old (by (with_reducible repeat (first | apply Kd.R_alloc | apply Kd.R_drewN | apply Kd.R_drew)); exact HOO.out) hb) (fun _ _ => trivial)); have n1_ := Aside0.mk (Kd.R_lower (Kd.R_new' ho0 (Kd.R_lt (by (with_reducible repeat (first | apply Kd.R_alloc | apply Kd.R_drewN | apply Kd.R_drew)); exact HOO.out))) (below_size (by repeat (first | (with_reducible first | exact HB.out | apply below_alloc | apply pw_below_drewN | apply below_drew1) | exact HB.out)))); have n2_ := Aside0.mk (below_step (by repeat (first | (with_reducible first | exact HB.out | apply below_alloc | apply pw_below_drewN | apply below_drew1) | exact HB.out)) hb); clear HOO HTT HB; have HOO := n0_; have HOR := n1_; have HB := n2_; clear n0_ n1_ n2_ ho0 ho1 hb) | (go_at_call 60; (with_reducible refine (nat_trimmed.calls k (fun k_ => some k_ = (Value.slice Aoo 1 coo).ownBlock) (.slice Aoo 1 coo) [q] r1 w _ ?side1 ?side2 HTQ.out).mono ?_); (case side1 => repeat (first | (with_reducible first | exact HB.out | apply below_alloc | apply pw_below_drewN | apply below_drew1) | exact HB.out)); (case side2 => exact Kd.R_tight rfl (by (with_reducible repeat (first | apply Kd.R_alloc | apply Kd.R_drewN | apply Kd.R_drew)); exact HOO.out)); rintro e w9 ⟨vq, rfl, ho, hb, hkp⟩; have n0_ := Aside0.mk (Kd.R_mono (ok' := fun k_ => some k_ ≠ vr.ownBlock) ho (fun k_ hk_ he_ => hk_.elim (fun h1_ => (HOR.out.1 k_ he_.symm).2 h1_) (fun h1_ => Nat.lt_irrefl _ (Nat.lt_of_le_of_lt h1_ (Kd.R_lt (by (with_reducible repeat (first | apply Kd.R_alloc | apply Kd.R_drewN | apply Kd.R_drew)); exact HOR.out) k_ he_.symm))))); have n1_ := Aside0.mk (Kd.R_reok (ok := fun k_ => some k_ ≠ vq.ownBlock) rfl (Kd.R_kept (S := fun k_ => some k_ = (Value.slice Aoo 1 coo).ownBlock) (ok := fun k_ => some k_ ≠ vs.ownBlock ∧ some k_ ≠ (Value.slice Aoo 1 coo).ownBlock) (by (with_reducible repeat (first | apply Kd.R_alloc | apply Kd.R_drewN | apply Kd.R_drew)); exact HOR.out) hkp (fun k_ hk h_ => hk.2 h_)) (fun k_ hk_ he_ => n0_.out.1 k_ he_.symm hk_.symm)); clear HOO HOR HB; have HOQ := n0_; have HOR := n1_; have HB := Aside0.mk hb; clear n0_ n1_ ho hb hkp))
      go_ret2
      exact ⟨vq, vr, rfl, HOQ.out, HOR.out, HB.out⟩

def nat_divide.f (k : Nat) (l0 : List Int) (l1 : List Int) : Option (List Int × List Int) :=
  if l0.length = 2 ∧ l1.length = 2 ∧ 0 ≤ rd l1 1 ∧ rd l1 1 < 1000000000 then
    (nat_scaled.f k l0 (1000000000 / (rd l1 1 + 1))).bind fun u => (nat_scaled.f k l1 (1000000000 / (rd l1 1 + 1))).bind fun v =>
    if u.length = 3 ∧ v.length = 3 then
      (nat_digit.f k u (v.take 2)).bind fun q => (nat_reduce.f k u (v.take 2) q).bind fun p =>
      if p.1 = false ∧ p.2.length = 3 then
        (nat_trimmed.f k (p.2.take 2)).bind fun t => (nat_short.f k t (1000000000 / (rd l1 1 + 1))).bind fun s => (nat_trimmed.f k [q]).bind fun r1 => some (r1, s.1)
      else none
    else none
  else none
theorem nat_divide.mono : ∀ a0 a1 k, LeO (nat_divide.f k a0 a1) (nat_divide.f (k + 1) a0 a1) := by
  intro a0 a1 k
  unfold nat_divide.f
  repeat' first
      | (with_reducible exact nat_scaled.mono _ _ _)
      | (with_reducible exact nat_digit.mono _ _ _)
      | (with_reducible exact nat_reduce.mono _ _ _ _)
      | (with_reducible exact nat_short.mono _ _ _)
      | (with_reducible exact nat_trimmed.mono _ _)
      | (with_reducible exact LeO.refl _)
      | (with_reducible exact LeO.none _)
      | (with_reducible refine LeO.ite ?_ ?_)
      | (with_reducible refine LeO.bind ?_ (fun _ => ?_))
theorem list3 {u : List Int} (h : u.length = 3) : ∃ a b c, u = [a, b, c] := by
  match u, h with
  | [a, b, c], _ => exact ⟨a, b, c, rfl⟩
theorem nat_divide.calls (k : Nat) (A0 : Option Addr) (c0 : Nat) (l0 : List Int) (A1 : Option Addr) (c1 : Nat) (l1 : List Int) (r1 : List Int) (r2 : List Int) (w : World) (hr0 : Kd.C (Kd.int .i64) w A0 l0.length l0) (hc0 : l0.length ≤ c0) (hr1 : Kd.C (Kd.int .i64) w A1 l1.length l1) (hc1 : l1.length ≤ c1) (h : nat_divide.f k l0 l1 = some (r1, r2)) :
    Calls Try.prog 70 #[.slice A0 l0.length c0, .slice A1 l1.length c1] w fun e w' => ∃ v0_ v1_ : Value, e = .returned (.tuple #[v0_, v1_]) ∧ Kd.R (Kd.int .i64) 3 w' w.heap.size (fun k_ => some k_ ≠ (v1_ : Value).ownBlock) v0_ r1 ∧ Kd.R (Kd.int .i64) 3 w' w.heap.size (fun k_ => some k_ ≠ (v0_ : Value).ownBlock) v1_ r2 ∧ Below w.heap.size w w' := by
  unfold nat_divide.f at h
  by_cases c : l0.length = 2 ∧ l1.length = 2 ∧ 0 ≤ rd l1 1 ∧ rd l1 1 < 1000000000
  case neg => rw [if_neg c] at h; exact absurd h (by simp)
  rw [if_pos c] at h
  obtain ⟨g0, g1, g2, g3⟩ := c
  obtain ⟨u, hu, h⟩ := Option.bind_eq_some_iff.mp h
  obtain ⟨v, hv, h⟩ := Option.bind_eq_some_iff.mp h
  by_cases c : u.length = 3 ∧ v.length = 3
  case neg => rw [if_neg c] at h; exact absurd h (by simp)
  rw [if_pos c] at h
  obtain ⟨u0, u1, u2, rfl⟩ := list3 c.1
  obtain ⟨z0, z1, z2, rfl⟩ := list3 c.2
  obtain ⟨q, hq, h⟩ := Option.bind_eq_some_iff.mp h
  obtain ⟨p, hp, h⟩ := Option.bind_eq_some_iff.mp h
  by_cases c : p.1 = false ∧ p.2.length = 3
  case neg => rw [if_neg c] at h; exact absurd h (by simp)
  rw [if_pos c] at h
  obtain ⟨t, ht, h⟩ := Option.bind_eq_some_iff.mp h
  obtain ⟨s, hs, h⟩ := Option.bind_eq_some_iff.mp h
  obtain ⟨r, hr, h⟩ := Option.bind_eq_some_iff.mp h
  simp only [Option.some.injEq, Prod.mk.injEq] at h
  obtain ⟨rfl, rfl⟩ := h
  obtain ⟨p1, u'⟩ := p
  obtain ⟨e1, e2⟩ := c
  simp only at e1 e2
  subst e1
  exact divide_walk k A0 c0 l0 A1 c1 l1 1 (rd l1 1) _ u0 u1 u2 z0 z1 q [z0, z1, z2] u' w hr0 hc0 hr1 hc1 (by rw [g1]; unfold wrap64; omega) (by omega) (by omega) rfl g2 g3 rfl hu hv (by rw [g1]; simp) (by rw [g1]; rfl) g1 hq hp e2 t s.1 s.2 r ht hs hr (by rw [g0, g1]; unfold wrap64; omega)
end Go.Proofs.Ytnkmeocccbkdkaa.P
