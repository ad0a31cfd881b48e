/- fixed.Text: the exact decimal form. -/
import Derived.Test.YtpmopomiadaonaaHandDigits
import Derived.Test.YtpmopomiadaonaaFixedIn
import Derived.Deep.LoopGhost
import Derived.RegionTactic
import Derived.Laws.IdiomStrings
namespace Go.Proofs.Ytpmopomiadaonaa.P
open Go.RowKit Go.Proofs.YtpmopomiadaonaaW.PrintWords Go.Proofs.YtpmopomiadaonaaW.PrintLast Go.Proofs.YtpmopomiadaonaaW.PrintMore
set_option linter.unusedVariables false
set_option linter.unusedSimpArgs false

/-- The places behind the point: the digits of rest / 2^16. -/
def places : Nat → Nat → List Nat
  | 0, _ => []
  | f + 1, rest => if rest = 0 then [] else (rest * 10 / 65536) :: places f (rest * 10 % 65536)

theorem one_C (w : World) (a : Int) (t : TypeId) : Kd.C (Kd.int .i64) (w.alloc (.cells #[.int .i64 a] t)) (some ⟨w.heap.size, 0, none⟩) [a].length [a] := by
  refine ⟨rfl, by simp, fun _ => ⟨⟨w.heap.size, 0, none⟩, rfl, fun j p hj => ?_⟩⟩
  match j, hj with
  | 0, hj =>
    cases hj
    refine ⟨[.int .i64 a], rfl, rfl, fun i u hu => ?_⟩
    match i, hu with
    | 0, hu =>
      cases hu
      show (w.alloc (.cells #[.int .i64 a] t)).cell? ⟨w.heap.size, 0, none⟩ = _
      rw [World.cell?_alloc_at _ _ _ _ rfl]; rfl
    | i + 1, hu => simp at hu
  | j + 1, hj => simp at hj

set_option maxHeartbeats 4000000 in
set_option maxRecDepth 100000 in
theorem text_bad (a : Int) (w : World) (h : fixed_in.f 5 [a] = some false) :
    Calls Try.prog 17 #[.int .i64 a] w fun e w' => e = .returned (.tuple #[.string ⟨#[]⟩, .int .i64 1]) ∧ Below w.heap.size w w' := by
  have H := Aside0.mk h
  clear h
  go_enter Try.func17, Try.ntmps17
  go_wp2_with (go_at_call 28; refine (fixed_in.calls 5 (some ⟨w.heap.size, 0, none⟩) 1 [a] false _ (one_C w a _) (by simp) H.out).mono ?_; rintro e w' ⟨rfl, ⟨nd, rfl⟩⟩)
  go_ret2
  exact ⟨rfl, pw_below_drewN (below_alloc (Below.refl _ _) _) _⟩

/-! good -/
/-- The array of the places that are known. -/
def arr (l : List Nat) : List Value := l.map (fun (d : Nat) => Value.int .u8 (48 + (d : Int))) ++ List.replicate (16 - l.length) (.int .u8 0)

theorem arr_set (l : List Nat) (d : Nat) (h : l.length < 16) : (arr l).set l.length (.int .u8 (48 + (d : Int))) = arr (l ++ [d]) := by
  unfold arr
  have e : 16 - l.length = (16 - (l.length + 1)) + 1 := by omega
  rw [e, List.replicate_succ, List.set_append_right _ _ (by simp)]
  simp

theorem arr_len (l : List Nat) (h : l.length ≤ 16) : (arr l).length = 16 := by unfold arr; simp; omega

/-- What is left of the places. -/
def left (n r : Nat) : Prop := ∃ q, r = q * 2 ^ n

theorem left_lt {n r : Nat} (h : left n r) (h0 : 0 < r) (h1 : r < 65536) : n < 16 := by
  obtain ⟨q, rfl⟩ := h
  by_cases c : n < 16
  · exact c
  · have h2 : 2 ^ 16 ≤ 2 ^ n := Nat.pow_le_pow_right (by omega) (by omega)
    have hq : 0 < q := Nat.pos_of_ne_zero (fun e => by subst e; simp at h0)
    have h3 : 1 * 2 ^ n ≤ q * 2 ^ n := Nat.mul_le_mul_right _ hq
    have h4 : (2 : Nat) ^ 16 = 65536 := by decide
    omega

theorem left_step {n r : Nat} (h : left n r) (hn : n < 16) : left (n + 1) (r * 10 % 65536) := by
  obtain ⟨q, rfl⟩ := h
  have e : (65536 : Nat) = 2 ^ (15 - n) * 2 ^ (n + 1) := by rw [← Nat.pow_add, show 15 - n + (n + 1) = 16 by omega]
  refine ⟨q * 5 % 2 ^ (15 - n), ?_⟩
  rw [e, ← Nat.mul_mod_mul_right]
  congr 1
  rw [Nat.pow_succ]
  try grind

theorem sl16 (W : World) (g n : Nat) (hn : n ≤ 16) : (Instr.sliceAt 36 (.pointer (some ⟨g, 0, none⟩)) none (some (.int .i64 n)) none).run Try.prog W = .ok (.slice (some ⟨g, 0, none⟩) n 16) W := by
  have hua : Try.prog.underlying 36 = some (.array (Try.prog.arrayLen 36) (Try.prog.elem 36)) := by kernel_rfl
  have hal : Try.prog.arrayLen 36 = 16 := by kernel_rfl
  have hel : Try.prog.elem 36 = 5 := by kernel_rfl
  rw [run_sliceAt_array_h W _ _ hua .i64 n (by omega) (by rw [hal]; omega), hal, hel]
  simp [slicedAt, Addr.add]

theorem new16 (w : World) (nd : Nat) (o : Obj) : (((w.alloc o).drewN nd).alloc (.cells (arr []).toArray 36)).heap[w.heap.size + 1]? = some (.cells (arr []).toArray 36 (0, 0)) := by
  have h := blk_new ((w.alloc o).drewN nd) (.cells (arr []).toArray 36)
  rwa [show ((w.alloc o).drewN nd).heap.size = w.heap.size + 1 by simp] at h

/-- The digits as bytes. -/
def asc (l : List Nat) : List UInt8 := l.map fun d => UInt8.ofNat (48 + d)

theorem places_le (f : Nat) : ∀ r, r < 65536 → ∀ d ∈ places f r, d ≤ 9 := by
  induction f with
  | zero => intro r hr d hd; simp [places] at hd
  | succ f ih =>
    intro r hr d hd
    unfold places at hd
    split at hd
    · simp at hd
    · rcases List.mem_cons.1 hd with rfl | hd
      · omega
      · exact ih _ (by omega) d hd

theorem places_len (f : Nat) : ∀ r, (places f r).length ≤ f := by
  induction f with
  | zero => intro r; simp [places]
  | succ f ih =>
    intro r
    unfold places
    split
    · simp
    · simpa using ih _

theorem places_nil (f r : Nat) (hf : 0 < f) : places f r = [] ↔ r = 0 := by
  cases f with
  | zero => omega
  | succ f =>
    unfold places
    split
    · simp [*]
    · simp [*]

theorem str16 (W : World) (g : Nat) (l : List Nat) (hl : l.length ≤ 16) (h9 : ∀ d ∈ l, d ≤ 9) (h : W.heap[g]? = some (.cells (arr l).toArray 36 (0, 0))) :
    (convert 38 9 (.slice (some ⟨g, 0, none⟩) l.length 16)).run Try.prog W = .ok (.string ⟨(asc l).toArray⟩) W := by
  have e : l.length = (asc l).length := by simp [asc]
  rw [e]
  refine run_convert_bytes_back W 38 9 5 ⟨g, 0, none⟩ 16 (asc l) Try.underlying38 Try.underlying5 Try.underlying9 (fun j hj => ?_)
  have hj' : j < l.length := by rw [e]; exact hj
  have h1 : (⟨g, 0, none⟩ : Addr).add j = ⟨g, j, none⟩ := by unfold Addr.add; split <;> simp_all
  rw [h1, blk_cell h]
  have h2 : l[j] ≤ 9 := h9 _ (List.getElem_mem _)
  have h3 : (asc l)[j] = UInt8.ofNat (48 + l[j]) := by simp [asc]
  rw [h3]
  have h4 : (UInt8.ofNat (48 + l[j])).toNat = 48 + l[j] := by simp; omega
  rw [h4]
  have h5 : (arr l)[j]? = some (.int .u8 (48 + (l[j] : Int))) := by unfold arr; rw [List.getElem?_append_left (by simpa using hj')]; simp [hj']
  rw [List.getElem?_toArray, h5]
  simp

/-- The text of the number m / 2^16 with a sign. -/
def textB (m : Nat) (sg : ByteArray) : ByteArray :=
  if m % 65536 = 0 then sg ++ dig 30 (m / 65536) else (sg ++ dig 30 (m / 65536)) ++ ((⟨#[46]⟩ : ByteArray) ++ (⟨(asc (places 16 (m % 65536))).toArray⟩ : ByteArray))

set_option maxHeartbeats 8000000 in
set_option maxRecDepth 100000 in
theorem text_pos (m : Nat) (w : World) (h : fixed_in.f 5 [(m : Int)] = some true) (hm : m ≤ 1099511627776) :
    Calls Try.prog 17 #[.int .i64 m] w fun e w' => e = .returned (.tuple #[.string (textB m ⟨#[]⟩), .int .i64 0]) ∧ Below w.heap.size w w' := by
  have H := Aside0.mk h
  clear h
  have c0 : decide ((m : Int) < 0) = false := decide_eq_false (by omega)
  have hq : Int.tdiv (m : Int) 65536 = ((m / 65536 : Nat) : Int) := by rw [Int.tdiv_eq_ediv_of_nonneg (by omega)]; omega
  have hr : (m : Int) % 65536 = ((m % 65536 : Nat) : Int) := by omega
  have hlt : m % 65536 < 65536 := by omega
  generalize hB : textB m ⟨#[]⟩ = TB
  unfold textB at hB
  generalize hr0 : m % 65536 = r0 at *
  have HTB := Aside0.mk hB
  clear hB hr0
  go_enter Try.func17, Try.ntmps17
  go_wp2_with (go_at_call 28; refine (fixed_in.calls 5 (some ⟨w.heap.size, 0, none⟩) 1 [(m : Int)] true _ (one_C w m _) (by simp) H.out).mono ?_; rintro e w' ⟨rfl, ⟨nd, rfl⟩⟩)
  go_loopg [6, 7] 16 (fun kx s6 s7 wr => ∃ (n r : Nat) (l : List Nat), s6 = .int .i64 n ∧ s7 = .int .i64 r ∧ n + kx = 16 ∧ r < 65536 ∧ l.length = n ∧ Aside0 (left n r) ∧ Aside0 (l ++ places (16 - n) r = places 16 r0) ∧ Aside0 (Below w.heap.size w wr)
    ∧ Aside0 (wr.heap[w.heap.size + 1]? = some (.cells (arr l).toArray 36 (0, 0))))
  case atStart => exact ⟨0, r0, [], rfl, by rw [hr], rfl, hlt, rfl, ⟨⟨r0, by simp⟩⟩, ⟨rfl⟩, ⟨below_alloc (pw_below_drewN (below_alloc (Below.refl _ _) _) _) _⟩, ⟨new16 w nd _⟩⟩
  case round =>
    obtain ⟨n, r, l, rfl, rfl, hnk, hrl, hln, HL, HP, HB, BK⟩ := hrel
    by_cases hr1 : 0 < r
    · have hn16 : n < 16 := left_lt HL.out hr1 hrl
      have hL2 := Aside0.mk (left_step HL.out hn16)
      have hpl : places (16 - n) r = (r * 10 / 65536) :: places (16 - (n + 1)) (r * 10 % 65536) := by rw [show 16 - n = 16 - (n + 1) + 1 by omega, places, if_neg (by omega)]
      have hP2 := HP.out
      rw [hpl] at hP2
      have hd1 : ((r : Int) * 10) / 65536 = ((r * 10 / 65536 : Nat) : Int) := by omega
      have hd2 : Int.tdiv ((r : Int) * 10) 65536 = ((r * 10 / 65536 : Nat) : Int) := by rw [Int.tdiv_eq_ediv_of_nonneg (by omega)]; omega
      have hm1 : ((r : Int) * 10) % 65536 = ((r * 10 % 65536 : Nat) : Int) := by omega
      have hm2 : Int.tmod ((r : Int) * 10) 65536 = ((r * 10 % 65536 : Nat) : Int) := by rw [Int.tmod_eq_emod_of_nonneg (by omega)]; omega
      have hdb : r * 10 / 65536 ≤ 9 := by omega
      have hmb : r * 10 % 65536 < 65536 := by omega
      generalize r * 10 / 65536 = d at *
      generalize r * 10 % 65536 = r' at *
      have hP3 := Aside0.mk (show (l ++ [d]) ++ places (16 - (n + 1)) r' = places 16 r0 by rw [List.append_assoc]; exact hP2)
      have hcl : (arr l).length = 16 := arr_len l (by omega)
      have hcell : wr.cell? ⟨w.heap.size + 1, n, none⟩ = some ((arr l)[n]'(by omega)) := by rw [blk_cell BK.out]; simp
      have hfro := blk_frozen BK.out n
      have c1 : decide (0 < (r : Int)) = true := decide_eq_true (by omega)
      clear hpl hP2 HP
      generalize (arr l)[n]'(by omega) = vold at hcell
      go_wp2
      go_roundg (16 - (n + 1))
      case measure => omega
      case rel =>
        refine ⟨n + 1, r', l ++ [d], by rw [show ((n + 1 : Nat) : Int) = (n : Int) + 1 by omega], rfl, by omega, hmb, by simp [hln], hL2, hP3, ⟨below_set HB.out (by omega)⟩, ⟨?_⟩⟩
        refine blk_put BK.out n _ ?_
        rw [← hln, ← arr_set l d (by omega)]
        simp
    · obtain rfl : r = 0 := by omega
      have hpl : l = places 16 r0 := by
        have := HP.out
        have e : places (16 - n) 0 = [] := by cases (16 - n) <;> rfl
        rw [e, List.append_nil] at this; exact this
      clear HP
      have HD := fun w => fixed_digits_walk 30 (m / 65536) w (by have : (10 : Nat) ^ 30 = 1000000000000000000000000000000 := by decide
                                                                 omega) (by omega) (by omega) (by omega)
      have hsz := dig_size 30 (m / 65536)
      have c1 : decide (0 < ((0 : Nat) : Int)) = false := rfl
      have h9 : ∀ d ∈ l, d ≤ 9 := by rw [hpl]; exact places_le 16 r0 hlt
      by_cases hn0 : n = 0
      · subst hn0
        have hr00 : r0 = 0 := (places_nil 16 r0 (by omega)).1 (by rw [← hpl]; exact List.eq_nil_of_length_eq_zero hln)
        have hTB := HTB.out
        rw [if_pos hr00] at hTB
        have HT2 := Aside0.mk hTB
        clear HTB hTB hpl h9 hln BK hr00
        go_wp2_with (go_at_call 32; refine (HD _).mono ?_; rintro e w' ⟨rfl, ⟨nd2, rfl⟩⟩)
        go_ret2
        rw [← HT2.out]
        exact ⟨rfl, pw_below_drewN HB.out _⟩
      · have hr00 : r0 ≠ 0 := fun e => by
          have := (places_nil 16 r0 (by omega)).2 e
          rw [this] at hpl
          subst hpl
          exact hn0 hln.symm
        have hTB := HTB.out
        rw [if_neg hr00, ← hpl] at hTB
        have HT2 := Aside0.mk hTB
        have hs16 := fun nd2 => str16 (wr.drewN nd2) (w.heap.size + 1) l (by omega) h9 BK.out
        rw [hln] at hs16
        have HS16 := Aside0.mk hs16
        have hasc : (⟨(asc l).toArray⟩ : ByteArray).size ≤ 16 := by simp [asc, ByteArray.size]; omega
        have ln1 : (⟨#[46]⟩ : ByteArray).size = 1 := rfl
        have ln2 : (⟨#[]⟩ : ByteArray).size ≤ 1 := by decide
        generalize hSG : (⟨#[]⟩ : ByteArray) = SG at *
        clear hTB HTB hpl hs16 h9 hr00
        have c2 : decide (0 < (n : Int)) = true := decide_eq_true (by omega)
        generalize (⟨(asc l).toArray⟩ : ByteArray) = AS at *
        go_wp2_with (go_at_call 32; refine (HD _).mono ?_; rintro e w' ⟨rfl, ⟨nd2, rfl⟩⟩)
        rw [sl16 _ _ n (by omega)]
        go_wp2
        rw [HS16.out]
        go_wp2
        go_ret2
        rw [← HT2.out]
        exact ⟨rfl, pw_below_drewN HB.out _⟩

set_option maxHeartbeats 8000000 in
set_option maxRecDepth 100000 in
theorem text_neg (m : Nat) (w : World) (h : fixed_in.f 5 [-(m : Int)] = some true) (hm : m ≤ 1099511627776) (hm0 : 0 < m) :
    Calls Try.prog 17 #[.int .i64 (-(m : Int))] w fun e w' => e = .returned (.tuple #[.string (textB m ⟨#[45]⟩), .int .i64 0]) ∧ Below w.heap.size w w' := by
  have H := Aside0.mk h
  clear h
  have c0 : decide (-(m : Int) < 0) = true := decide_eq_true (by omega)
  have hq : Int.tdiv (m : Int) 65536 = ((m / 65536 : Nat) : Int) := by rw [Int.tdiv_eq_ediv_of_nonneg (by omega)]; omega
  have hr : (m : Int) % 65536 = ((m % 65536 : Nat) : Int) := by omega
  have hlt : m % 65536 < 65536 := by omega
  generalize hB : textB m ⟨#[45]⟩ = TB
  unfold textB at hB
  generalize hr0 : m % 65536 = r0 at *
  have HTB := Aside0.mk hB
  clear hB hr0
  go_enter Try.func17, Try.ntmps17
  go_wp2_with (go_at_call 28; refine (fixed_in.calls 5 (some ⟨w.heap.size, 0, none⟩) 1 [-(m : Int)] true _ (one_C w (-(m : Int)) _) (by simp) H.out).mono ?_; rintro e w' ⟨rfl, ⟨nd, rfl⟩⟩)
  go_loopg [6, 7] 16 (fun kx s6 s7 wr => ∃ (n r : Nat) (l : List Nat), s6 = .int .i64 n ∧ s7 = .int .i64 r ∧ n + kx = 16 ∧ r < 65536 ∧ l.length = n ∧ Aside0 (left n r) ∧ Aside0 (l ++ places (16 - n) r = places 16 r0) ∧ Aside0 (Below w.heap.size w wr)
    ∧ Aside0 (wr.heap[w.heap.size + 1]? = some (.cells (arr l).toArray 36 (0, 0))))
  case atStart => exact ⟨0, r0, [], rfl, by rw [hr], rfl, hlt, rfl, ⟨⟨r0, by simp⟩⟩, ⟨rfl⟩, ⟨below_alloc (pw_below_drewN (below_alloc (Below.refl _ _) _) _) _⟩, ⟨new16 w nd _⟩⟩
  case round =>
    obtain ⟨n, r, l, rfl, rfl, hnk, hrl, hln, HL, HP, HB, BK⟩ := hrel
    by_cases hr1 : 0 < r
    · have hn16 : n < 16 := left_lt HL.out hr1 hrl
      have hL2 := Aside0.mk (left_step HL.out hn16)
      have hpl : places (16 - n) r = (r * 10 / 65536) :: places (16 - (n + 1)) (r * 10 % 65536) := by rw [show 16 - n = 16 - (n + 1) + 1 by omega, places, if_neg (by omega)]
      have hP2 := HP.out
      rw [hpl] at hP2
      have hd1 : ((r : Int) * 10) / 65536 = ((r * 10 / 65536 : Nat) : Int) := by omega
      have hd2 : Int.tdiv ((r : Int) * 10) 65536 = ((r * 10 / 65536 : Nat) : Int) := by rw [Int.tdiv_eq_ediv_of_nonneg (by omega)]; omega
      have hm1 : ((r : Int) * 10) % 65536 = ((r * 10 % 65536 : Nat) : Int) := by omega
      have hm2 : Int.tmod ((r : Int) * 10) 65536 = ((r * 10 % 65536 : Nat) : Int) := by rw [Int.tmod_eq_emod_of_nonneg (by omega)]; omega
      have hdb : r * 10 / 65536 ≤ 9 := by omega
      have hmb : r * 10 % 65536 < 65536 := by omega
      generalize r * 10 / 65536 = d at *
      generalize r * 10 % 65536 = r' at *
      have hP3 := Aside0.mk (show (l ++ [d]) ++ places (16 - (n + 1)) r' = places 16 r0 by rw [List.append_assoc]; exact hP2)
      have hcl : (arr l).length = 16 := arr_len l (by omega)
      have hcell : wr.cell? ⟨w.heap.size + 1, n, none⟩ = some ((arr l)[n]'(by omega)) := by rw [blk_cell BK.out]; simp
      have hfro := blk_frozen BK.out n
      have c1 : decide (0 < (r : Int)) = true := decide_eq_true (by omega)
      clear hpl hP2 HP
      generalize (arr l)[n]'(by omega) = vold at hcell
      go_wp2
      go_roundg (16 - (n + 1))
      case measure => omega
      case rel =>
        refine ⟨n + 1, r', l ++ [d], by rw [show ((n + 1 : Nat) : Int) = (n : Int) + 1 by omega], rfl, by omega, hmb, by simp [hln], hL2, hP3, ⟨below_set HB.out (by omega)⟩, ⟨?_⟩⟩
        refine blk_put BK.out n _ ?_
        rw [← hln, ← arr_set l d (by omega)]
        simp
    · obtain rfl : r = 0 := by omega
      have hpl : l = places 16 r0 := by
        have := HP.out
        have e : places (16 - n) 0 = [] := by cases (16 - n) <;> rfl
        rw [e, List.append_nil] at this; exact this
      clear HP
      have HD := fun w => fixed_digits_walk 30 (m / 65536) w (by have : (10 : Nat) ^ 30 = 1000000000000000000000000000000 := by decide
                                                                 omega) (by omega) (by omega) (by omega)
      have hsz := dig_size 30 (m / 65536)
      have c1 : decide (0 < ((0 : Nat) : Int)) = false := rfl
      have h9 : ∀ d ∈ l, d ≤ 9 := by rw [hpl]; exact places_le 16 r0 hlt
      by_cases hn0 : n = 0
      · subst hn0
        have hr00 : r0 = 0 := (places_nil 16 r0 (by omega)).1 (by rw [← hpl]; exact List.eq_nil_of_length_eq_zero hln)
        have hTB := HTB.out
        rw [if_pos hr00] at hTB
        have HT2 := Aside0.mk hTB
        clear HTB hTB hpl h9 hln BK hr00
        go_wp2_with (go_at_call 32; refine (HD _).mono ?_; rintro e w' ⟨rfl, ⟨nd2, rfl⟩⟩)
        go_ret2
        rw [← HT2.out]
        exact ⟨rfl, pw_below_drewN HB.out _⟩
      · have hr00 : r0 ≠ 0 := fun e => by
          have := (places_nil 16 r0 (by omega)).2 e
          rw [this] at hpl
          subst hpl
          exact hn0 hln.symm
        have hTB := HTB.out
        rw [if_neg hr00, ← hpl] at hTB
        have HT2 := Aside0.mk hTB
        have hs16 := fun nd2 => str16 (wr.drewN nd2) (w.heap.size + 1) l (by omega) h9 BK.out
        rw [hln] at hs16
        have HS16 := Aside0.mk hs16
        have hasc : (⟨(asc l).toArray⟩ : ByteArray).size ≤ 16 := by simp [asc, ByteArray.size]; omega
        have ln1 : (⟨#[46]⟩ : ByteArray).size = 1 := rfl
        have ln2 : (⟨#[45]⟩ : ByteArray).size ≤ 1 := by decide
        generalize hSG : (⟨#[45]⟩ : ByteArray) = SG at *
        clear hTB HTB hpl hs16 h9 hr00
        have c2 : decide (0 < (n : Int)) = true := decide_eq_true (by omega)
        generalize (⟨(asc l).toArray⟩ : ByteArray) = AS at *
        go_wp2_with (go_at_call 32; refine (HD _).mono ?_; rintro e w' ⟨rfl, ⟨nd2, rfl⟩⟩)
        rw [sl16 _ _ n (by omega)]
        go_wp2
        rw [HS16.out]
        go_wp2
        go_ret2
        rw [← HT2.out]
        exact ⟨rfl, pw_below_drewN HB.out _⟩


/-- What Text answers. -/
def fixed_Text.f (a : Int) : Option (ByteArray × Int) := some (if inF a = true then (textB a.natAbs (if a < 0 then ⟨#[45]⟩ else ⟨#[]⟩), 0) else (⟨#[]⟩, 1))

theorem fixed_Text.calls (a0 : Int) (r1 : ByteArray) (r2 : Int) (w : World) (h : fixed_Text.f a0 = some (r1, r2)) :
    Calls Try.prog 17 #[.int .i64 a0] w fun e w' => e = .returned (.tuple #[.string r1, .int .i64 r2]) ∧ Below w.heap.size w w' := by
  unfold fixed_Text.f at h
  injection h with h
  have hin := fixed_in_eq ([a0] : List Int) (by simp) 5 (by simp)
  simp only [List.all_cons, List.all_nil, Bool.and_true] at hin
  by_cases ha : inF a0 = true
  · rw [if_pos ha] at h
    rw [ha] at hin
    have hb := (inF_iff a0).1 ha
    by_cases hn : a0 < 0
    · rw [if_pos hn] at h
      obtain ⟨m, hm⟩ : ∃ m : Nat, a0 = -(m : Int) := ⟨a0.natAbs, by omega⟩
      subst hm
      have e : (-(m : Int)).natAbs = m := by omega
      rw [e] at h
      cases h
      exact text_neg m w hin (by omega) (by omega)
    · rw [if_neg hn] at h
      obtain ⟨m, hm⟩ : ∃ m : Nat, a0 = (m : Int) := ⟨a0.natAbs, by omega⟩
      subst hm
      have e : (m : Int).natAbs = m := by omega
      rw [e] at h
      cases h
      exact text_pos m w hin (by omega)
  · rw [if_neg ha] at h
    rw [Bool.not_eq_true] at ha
    rw [ha] at hin
    cases h
    exact text_bad a0 w hin
end Go.Proofs.Ytpmopomiadaonaa.P
