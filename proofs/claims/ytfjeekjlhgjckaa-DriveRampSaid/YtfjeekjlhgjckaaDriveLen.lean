/- Length, Speed, When and Window: what the package and the given references answer. -/
import Derived.Test.YtfjeekjlhgjckaaDriveRef
import Derived.Test.YtfjeekjlhgjckaaHandWhen
import Derived.Test.YtfjeekjlhgjckaaPx5
import Derived.Test.YtfjeekjlhgjckaaPx21
import Derived.Test.YtfjeekjlhgjckaaPx6
import Derived.Test.YtfjeekjlhgjckaaPx12
import Derived.Test.YtfjeekjlhgjckaaPx22
import Derived.Test.YtfjeekjlhgjckaaPx13
import Derived.Test.YtfjeekjlhgjckaaPx14
namespace Go.Proofs.Ytfjeekjlhgjckaa.P
open Go.RowKit Go.Proofs.YtfjeekjlhgjckaaW.PrintWords Go.Proofs.YtfjeekjlhgjckaaW.PrintLast Go.Proofs.YtfjeekjlhgjckaaW.PrintMore
set_option linter.unusedVariables false

def lenSpec (l : List Pace) (t : Int) : Int × Int :=
  if chkSpec l = 0 then (if t < 0 ∨ 2147483648 < t then (0, 1) else if 17179869184 < beforeZ l t then (0, 21) else (beforeZ l t, 0)) else (0, chkSpec l)

theorem dLength_eq (l : List Pace) (t : Int) (k : Nat) (hk : 1200 ≤ k) : drive_Length.f k l t = some (lenSpec l t) := by
  unfold drive_Length.f lenSpec
  rw [dCheck_eq l k (by omega)]
  simp only [Option.bind_some]
  obtain ⟨k, rfl⟩ : ∃ k', k = k' + 1 := ⟨k - 1, by omega⟩
  by_cases c : chkSpec l = 0
  · rw [if_pos c, if_pos c]
    obtain ⟨z1, z2, z3⟩ := chk_zero c
    by_cases c1 : t < 0
    · rw [if_pos c1, if_pos (.inl c1)]; rfl
    · rw [if_neg c1]
      unfold drive_Length.j0; dsimp only
      by_cases c2 : t > 2147483648
      · rw [if_pos (decide_eq_true c2), if_pos (.inr c2)]
      · rw [if_neg (by rw [decide_eq_false c2]; decide), if_neg (by omega), dbefore_eq l t z1 z2 (by omega) (by omega) k (by omega)]
        simp only [Option.bind_some]
        split <;> rfl
  · rw [if_neg c, if_neg c]

theorem rLength_eq (l : List Pace) (t : Int) (k : Nat) (hk : 1200 ≤ k) : papermillref29_Length.f k l t = some (lenSpec l t) := by
  unfold papermillref29_Length.f lenSpec
  rw [rCheck_eq l k (by omega)]
  simp only [Option.bind_some]
  obtain ⟨k, rfl⟩ : ∃ k', k = k' + 1 := ⟨k - 1, by omega⟩
  by_cases c : chkSpec l = 0
  · rw [if_pos c, if_pos c]
    obtain ⟨z1, z2, z3⟩ := chk_zero c
    by_cases c1 : t < 0
    · rw [if_pos c1, if_pos (.inl c1)]; rfl
    · rw [if_neg c1]
      unfold papermillref29_Length.j0; dsimp only
      by_cases c2 : t > 2147483648
      · rw [if_pos (decide_eq_true c2), if_pos (.inr c2)]
      · rw [if_neg (by rw [decide_eq_false c2]; decide), if_neg (by omega), rlength_eq l t z1 z2 (by omega) (by omega)]
        simp only [Option.bind_some]
        split <;> rfl
  · rw [if_neg c, if_neg c]

/-! ### Speed -/
def speedGo (t : Int) : Int → List Pace → Int
  | s, [] => s
  | s, p :: r => speedGo t (if p.f0 ≤ t then p.f1 else s) r

def speedSpec (l : List Pace) (t : Int) : Int × Int :=
  if chkSpec l = 0 then (if 0 ≤ t ∧ t ≤ 2147483647 then (speedGo t 0 l, 0) else (0, 1)) else (0, chkSpec l)

theorem dspeed_loop (l : List Pace) (t : Int) (hl : l.length ≤ 512) (k : Nat) : ∀ (d i : Nat) (s : Int), i + d = l.length → drive_Speed.l0 (k + d + 1) t s l l.length i = some (speedGo t s (l.drop i), 0) := by
  intro d
  induction d with
  | zero => intro i s hi; unfold drive_Speed.l0; rw [if_neg (by omega), List.drop_of_length_le (by omega)]; rfl
  | succ d ih =>
    intro i s hi
    unfold drive_Speed.l0
    rw [if_pos (by omega), if_pos (by omega), if_pos (by omega), dwrap (x := (i : Int) + 1) (by omega) (by omega), rd_at l i (by omega)]
    unfold speedGo
    have h := fun s => ih (i + 1) s (by omega)
    rw [show ((i + 1 : Nat) : Int) = (i : Int) + 1 by omega] at h
    by_cases c : (rd_T42 l (i : Int)).f0 ≤ t
    · rw [if_pos c, if_pos c]; exact h _
    · rw [if_neg c, if_neg c]; exact h _

theorem rspeed_loop (l : List Pace) (t : Int) (hl : l.length ≤ 512) (k : Nat) : ∀ (d i : Nat) (s : Int), i + d = l.length → papermillref29_Speed.l0 (k + d + 1) l t s i = some (speedGo t s (l.drop i), 0) := by
  intro d
  induction d with
  | zero => intro i s hi; unfold papermillref29_Speed.l0; rw [if_neg (by omega), List.drop_of_length_le (by omega)]; rfl
  | succ d ih =>
    intro i s hi
    unfold papermillref29_Speed.l0
    rw [if_pos (by omega), if_pos (by omega), dwrap (x := (i : Int) + 1) (by omega) (by omega), rd_at l i (by omega)]
    unfold speedGo
    have h := fun s => ih (i + 1) s (by omega)
    rw [show ((i + 1 : Nat) : Int) = (i : Int) + 1 by omega] at h
    by_cases c : (rd_T42 l (i : Int)).f0 ≤ t
    · rw [if_pos c, if_pos c]; exact h _
    · rw [if_neg c, if_neg c]; exact h _

theorem dSpeed_eq (l : List Pace) (t : Int) (k : Nat) (hk : 1200 ≤ k) : drive_Speed.f k l t = some (speedSpec l t) := by
  unfold drive_Speed.f speedSpec
  rw [dCheck_eq l k (by omega)]
  simp only [Option.bind_some]
  by_cases c : chkSpec l = 0
  · rw [if_pos c, if_pos c, dmoment_eq]
    obtain ⟨z1, z2, z3⟩ := chk_zero c
    simp only [Option.bind_some]
    by_cases c1 : 0 ≤ t ∧ t ≤ 2147483647
    · rw [if_pos (decide_eq_true c1), if_pos c1]
      obtain ⟨k', rfl⟩ : ∃ k', k = k' + l.length + 1 := ⟨k - (l.length + 1), by omega⟩
      have h := dspeed_loop l t z1 k' l.length 0 0 (by omega)
      rw [List.drop_zero] at h; exact h
    · rw [if_neg (by rw [decide_eq_false c1]; decide), if_neg c1]
  · rw [if_neg c, if_neg c]

theorem rSpeed_eq (l : List Pace) (t : Int) (k : Nat) (hk : 1200 ≤ k) : papermillref29_Speed.f k l t = some (speedSpec l t) := by
  unfold papermillref29_Speed.f speedSpec
  rw [rCheck_eq l k (by omega)]
  simp only [Option.bind_some]
  by_cases c : chkSpec l = 0
  · rw [if_pos c, if_pos c, rmoment_eq]
    obtain ⟨z1, z2, z3⟩ := chk_zero c
    simp only [Option.bind_some]
    by_cases c1 : 0 ≤ t ∧ t ≤ 2147483647
    · rw [if_pos (decide_eq_true c1), if_pos c1]
      obtain ⟨k', rfl⟩ : ∃ k', k = k' + l.length + 1 := ⟨k - (l.length + 1), by omega⟩
      have h := rspeed_loop l t z1 k' l.length 0 0 (by omega)
      rw [List.drop_zero] at h; exact h
    · rw [if_neg (by rw [decide_eq_false c1]; decide), if_neg c1]
  · rw [if_neg c, if_neg c]

/-! ### When -/
theorem bisect (l : List Pace) (x : Int) (z1 : l.length ≤ 512) (z2 : ∀ p ∈ l, okE p) (hx : x < beforeZ l 2147483648) (k : Nat) (hk : 600 ≤ k) :
    ∀ (f : Nat) (lo hi : Nat), lo ≤ whenAt l x → whenAt l x ≤ hi → hi ≤ 2147483647 → hi - lo < 2 ^ f → papermillref29_When.l0 (k + f + 1) l x lo hi = some (((whenAt l x : Nat) : Int), 0) := by
  intro f
  obtain ⟨w1, w2, w3⟩ := whenAt_spec l x
  induction f with
  | zero =>
    intro lo hi h1 h2 h3 h4
    unfold papermillref29_When.l0
    rw [if_neg (by simp at h4; omega), show lo = whenAt l x by simp at h4; omega]
  | succ f ih =>
    intro lo hi h1 h2 h3 h4
    unfold papermillref29_When.l0
    by_cases c : (lo : Int) < hi
    · have hd : Int.tdiv ((lo : Int) + hi) 2 = (((lo + hi) / 2 : Nat) : Int) := by rw [Int.tdiv_eq_ediv_of_nonneg (by omega)]; omega
      rw [if_pos c, dwrap (x := (lo : Int) + hi) (by omega) (by omega), hd, dwrap (x := (((lo + hi) / 2 : Nat) : Int)) (by omega) (by omega), dwrap (x := (((lo + hi) / 2 : Nat) : Int) + 1) (by omega) (by omega), rlength_eq l _ z1 z2 (by omega) (by omega)]
      simp only [Option.bind_some]
      rw [Nat.pow_succ] at h4
      by_cases d : beforeZ l ((((lo + hi) / 2 : Nat) : Int) + 1) > x
      · rw [if_pos d]
        refine ih lo ((lo + hi) / 2) h1 ?_ (by omega) (by omega)
        by_cases e : (lo + hi) / 2 < whenAt l x
        · have := w2 _ e; omega
        · omega
      · rw [if_neg d]
        have h5 : (lo + hi) / 2 + 1 ≤ whenAt l x := by
          by_cases e : whenAt l x ≤ (lo + hi) / 2
          · have g := w3 (by omega)
            have := before_mono l ((whenAt l x : Int) + 1) ((((lo + hi) / 2 : Nat) : Int) + 1) z2 (by omega)
            omega
          · omega
        exact ih ((lo + hi) / 2 + 1) hi h5 h2 h3 (by omega)
    · rw [if_neg c, show lo = whenAt l x by omega]

theorem when_none_iff (l : List Pace) (x : Int) (z2 : ∀ p ∈ l, okE p) : whenAt l x = 2147483648 ↔ beforeZ l 2147483648 ≤ x := by
  obtain ⟨w1, w2, w3⟩ := whenAt_spec l x
  constructor
  · intro h
    have := w2 2147483647 (by omega)
    exact this
  · intro h
    by_cases e : whenAt l x < 2147483648
    · have g := w3 e
      have := before_mono l ((whenAt l x : Int) + 1) 2147483648 z2 (by omega)
      omega
    · omega

theorem rWhen_eq (l : List Pace) (x : Int) (k : Nat) (hk : 1300 ≤ k) : papermillref29_When.f k l x = some (whenSpec l x) := by
  unfold papermillref29_When.f whenSpec
  rw [rCheck_eq l k (by omega)]
  simp only [Option.bind_some]
  by_cases c : chkSpec l = 0
  · rw [if_pos c, if_pos c]
    obtain ⟨z1, z2, z3⟩ := chk_zero c
    obtain ⟨k, rfl⟩ : ∃ k', k = k' + 32 + 1 + 1 := ⟨k - 34, by omega⟩
    by_cases c1 : x < 0
    · rw [if_pos c1, if_pos (.inl c1)]; rfl
    · rw [if_neg c1]
      unfold papermillref29_When.j0; dsimp only
      by_cases c2 : x ≥ 17179869184
      · rw [if_pos (decide_eq_true c2), if_pos (.inr c2)]
      · rw [if_neg (by rw [decide_eq_false c2]; decide), if_neg (by omega), rlength_eq l 2147483648 z1 z2 (by omega) (by omega)]
        simp only [Option.bind_some]
        by_cases c3 : beforeZ l 2147483648 ≤ x
        · rw [if_pos c3, if_pos ((when_none_iff l x z2).2 c3)]
        · have c4 : ¬ whenAt l x = 2147483648 := fun hh => c3 ((when_none_iff l x z2).1 hh)
          have w1 := (whenAt_spec l x).1
          rw [if_neg c3, if_neg c4]
          exact bisect l x z1 z2 (by omega) k (by omega) 32 0 2147483647 (by omega) (by omega) (by omega) (by decide)
  · rw [if_neg c, if_neg c]

/-! ### Window -/
def winSpec (l : List Pace) (fr tb : Int) : Int × Int × Int :=
  if chkSpec l = 0 then (if fr < 0 ∨ tb < fr ∨ 17179869184 < tb then (0, 0, 1) else if fr = tb then (0, 0, 0) else
    if (whenSpec l fr).2 = 0 ∧ (whenSpec l (tb - 1)).2 = 0 then ((whenSpec l fr).1, (whenSpec l (tb - 1)).1 + 1, 0) else (0, 0, 7)) else (0, 0, chkSpec l)

theorem when_two (l : List Pace) (x : Int) (c : chkSpec l = 0) (h0 : 0 ≤ x) (h1 : x < 17179869184) : (whenSpec l x = (0, 7) ∧ whenAt l x = 2147483648) ∨ (whenSpec l x = (((whenAt l x : Nat) : Int), 0) ∧ whenAt l x < 2147483648) := by
  have w1 := (whenAt_spec l x).1
  unfold whenSpec
  rw [if_pos c, if_neg (by omega)]
  by_cases d : whenAt l x = 2147483648
  · rw [if_pos d]; exact .inl ⟨rfl, d⟩
  · rw [if_neg d]; exact .inr ⟨rfl, by omega⟩

theorem dWindow_eq (l : List Pace) (fr tb : Int) (k : Nat) (hk : 1200 ≤ k) : drive_Window.f k l fr tb = some (winSpec l fr tb) := by
  unfold drive_Window.f winSpec
  rw [dCheck_eq l k (by omega)]
  simp only [Option.bind_some]
  by_cases c : chkSpec l = 0
  · rw [if_pos c, if_pos c]
    obtain ⟨k, rfl⟩ : ∃ k', k = k' + 1 := ⟨k - 1, by omega⟩
    have hj : ∀ b : Bool, (b = true ↔ (fr < 0 ∨ tb < fr ∨ 17179869184 < tb)) → drive_Window.j0 (k + 1) l b fr tb = some (if fr < 0 ∨ tb < fr ∨ 17179869184 < tb then (0, 0, 1) else if fr = tb then (0, 0, 0) else
    if (whenSpec l fr).2 = 0 ∧ (whenSpec l (tb - 1)).2 = 0 then ((whenSpec l fr).1, (whenSpec l (tb - 1)).1 + 1, 0) else (0, 0, 7)) := by
      intro b hb
      unfold drive_Window.j0; dsimp only
      by_cases d : fr < 0 ∨ tb < fr ∨ 17179869184 < tb
      · rw [if_pos (hb.2 d), if_pos d]
      · rw [if_neg (fun hh => d (hb.1 hh)), if_neg d]
        by_cases e : fr = tb
        · rw [if_pos e, if_pos e]
        · rw [if_neg e, if_neg e, dwrap (x := tb - 1) (by omega) (by omega)]
          unfold drive_When.f
          simp only [Option.bind_some]
          rcases when_two l fr c (by omega) (by omega) with ⟨e1, _⟩ | ⟨e1, _⟩ <;> rcases when_two l (tb - 1) c (by omega) (by omega) with ⟨e2, _⟩ | ⟨e2, h2⟩ <;> rw [e1, e2]
          · rfl
          · rfl
          · rfl
          · dsimp only
            rw [if_pos rfl, if_pos rfl, if_pos ⟨rfl, rfl⟩, dwrap (by omega) (by omega)]
    by_cases c1 : fr < 0
    · rw [if_pos c1]; exact hj true (by constructor <;> intro _ <;> first | rfl | exact .inl c1)
    · rw [if_neg c1]
      by_cases c2 : fr > tb
      · rw [if_pos c2]; exact hj true (by constructor <;> intro _ <;> first | rfl | exact .inr (.inl c2))
      · rw [if_neg c2]; exact hj _ (by rw [decide_eq_true_iff]; omega)
  · rw [if_neg c, if_neg c]

theorem rWindow_eq (l : List Pace) (fr tb : Int) (k : Nat) (hk : 1400 ≤ k) : papermillref29_Window.f k l fr tb = some (winSpec l fr tb) := by
  unfold papermillref29_Window.f winSpec
  rw [rCheck_eq l k (by omega)]
  simp only [Option.bind_some]
  by_cases c : chkSpec l = 0
  · rw [if_pos c, if_pos c]
    obtain ⟨k, rfl⟩ : ∃ k', k = k' + 1 := ⟨k - 1, by omega⟩
    have hj : ∀ b : Bool, (b = true ↔ (fr < 0 ∨ tb < fr ∨ 17179869184 < tb)) → papermillref29_Window.j0 (k + 1) l b fr tb = some (if fr < 0 ∨ tb < fr ∨ 17179869184 < tb then (0, 0, 1) else if fr = tb then (0, 0, 0) else
    if (whenSpec l fr).2 = 0 ∧ (whenSpec l (tb - 1)).2 = 0 then ((whenSpec l fr).1, (whenSpec l (tb - 1)).1 + 1, 0) else (0, 0, 7)) := by
      intro b hb
      unfold papermillref29_Window.j0; dsimp only
      by_cases d : fr < 0 ∨ tb < fr ∨ 17179869184 < tb
      · rw [if_pos (hb.2 d), if_pos d]
      · rw [if_neg (fun hh => d (hb.1 hh)), if_neg d]
        by_cases e : fr = tb
        · rw [if_pos e, if_pos e]
        · rw [if_neg e, if_neg e, dwrap (x := tb - 1) (by omega) (by omega), rWhen_eq _ _ _ (by omega), rWhen_eq _ _ _ (by omega)]
          simp only [Option.bind_some]
          rcases when_two l fr c (by omega) (by omega) with ⟨e1, _⟩ | ⟨e1, _⟩ <;> rcases when_two l (tb - 1) c (by omega) (by omega) with ⟨e2, _⟩ | ⟨e2, h2⟩ <;> rw [e1, e2]
          · rfl
          · rfl
          · rfl
          · dsimp only
            rw [if_pos rfl, if_pos rfl, if_pos ⟨rfl, rfl⟩, dwrap (by omega) (by omega)]
    by_cases c1 : fr < 0
    · rw [if_pos c1]; exact hj true (by constructor <;> intro _ <;> first | rfl | exact .inl c1)
    · rw [if_neg c1]
      by_cases c2 : fr > tb
      · rw [if_pos c2]; exact hj true (by constructor <;> intro _ <;> first | rfl | exact .inr (.inl c2))
      · rw [if_neg c2]; exact hj _ (by rw [decide_eq_true_iff]; omega)
  · rw [if_neg c, if_neg c]
end Go.Proofs.Ytfjeekjlhgjckaa.P
