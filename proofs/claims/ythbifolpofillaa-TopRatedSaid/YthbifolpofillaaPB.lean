/-
  Sheets of balls: how many fit, where they lead to; the loops over them.
-/
import Derived.Test.YthbifolpofillaaPA
set_option linter.all false
namespace Go.Proofs.Ythbifolpofillaa
open Go.Kp

theorem may_eq {l : Ref01Law} {s : S} (hi : Inv l s) (b : Int) : framePlayMay 2097152 (s.play l) b = some (decide (may l s b)) := by
  unfold framePlayMay framePlayDone
  simp only [within_eq, Option.bind_some]
  have := hi.f1
  show (Option.bind (if (!decide (s.f = l.fFrames)) = true then some (decide (-1 ≤ b ∧ b ≤ s.p)) else some false) fun v1 => some v1) = _
  unfold may
  by_cases h : s.f = l.fFrames
  · simp [h]
  · have : s.f < l.fFrames := by omega
    simp [h, this]

theorem fits_eq (l : Ref01Law) (s : S) (b : Int) : ref01Fits 2097152 l s.stand b = some (decide (may l s b)) := by
  unfold ref01Fits
  simp only [in_eq, Option.bind_some]
  show (Option.bind (if decide (s.f < l.fFrames) = true then some (decide (-1 ≤ b ∧ b ≤ s.p)) else some false) fun v1 => some v1) = _
  unfold may
  by_cases h : s.f < l.fFrames <;> simp [h]

/-- the balls of a sheet up to the first one that may not follow: how many -/
def good (l : Ref01Law) : S → List Int → Nat
  | _, [] => 0
  | s, b :: bs => if may l s b then good l (nxt l s b) bs + 1 else 0
/-- where a sheet leads to -/
def run (l : Ref01Law) : S → List Int → S
  | s, [] => s
  | s, b :: bs => run l (nxt l s b) bs
/-- do all balls fit? -/
def Ok (l : Ref01Law) : S → List Int → Prop
  | _, [] => True
  | s, b :: bs => may l s b ∧ Ok l (nxt l s b) bs
instance instOk (l : Ref01Law) : (s : S) → (bs : List Int) → Decidable (Ok l s bs)
  | _, [] => isTrue trivial
  | s, b :: bs => match inferInstanceAs (Decidable (may l s b)), instOk l (nxt l s b) bs with
    | isTrue h, isTrue k => isTrue ⟨h, k⟩
    | isFalse h, _ => isFalse fun x => h x.1
    | _, isFalse k => isFalse fun x => k x.2
/-- the balls as the document has them -/
def trace (l : Ref01Law) : S → List Int → List Ref01Ball
  | _, [] => []
  | s, b :: bs => ⟨s.f, cnt l s b⟩ :: trace l (nxt l s b) bs

theorem good_le (l : Ref01Law) : ∀ (s : S) (bs : List Int), good l s bs ≤ bs.length
  | _, [] => Nat.le_refl _
  | s, b :: bs => by
    unfold good
    split
    · have := good_le l (nxt l s b) bs; simp; omega
    · simp
theorem ok_good (l : Ref01Law) : ∀ (s : S) (bs : List Int), Ok l s bs ↔ good l s bs = bs.length
  | _, [] => by simp [Ok, good]
  | s, b :: bs => by
    unfold good Ok
    have := ok_good l (nxt l s b) bs
    split
    · rename_i h; simp [h, this]
    · rename_i h; simp [h]
theorem ok_take (l : Ref01Law) : ∀ (s : S) (bs : List Int), Ok l s (bs.take (good l s bs))
  | _, [] => trivial
  | s, b :: bs => by
    unfold good
    split
    · rename_i h; exact ⟨h, ok_take l (nxt l s b) bs⟩
    · trivial
theorem ok_app (l : Ref01Law) : ∀ (s : S) (xs ys : List Int), Ok l s (xs ++ ys) ↔ Ok l s xs ∧ Ok l (run l s xs) ys
  | _, [], ys => by simp [Ok, run]
  | s, x :: xs, ys => by
    show (may l s x ∧ Ok l (nxt l s x) (xs ++ ys)) ↔ (may l s x ∧ Ok l (nxt l s x) xs) ∧ Ok l (run l (nxt l s x) xs) ys
    rw [ok_app l (nxt l s x) xs ys, and_assoc]
theorem run_app (l : Ref01Law) : ∀ (s : S) (xs ys : List Int), run l s (xs ++ ys) = run l (run l s xs) ys
  | _, [], ys => rfl
  | s, x :: xs, ys => run_app l (nxt l s x) xs ys
theorem trace_app (l : Ref01Law) : ∀ (s : S) (xs ys : List Int), trace l s (xs ++ ys) = trace l s xs ++ trace l (run l s xs) ys
  | _, [], ys => rfl
  | s, x :: xs, ys => by show _ :: trace l (nxt l s x) (xs ++ ys) = _; rw [trace_app l (nxt l s x) xs ys]; rfl
theorem trace_length (l : Ref01Law) : ∀ (s : S) (xs : List Int), (trace l s xs).length = xs.length
  | _, [] => rfl
  | s, x :: xs => by show _ + 1 = _; rw [trace_length l (nxt l s x) xs]; rfl
theorem inv_run {l : Ref01Law} (hV : V l) : ∀ {s : S} {bs : List Int}, Inv l s → Ok l s bs → Inv l (run l s bs)
  | _, [], hi, _ => hi
  | s, b :: bs, hi, hk => by
    have := inv_run hV (s := nxt l s b) (bs := bs) (inv_nxt hV hi hk.1.1 hk.1.2.2) hk.2
    exact this

theorem idx_at {α : Type} {l : List α} {i : Nat} {x : α} (h : l[i]? = some x) : idx l (i : Int) = some x := by
  unfold idx; simp [h]

theorem drop_cons {α : Type} {l : List α} {i : Nat} (h : i < l.length) : ∃ x, l[i]? = some x ∧ l.drop i = x :: l.drop (i + 1) := by
  refine ⟨l[i], by simp [h], ?_⟩
  rw [List.drop_eq_getElem_cons h]

/-- What a loop computes, by a number that each round lowers; its states are told by an index. -/
theorem loopN_rel {σ R ι : Type} {b : (σ → Option R) → σ → Option R} (x : ι → σ) (f : ι → Option R) (μ : ι → Nat) (ok : ι → Prop)
    (h : ∀ i rec, ok i → (∀ j, ok j → μ j < μ i → rec (x j) = f j) → b rec (x i) = f i) : ∀ (n : Nat) (i : ι), ok i → μ i < n → loopN b n (x i) = f i := by
  intro n
  induction n with
  | zero => intro x _ hx; omega
  | succ n ih => intro x hx hn; exact h x _ hx fun y hy hlt => ih y hy (by omega)

/-- 'bad' -/
theorem lawBad_eq {l : Ref01Law} (hV : V l) (sheet : List Int) (hn : sheet.length ≤ 45) : frameLawBad 2097152 (fl l) sheet = some (good l (s0 l) sheet : Int) := by
  have key : loopN (fun rec3 x => frameLawBad_b1 2097152 sheet rec3 x.1 x.2.1 x.2.2.1 x.2.2.2) 2097152 ((sheet.length : Int), 0, (s0 l).play l, 0) = some (good l (s0 l) sheet : Int) := by
    have h := loopN_rel (ι := Nat × S) (b := fun rec3 x => frameLawBad_b1 2097152 sheet rec3 x.1 x.2.1 x.2.2.1 x.2.2.2) (fun i => ((sheet.length : Int), (i.1 : Int), i.2.play l, (i.1 : Int))) (fun i => some ((i.1 + good l i.2 (sheet.drop i.1) : Nat) : Int))
      (fun i => sheet.length - i.1) (fun i => i.1 ≤ sheet.length ∧ Inv l i.2) ?_ 2097152 (0, s0 l) ⟨Nat.zero_le _, inv0 hV⟩ (by simp; omega)
    · simpa using h
    · rintro ⟨i, s⟩ rec ⟨hi, hI⟩ ih
      simp only at hi hI ih ⊢
      unfold frameLawBad_b1
      by_cases hlt2 : i < sheet.length
      · obtain ⟨x, hx, hd⟩ := drop_cons hlt2
        rw [if_pos (by simpa using hlt2), idx_at hx]
        simp only [Option.bind_some, may_eq hI]
        rw [hd]
        by_cases hm : may l s x
        · simp only [hm, decide_true, Bool.not_true, Bool.false_eq_true, if_false]
          rw [next_eq hV hI hm.1 hm.2.2]
          simp only [Option.bind_some]
          rw [w64_id (by omega) (by omega)]
          have := ih (i + 1, nxt l s x) ⟨by omega, inv_nxt hV hI hm.1 hm.2.2⟩ (by simp only; omega)
          simp only at this
          rw [show ((i : Int) + 1) = ((i + 1 : Nat) : Int) by omega, this]
          simp only [good, hm, if_true]
          congr 2
          omega
        · simp [hm, good]
      · rw [if_neg (by simpa using hlt2), List.drop_eq_nil_of_le (by omega)]
        simp [good]
  unfold frameLawBad frameLawBalls frameLawBegin
  simp only [Option.bind_some]
  have e : (FramePlay.mk (fl l) (FrameAt.mk 0 0 (fl l).fPins true (fl l).fBalls (Ar2.mk 0 0))) = (s0 l).play l := rfl
  rw [e, key]
  rfl

theorem idx_oob {α : Type} {l : List α} {i : Nat} (h : l.length ≤ i) : idx l (i : Int) = none := by
  unfold idx; simp [h]
theorem app_ok {α : Type} {l m : List α} (h : l.length + m.length ≤ 2097152) : app 2097152 l m = some (l ++ m) := by
  unfold app; rw [if_pos h]

theorem list_eq {xs : List Int} (h : xs.length ≤ 2097152) : law01List 2097152 xs = some xs := by
  unfold law01List
  rw [app_ok (by simpa using h)]
  rfl

/-- the document's 'Play' -/
theorem play_eq {l : Ref01Law} (hV : V l) (sheet : List Int) (hn : sheet.length ≤ 90) :
    ref01Play 2097152 l sheet = some ((run l (s0 l) (sheet.take (good l (s0 l) sheet))).stand, trace l (s0 l) (sheet.take (good l (s0 l) sheet))) := by
  have key : loopN (fun rec3 x => ref01Play_b1 2097152 l sheet rec3 x.1 x.2.1 x.2.2) 2097152 (0, (s0 l).stand, []) =
      some ((run l (s0 l) (sheet.take (good l (s0 l) sheet))).stand, trace l (s0 l) (sheet.take (good l (s0 l) sheet))) := by
    have h := loopN_rel (ι := Nat × S × List Ref01Ball) (b := fun rec3 x => ref01Play_b1 2097152 l sheet rec3 x.1 x.2.1 x.2.2) (fun i => ((i.1 : Int), i.2.1.stand, i.2.2))
      (fun i => some ((run l i.2.1 ((sheet.drop i.1).take (good l i.2.1 (sheet.drop i.1)))).stand, i.2.2 ++ trace l i.2.1 ((sheet.drop i.1).take (good l i.2.1 (sheet.drop i.1)))))
      (fun i => sheet.length - i.1) (fun i => i.1 ≤ sheet.length ∧ Inv l i.2.1 ∧ i.2.2.length ≤ i.1) ?_ 2097152 (0, s0 l, []) ⟨Nat.zero_le _, inv0 hV, Nat.le_refl _⟩ (by simp; omega)
    · simpa using h
    · rintro ⟨i, s, o⟩ rec ⟨hi, hI, ho⟩ ih
      simp only at hi hI ho ih ⊢
      unfold ref01Play_b1
      by_cases hlt2 : i < sheet.length
      · obtain ⟨x, hx, hd⟩ := drop_cons hlt2
        rw [if_pos (by simpa using hlt2), idx_at hx]
        simp only [Option.bind_some, fits_eq]
        rw [hd]
        by_cases hm : may l s x
        · simp only [hm, decide_true, if_true]
          rw [throw_eq hV hI hm.1 hm.2.2]
          simp only [Option.bind_some]
          rw [w64_id (by omega) (by omega), app_ok (by simp; omega)]
          simp only [Option.bind_some]
          have := ih (i + 1, nxt l s x, o ++ [⟨s.f, cnt l s x⟩]) ⟨by omega, inv_nxt hV hI hm.1 hm.2.2, by simp; omega⟩ (by simp only; omega)
          simp only at this
          show rec ((i : Int) + 1, (nxt l s x).stand, o ++ [⟨s.f, cnt l s x⟩]) = _
          rw [show ((i : Int) + 1) = ((i + 1 : Nat) : Int) by omega, this]
          simp [good, hm, run, trace]
        · simp [hm, good, run, trace]
      · rw [if_neg (by simpa using hlt2), List.drop_eq_nil_of_le (by omega)]
        simp [good, run, trace]
  unfold ref01Play ref01Begin
  simp only [Option.bind_some]
  have e : (Ref01Stand.mk 0 0 l.fPins true l.fBalls) = (s0 l).stand := rfl
  rw [e, key]
  rfl

theorem take_all {l : Ref01Law} {s : S} {sheet : List Int} (h : Ok l s sheet) : sheet.take (good l s sheet) = sheet := by
  rw [(ok_good l s sheet).1 h, List.take_length]

theorem play_ok {l : Ref01Law} (hV : V l) {sheet : List Int} (hn : sheet.length ≤ 90) (h : Ok l (s0 l) sheet) : ref01Play 2097152 l sheet = some ((run l (s0 l) sheet).stand, trace l (s0 l) sheet) := by
  rw [play_eq hV sheet hn, take_all h]

theorem is_eq {l : Ref01Law} (hV : V l) (sheet : List Int) (hn : sheet.length ≤ 90) : ref01Is 2097152 l sheet = some (decide (Ok l (s0 l) sheet)) := by
  unfold ref01Is
  rw [play_eq hV sheet hn]
  simp only [Option.bind_some, trace_length, List.length_take]
  have h1 := good_le l (s0 l) sheet
  have h2 := ok_good l (s0 l) sheet
  rw [Nat.min_eq_left h1]
  congr 1
  rw [decide_eq_decide, h2]
  omega

/-- the error of a sheet -/
def flt (l : Ref01Law) (sheet : List Int) : Int := if ¬ V l then 1 else if 40 < sheet.length then 3 else if ¬ Ok l (s0 l) sheet then 10 else 0

theorem check_eq (l : Ref01Law) (sheet : List Int) (hn : sheet.length ≤ 45) : frameLawCheck 2097152 (fl l) sheet = some (flt l sheet) := by
  unfold frameLawCheck flt
  simp only [checkLaw_eq, Option.bind_some]
  by_cases hV : V l
  · simp only [hV, if_true, decide_true, Bool.not_true, Bool.false_eq_true, if_false, not_true]
    by_cases h : 40 < sheet.length
    · rw [if_pos (by simpa using (by omega : (40 : Int) < (sheet.length : Int)))]; simp [h]
    · have h' : ¬ (40 : Int) < sheet.length := by omega
      rw [lawBad_eq hV sheet hn]
      have h1 := good_le l (s0 l) sheet
      have h2 := ok_good l (s0 l) sheet
      by_cases hk : Ok l (s0 l) sheet
      · have := h2.1 hk
        simp [h, h', hk, this]
      · have : good l (s0 l) sheet < sheet.length := by
          have : good l (s0 l) sheet ≠ sheet.length := fun e => hk (h2.2 e)
          omega
        simp [h, h', hk, this]
  · simp [hV]

theorem flt_ok {l : Ref01Law} {sheet : List Int} : flt l sheet = 0 ↔ V l ∧ sheet.length ≤ 40 ∧ Ok l (s0 l) sheet := by
  unfold flt
  by_cases hV : V l <;> by_cases h : 40 < sheet.length <;> by_cases hk : Ok l (s0 l) sheet <;> simp [hV, h, hk] <;> omega
theorem flt_law {l : Ref01Law} {sheet : List Int} : flt l sheet = 10 ↔ V l ∧ sheet.length ≤ 40 ∧ ¬ Ok l (s0 l) sheet := by
  unfold flt
  by_cases hV : V l <;> by_cases h : 40 < sheet.length <;> by_cases hk : Ok l (s0 l) sheet <;> simp [hV, h, hk] <;> omega
theorem flt_cases (l : Ref01Law) (sheet : List Int) : flt l sheet = 0 ∨ flt l sheet = 1 ∨ flt l sheet = 3 ∨ flt l sheet = 10 := by
  unfold flt
  by_cases hV : V l <;> by_cases h : 40 < sheet.length <;> by_cases hk : Ok l (s0 l) sheet <;> simp [hV, h, hk]
end Go.Proofs.Ythbifolpofillaa
