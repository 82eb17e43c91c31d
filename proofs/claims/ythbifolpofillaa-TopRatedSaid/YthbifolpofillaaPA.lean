/-
  The game, by itself: states, steps, and that the program's and the document's steps are these.
-/
import Derived.Test.YthbifolpofillaaDef
set_option linter.all false
namespace Go.Proofs.Ythbifolpofillaa
open Go.Kp

theorem w64_id {n : Int} (h1 : -9223372036854775808 ≤ n) (h2 : n ≤ 9223372036854775807) : w64 n = n := by
  unfold w64 Go.IntKind.wrap
  simp only [Go.IntKind.bits, Go.IntKind.signed, Bool.true_and]
  split
  · rename_i h
    simp only [ge_iff_le, decide_eq_true_eq] at h
    omega
  · rename_i h
    simp only [ge_iff_le, decide_eq_true_eq] at h
    omega

theorem bind3p {α β γ R : Type} {x : Option (α × β × γ)} {a : α} {b : β} {c : γ} (F : α → β → γ → Option R) (hx : x = some (a, b, c)) : (Option.bind x fun (p, q, r) => F p q r) = F a b c := by subst hx; rfl
theorem bind2p {α β R : Type} {x : Option (α × β)} {a : α} {b : β} (F : α → β → Option R) (hx : x = some (a, b)) : (Option.bind x fun (p, q) => F p q) = F a b := by subst hx; rfl
theorem bind1p {α R : Type} {x : Option α} {a : α} (F : α → Option R) (hx : x = some a) : (Option.bind x fun p => F p) = F a := by subst hx; rfl

/-- a law that is valid -/
structure V (l : Ref01Law) : Prop where
  f1 : 1 ≤ l.fFrames
  f2 : l.fFrames ≤ 10
  p1 : 1 ≤ l.fPins
  p2 : l.fPins ≤ 10
  b1 : 2 ≤ l.fBalls
  b2 : l.fBalls ≤ 3
  t1 : 1 ≤ l.fTap
  t2 : l.fTap ≤ l.fPins

instance (l : Ref01Law) : Decidable (V l) := decidable_of_iff (1 ≤ l.fFrames ∧ l.fFrames ≤ 10 ∧ 1 ≤ l.fPins ∧ l.fPins ≤ 10 ∧ 2 ≤ l.fBalls ∧ l.fBalls ≤ 3 ∧ 1 ≤ l.fTap ∧ l.fTap ≤ l.fPins)
  ⟨fun ⟨a, b, c, d, e, f, g, h⟩ => ⟨a, b, c, d, e, f, g, h⟩, fun h => ⟨h.f1, h.f2, h.p1, h.p2, h.b1, h.b2, h.t1, h.t2⟩⟩

def fl (l : Ref01Law) : FrameLaw := ⟨l.fFrames, l.fPins, l.fBalls, l.fTap⟩

theorem law_eq (l : Ref01Law) : law01Law 2097152 l = some (fl l) := rfl

theorem within_eq (n a b : Int) : frameWithin 2097152 n a b = some (decide (a ≤ n ∧ n ≤ b)) := by
  unfold frameWithin
  by_cases h : a ≤ n <;> simp [h]
theorem in_eq (n a b : Int) : ref01In 2097152 n a b = some (decide (a ≤ n ∧ n ≤ b)) := by
  unfold ref01In
  by_cases h : a ≤ n <;> simp [h]

theorem isLaw_eq (l : Ref01Law) : ref01IsLaw 2097152 l = some (decide (V l)) := by
  unfold ref01IsLaw
  simp only [in_eq, Option.bind_some]
  by_cases h : V l
  · have := h.f1; have := h.f2; have := h.p1; have := h.p2; have := h.b1; have := h.b2; have := h.t1; have := h.t2
    simp [*]
  · have h2 : ¬ (1 ≤ l.fFrames ∧ l.fFrames ≤ 10 ∧ 1 ≤ l.fPins ∧ l.fPins ≤ 10 ∧ 2 ≤ l.fBalls ∧ l.fBalls ≤ 3 ∧ 1 ≤ l.fTap ∧ l.fTap ≤ l.fPins) := fun ⟨a, b, c, d, e, f, g, h'⟩ => h ⟨a, b, c, d, e, f, g, h'⟩
    simp only [h, decide_false]
    by_cases c1 : 1 ≤ l.fFrames ∧ l.fFrames ≤ 10 <;> by_cases c2 : 1 ≤ l.fPins ∧ l.fPins ≤ 10 <;> by_cases c3 : 2 ≤ l.fBalls ∧ l.fBalls ≤ 3 <;> by_cases c4 : 1 ≤ l.fTap ∧ l.fTap ≤ l.fPins <;> simp [c1, c2, c3, c4] <;> omega

theorem checkLaw_eq (l : Ref01Law) : frameCheckLaw 2097152 (fl l) = some (if V l then 0 else 1) := by
  unfold frameCheckLaw fl
  simp only [within_eq, Option.bind_some]
  by_cases h : V l
  · have := h.f1; have := h.f2; have := h.p1; have := h.p2; have := h.b1; have := h.b2; have := h.t1; have := h.t2
    simp [*]
  · have h2 : ¬ (1 ≤ l.fFrames ∧ l.fFrames ≤ 10 ∧ 1 ≤ l.fPins ∧ l.fPins ≤ 10 ∧ 2 ≤ l.fBalls ∧ l.fBalls ≤ 3 ∧ 1 ≤ l.fTap ∧ l.fTap ≤ l.fPins) := fun ⟨a, b, c, d, e, f, g, h'⟩ => h ⟨a, b, c, d, e, f, g, h'⟩
    simp only [h, if_false]
    by_cases c1 : 1 ≤ l.fFrames ∧ l.fFrames ≤ 10 <;> by_cases c2 : 1 ≤ l.fPins ∧ l.fPins ≤ 10 <;> by_cases c3 : 2 ≤ l.fBalls ∧ l.fBalls ≤ 3 <;> by_cases c4 : 1 ≤ l.fTap ∧ l.fTap ≤ l.fPins <;> simp [c1, c2, c3, c4] <;> omega

/-- where a game stands: frame, balls thrown, pins standing, all set, balls of the frame, by how many frames the next two balls are asked for -/
structure S where
  f : Int
  h : Int
  p : Int
  fr : Bool
  nd : Int
  a : Int
  c : Int
  deriving DecidableEq

def S.stand (s : S) : Ref01Stand := ⟨s.f, s.h, s.p, s.fr, s.nd⟩
def S.at (s : S) : FrameAt := ⟨s.f, s.h, s.p, s.fr, s.nd, ⟨s.a, s.c⟩⟩
def S.play (l : Ref01Law) (s : S) : FramePlay := ⟨fl l, s.at⟩

def s0 (l : Ref01Law) : S := ⟨0, 0, l.fPins, true, l.fBalls, 0, 0⟩

def cnt (l : Ref01Law) (s : S) (b : Int) : Int := if s.fr = true ∧ l.fTap ≤ max 0 b then l.fPins else max 0 b
def wor (l : Ref01Law) (s : S) (b : Int) : Int := cnt l s b * (1 + s.a)
def nxtn (l : Ref01Law) (s : S) (n : Int) : S :=
  if s.f = l.fFrames - 1 then
    if s.p = n ∧ s.h + 1 < 3 then ⟨s.f, s.h + 1, l.fPins, true, 3, s.c, 0⟩
    else if s.h + 1 = s.nd then ⟨s.f + 1, 0, l.fPins, true, l.fBalls, s.c, 0⟩
    else ⟨s.f, s.h + 1, s.p - n, false, s.nd, s.c, 0⟩
  else if s.p = n then ⟨s.f + 1, 0, l.fPins, true, l.fBalls, s.c + (if s.h + 1 ≤ 2 then 1 else 0), if s.h + 1 = 1 then 1 else 0⟩
  else if s.h + 1 = s.nd then ⟨s.f + 1, 0, l.fPins, true, l.fBalls, s.c, 0⟩
  else ⟨s.f, s.h + 1, s.p - n, false, s.nd, s.c, 0⟩
def nxt (l : Ref01Law) (s : S) (b : Int) : S := nxtn l s (cnt l s b)

structure Inv (l : Ref01Law) (s : S) : Prop where
  f0 : 0 ≤ s.f
  f1 : s.f ≤ l.fFrames
  h0 : 0 ≤ s.h
  hn : s.h < s.nd
  nd : s.nd = l.fBalls ∨ (s.nd = 3 ∧ s.f = l.fFrames - 1)
  p0 : 1 ≤ s.p
  p1 : s.p ≤ l.fPins
  fr : s.fr = true → s.p = l.fPins
  h00 : s.h = 0 → s.fr = true
  hfr : s.fr = true → s.h = 0 ∨ (s.f = l.fFrames - 1 ∧ s.nd = 3)
  a0 : 0 ≤ s.a
  a2 : s.a ≤ 2
  c0 : 0 ≤ s.c
  c1 : s.c ≤ 1
  dn : s.f = l.fFrames → s.h = 0

def may (l : Ref01Law) (s : S) (b : Int) : Prop := s.f < l.fFrames ∧ -1 ≤ b ∧ b ≤ s.p
instance (l : Ref01Law) (s : S) (b : Int) : Decidable (may l s b) := inferInstanceAs (Decidable (_ ∧ _))

theorem inv0 {l : Ref01Law} (h : V l) : Inv l (s0 l) := by
  have := h.f1; have := h.p1; have := h.b1
  constructor <;> simp [s0] <;> omega

theorem cnt_le {l : Ref01Law} {s : S} (hV : V l) (hi : Inv l s) {b : Int} (hb : b ≤ s.p) : 0 ≤ cnt l s b ∧ cnt l s b ≤ s.p := by
  have := hi.p0; have := hi.fr; have := hV.p1
  unfold cnt
  split
  · rename_i h; have := hi.fr h.1; omega
  · omega

theorem inv_nxtn {l : Ref01Law} {s : S} (hV : V l) (hi : Inv l s) (hf : s.f < l.fFrames) {n : Int} (h0 : 0 ≤ n) (h1 : n ≤ s.p) : Inv l (nxtn l s n) := by
  obtain ⟨f0, f1, h0', hn, nd, p0, p1, fr, h00, hfr, a0, a2, c0, c1, dn⟩ := hi
  obtain ⟨v1, v2, v3, v4, v5, v6, v7, v8⟩ := hV
  unfold nxtn
  split
  · split
    · constructor <;> simp <;> omega
    · split
      · constructor <;> simp <;> omega
      · constructor <;> simp <;> omega
  · split
    · constructor <;> simp <;> (try split) <;> (try split) <;> omega
    · split
      · constructor <;> simp <;> omega
      · constructor <;> simp <;> omega

theorem inv_nxt {l : Ref01Law} {s : S} (hV : V l) (hi : Inv l s) {b : Int} (hf : s.f < l.fFrames) (hb : b ≤ s.p) : Inv l (nxt l s b) :=
  inv_nxtn hV hi hf (cnt_le hV hi hb).1 (cnt_le hV hi hb).2

theorem mul_3 {n a : Int} (h0 : 0 ≤ n) (h1 : n ≤ 10) (h2 : 0 ≤ a) (h3 : a ≤ 2) : w64 (n * w64 (1 + a)) = n * (1 + a) := by
  rw [w64_id (n := 1 + a) (by omega) (by omega)]
  have : a = 0 ∨ a = 1 ∨ a = 2 := by omega
  rcases this with rfl | rfl | rfl <;> exact w64_id (by omega) (by omega)

theorem next_eq {l : Ref01Law} {s : S} (hV : V l) (hi : Inv l s) {b : Int} (hf : s.f < l.fFrames) (hb : b ≤ s.p) :
    framePlayNext 2097152 (s.play l) b = some ((nxt l s b).play l, cnt l s b, wor l s b) := by
  have hc := cnt_le hV hi hb
  unfold framePlayNext
  have e1 : (Option.bind (if (S.play l s).fAt.fFresh = true then some (max 0 b, decide ((S.play l s).fLaw.fTap ≤ max 0 b)) else some (max 0 b, false)) fun (v4, v5) => if v5 = true then some (S.play l s).fLaw.fPins else some v4) = some (cnt l s b) := by
    show (Option.bind (if s.fr = true then some (max 0 b, decide (l.fTap ≤ max 0 b)) else some (max 0 b, false)) fun (v4, v5) => if v5 = true then some l.fPins else some v4) = some (cnt l s b)
    unfold cnt
    by_cases h1 : s.fr = true
    · by_cases h2 : l.fTap ≤ max 0 b <;> simp [h1, h2]
    · simp [h1]
  rw [e1]
  unfold nxt wor
  generalize cnt l s b = n at hc ⊢
  clear e1
  obtain ⟨f0, f1, h0', hn, nd, p0, p1, fr, h00, hfr, a0, a2, c0, c1, dn⟩ := hi
  obtain ⟨v1, v2, v3, v4, v5, v6, v7, v8⟩ := hV
  obtain ⟨f, h, p, fr', nd', a, c⟩ := s
  simp only at *
  simp only [Option.bind_some, S.play, S.at, fl]
  have e2 := mul_3 hc.1 (by omega) a0 a2
  have e3 := w64_id (n := l.fFrames - 1) (by omega) (by omega)
  have e4 := w64_id (n := p - n) (by omega) (by omega)
  have e5 := w64_id (n := h + 1) (by omega) (by omega)
  have e6 := w64_id (n := c + 1) (by omega) (by omega)
  have e7 := w64_id (n := f + 1) (by omega) (by omega)
  have e8 : w64 (0 + 1) = 1 := by decide
  have e0 : w64 1 = 1 := by decide
  have e9 := w64_id (n := l.fFrames) (by omega) (by omega)
  simp only [e2, e3, e4, e5]
  unfold nxtn
  have hh : h = 0 ∨ h = 1 ∨ h = 2 := by omega
  have hnd3 : nd' = 2 ∨ nd' = 3 := by omega
  by_cases hl : f = l.fFrames - 1
  · by_cases hd : p = n
    · have hd' : p - n = 0 := by omega
      rcases hh with rfl | rfl | rfl
      · simp [hl, hd, e7]
      · simp [hl, hd, e7]
      · have : nd' = 3 := by omega
        subst this
        simp [hl, hd, e9]
    · have hd' : ¬ p - n = 0 := by omega
      by_cases hq : h + 1 = nd'
      · simp [hl, hd, hd', e9, hq]
      · simp [hl, hd, hd', e9, hq]
  · by_cases hd : p = n
    · have hd' : p - n = 0 := by omega
      have : ¬ f = l.fFrames - 1 := hl
      rcases hh with rfl | rfl | rfl
      · simp [hl, hd, e7, e6, e8, e0]
      · simp [hl, hd, e7, e6, e8, e0]
      · simp [hl, hd, e7, e6, e8, e0]
    · have hd' : ¬ p - n = 0 := by omega
      by_cases hq : h + 1 = nd'
      · simp [hl, hd, hd', e7, hq]
      · simp [hl, hd, hd', e7, hq]

theorem throw_eq {l : Ref01Law} {s : S} (hV : V l) (hi : Inv l s) {b : Int} (hf : s.f < l.fFrames) (hb : b ≤ s.p) :
    ref01Throw 2097152 l s.stand b = some ((nxt l s b).stand, cnt l s b) := by
  have hc := cnt_le hV hi hb
  unfold ref01Throw
  have e1 : (Option.bind (if decide (b < 0) = true then some 0 else some b) fun v1 => Option.bind (Option.bind (if s.stand.fSet = true then some (decide (l.fTap ≤ v1)) else some false) fun v4 => if v4 = true then some l.fPins else some v1) fun v3 => some v3) = some (cnt l s b) := by
    have hm : (if decide (b < 0) = true then some (0 : Int) else some b) = some (max 0 b) := by
      by_cases h : b < 0
      · have : max 0 b = 0 := by omega
        simp [h, this]
      · have : max 0 b = b := by omega
        simp [h, this]
    rw [hm]
    show (Option.bind (some (max 0 b)) fun v1 => Option.bind (Option.bind (if s.fr = true then some (decide (l.fTap ≤ v1)) else some false) fun v4 => if v4 = true then some l.fPins else some v1) fun v3 => some v3) = some (cnt l s b)
    unfold cnt
    by_cases h1 : s.fr = true
    · by_cases h2 : l.fTap ≤ max 0 b <;> simp [h1, h2]
    · simp [h1]
  obtain ⟨v1, q1, q2⟩ := obind e1
  obtain ⟨v3, q3, q4⟩ := obind q2
  cases q4
  rw [q1]
  simp only [Option.bind_some]
  rw [q3]
  unfold nxt
  generalize cnt l s b = n at hc ⊢
  clear e1 q1 q2 q3
  obtain ⟨f0, f1, h0', hn, nd, p0, p1, fr, h00, hfr, a0, a2, c0, c1, dn⟩ := hi
  obtain ⟨v1, v2, v3, v4, v5, v6, v7, v8⟩ := hV
  obtain ⟨f, h, p, fr', nd', a, c⟩ := s
  simp only at *
  simp only [Option.bind_some, S.stand]
  have e3 := w64_id (n := l.fFrames - 1) (by omega) (by omega)
  have e4 := w64_id (n := p - n) (by omega) (by omega)
  have e5 := w64_id (n := h + 1) (by omega) (by omega)
  have e7 := w64_id (n := f + 1) (by omega) (by omega)
  have e9 := w64_id (n := l.fFrames) (by omega) (by omega)
  simp only [e3, e4, e5, e7]
  unfold nxtn
  have hh : h = 0 ∨ h = 1 ∨ h = 2 := by omega
  by_cases hl : f = l.fFrames - 1
  · have hl' : ¬ f < l.fFrames - 1 := by omega
    by_cases hd : p = n
    · have hd' : p - n = 0 := by omega
      rcases hh with rfl | rfl | rfl
      · simp [hl, hd]
      · simp [hl, hd]
      · have : nd' = 3 := by omega
        subst this
        simp [hl, hd]
    · have hd' : ¬ p - n = 0 := by omega
      by_cases hq : h + 1 = nd'
      · simp [hl, hd, hd', hq]
      · simp [hl, hd, hd', hq]
  · have hl' : f < l.fFrames - 1 := by omega
    have : nd' = l.fBalls := by omega
    subst this
    by_cases hd : p = n
    · have hd' : p - n = 0 := by omega
      simp [hl, hl', hd]
    · have hd' : ¬ p - n = 0 := by omega
      by_cases hq : h + 1 = l.fBalls
      · simp [hl, hl', hd, hd', hq]
      · simp [hl, hl', hd, hd', hq]

theorem nxtn_ac {l : Ref01Law} {s : S} {n : Int} (hh : s.h = 0 ∨ s.h = 1 ∨ s.h = 2) :
    (nxtn l s n).a = s.c + (if s.f ≠ l.fFrames - 1 ∧ s.p = n ∧ s.h + 1 ≤ 2 then 1 else 0) ∧ (nxtn l s n).c = if s.f ≠ l.fFrames - 1 ∧ s.p = n ∧ s.h + 1 = 1 then 1 else 0 := by
  unfold nxtn
  by_cases hl : s.f = l.fFrames - 1
  · simp only [hl, ne_eq, not_true, false_and, if_false, if_true]
    split
    · simp
    · split <;> simp
  · by_cases hd : s.p = n
    · simp [hl, hd]
    · simp only [hl, hd, if_false, false_and, and_false]
      split <;> simp

end Go.Proofs.Ythbifolpofillaa
