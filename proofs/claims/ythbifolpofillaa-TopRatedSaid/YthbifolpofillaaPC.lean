/-
  What a sheet comes to, ball by ball: counts, ends of frames, what is asked for besides, the worth of all balls.
-/
import Derived.Test.YthbifolpofillaaPB
set_option linter.all false
namespace Go.Proofs.Ythbifolpofillaa
open Go.Kp

def sm : List Int → Int
  | [] => 0
  | x :: xs => x + sm xs
theorem sm_app : ∀ (xs ys : List Int), sm (xs ++ ys) = sm xs + sm ys
  | [], ys => by simp [sm]
  | x :: xs, ys => by simp [sm, sm_app xs ys]; omega
theorem sm_bd {B : Int} (hB : 0 ≤ B) : ∀ (xs : List Int), (∀ x ∈ xs, 0 ≤ x ∧ x ≤ B) → 0 ≤ sm xs ∧ sm xs ≤ B * xs.length
  | [], _ => by simp [sm]
  | x :: xs, h => by
    have h1 := h x (by simp)
    have h2 := sm_bd hB xs fun y hy => h y (by simp [hy])
    simp only [sm, List.length_cons]
    have : B * ((xs.length + 1 : Nat) : Int) = B * xs.length + B := by rw [Int.natCast_add, Int.mul_add]; simp
    omega

/-- 'sum' of numbers that are not great -/
theorem sum_eq (xs : List Int) (hn : xs.length ≤ 500) (hb : ∀ x ∈ xs, -1000000 ≤ x ∧ x ≤ 1000000) : frameSum 2097152 xs = some (sm xs) := by
  have bd : ∀ (ys : List Int), (∀ x ∈ ys, -1000000 ≤ x ∧ x ≤ 1000000) → -1000000 * (ys.length : Int) ≤ sm ys ∧ sm ys ≤ 1000000 * (ys.length : Int) := by
    intro ys
    induction ys with
    | nil => intro _; simp [sm]
    | cons y ys ih =>
      intro h
      have h1 := h y (by simp)
      have h2 := ih fun z hz => h z (by simp [hz])
      simp only [sm, List.length_cons]
      omega
  have key : loopN (fun rec3 x => frameSum_b1 2097152 xs rec3 x.1 x.2.1 x.2.2) 2097152 (0, (xs.length : Int), 0) = some (sm xs) := by
    have h := loopN_rel (ι := Nat) (b := fun rec3 x => frameSum_b1 2097152 xs rec3 x.1 x.2.1 x.2.2) (fun i => (sm (xs.take i), (xs.length : Int), (i : Int)))
      (fun i => some (sm xs)) (fun i => xs.length - i) (fun i => i ≤ xs.length) ?_ 2097152 0 (Nat.zero_le _) (by omega)
    · simpa [sm] using h
    · intro i rec hi ih
      simp only at hi ih ⊢
      unfold frameSum_b1
      by_cases hlt : i < xs.length
      · have hx : xs[i]? = some xs[i] := by simp [hlt]
        rw [if_pos (by simpa using hlt), idx_at hx]
        simp only [Option.bind_some]
        have e : sm (xs.take (i + 1)) = sm (xs.take i) + xs[i] := by rw [List.take_succ_eq_append_getElem hlt, sm_app]; simp [sm]
        have b := bd (xs.take (i + 1)) fun z hz => hb z (List.mem_of_mem_take hz)
        have : (xs.take (i + 1)).length ≤ 500 := by simp; omega
        rw [w64_id (by omega) (by omega), w64_id (by omega) (by omega)]
        have := ih (i + 1) (by omega) (by omega)
        rw [e] at this
        rw [show ((i : Int) + 1) = ((i + 1 : Nat) : Int) by omega, this]
      · have : i = xs.length := by omega
        subst this
        rw [if_neg (by simp), List.take_length]
  unfold frameSum
  rw [key]
  rfl

/-- by how many balls the frame that this ball ends is asked for besides -/
def bon (l : Ref01Law) (s : S) (n : Int) : Nat := if s.f ≠ l.fFrames - 1 ∧ s.p = n then (if s.h = 0 then 2 else if s.h = 1 then 1 else 0) else 0

structure A where
  s : S
  cs : List Int
  E : List (Nat × Nat)
  tr : List Ref01Ball
  tot : Int

def stepA (l : Ref01Law) (A0 : A) (b : Int) : A :=
  ⟨nxt l A0.s b, A0.cs ++ [cnt l A0.s b], A0.E ++ (if A0.s.f < (nxt l A0.s b).f then [(A0.cs.length + 1, bon l A0.s (cnt l A0.s b))] else []), A0.tr ++ [⟨A0.s.f, cnt l A0.s b⟩], A0.tot + wor l A0.s b⟩
def acc0 (l : Ref01Law) : A := ⟨s0 l, [], [], [], 0⟩
def acc (l : Ref01Law) (bs : List Int) : A := bs.foldl (stepA l) (acc0 l)
theorem acc_snoc (l : Ref01Law) (bs : List Int) (b : Int) : acc l (bs ++ [b]) = stepA l (acc l bs) b := by simp [acc]

theorem foldl_s (l : Ref01Law) : ∀ (bs : List Int) (A0 : A), (bs.foldl (stepA l) A0).s = run l A0.s bs
  | [], _ => rfl
  | b :: bs, A0 => foldl_s l bs (stepA l A0 b)
theorem foldl_tr (l : Ref01Law) : ∀ (bs : List Int) (A0 : A), (bs.foldl (stepA l) A0).tr = A0.tr ++ trace l A0.s bs
  | [], A0 => by simp [trace]
  | b :: bs, A0 => by
    show ((bs.foldl (stepA l) (stepA l A0 b))).tr = _
    rw [foldl_tr l bs (stepA l A0 b)]
    simp [stepA, trace]
theorem acc_s (l : Ref01Law) (bs : List Int) : (acc l bs).s = run l (s0 l) bs := foldl_s l bs (acc0 l)
theorem acc_tr (l : Ref01Law) (bs : List Int) : (acc l bs).tr = trace l (s0 l) bs := by rw [acc, foldl_tr]; simp [acc0]

/-- what a frame asks for besides, as far as it is known -/
def bsum (cs : List Int) (p : Nat × Nat) : Int := sm ((cs.take (p.1 + p.2)).drop p.1)
def lastE (E : List (Nat × Nat)) : Nat := match E.getLast? with | some p => p.1 | none => 0

/-- the document's search of a frame's balls -/
def upd (k : Int) (i : Nat) (a : Int × Int × Int) (x : Ref01Ball) : Int × Int × Int := if x.fFrame = k then (a.1 + x.fCount, a.2.1 + 1, (i : Int)) else a
def scan (k : Int) : Nat → Int × Int × Int → List Ref01Ball → Int × Int × Int
  | _, a, [] => a
  | i, a, x :: xs => scan k (i + 1) (upd k i a x) xs
theorem scan_snoc (k : Int) : ∀ (xs : List Ref01Ball) (i : Nat) (a : Int × Int × Int) (x : Ref01Ball), scan k i a (xs ++ [x]) = upd k (i + xs.length) (scan k i a xs) x
  | [], i, a, x => by simp [scan]
  | y :: ys, i, a, x => by
    show scan k (i + 1) (upd k i a y) (ys ++ [x]) = _
    rw [scan_snoc k ys]
    simp only [scan, List.length_cons]
    congr 1
    omega

/-- what the document says that a frame asks for besides -/
def more (l : Ref01Law) (k : Int) (own balls : Int) : Int := if k < l.fFrames - 1 ∧ own = l.fPins ∧ balls = 2 then 1 else if k < l.fFrames - 1 ∧ own = l.fPins ∧ balls = 1 then 2 else 0

def starts (E : List (Nat × Nat)) (k : Nat) : Nat := lastE (E.take k)

structure AInv (l : Ref01Law) (a : A) : Prop where
  inv : Inv l a.s
  fE : (a.E.length : Int) = a.s.f
  bd : ∀ x ∈ a.cs, 0 ≤ x ∧ x ≤ 10
  ent : ∀ p ∈ a.E, 1 ≤ p.1 ∧ p.1 ≤ a.cs.length ∧ p.2 ≤ 2
  one : a.s.a = (a.E.countP fun p => decide (a.cs.length < p.1 + p.2) : Nat)
  two : a.s.c = (a.E.countP fun p => decide (a.cs.length + 1 < p.1 + p.2) : Nat)
  tot : a.tot = sm a.cs + sm (a.E.map (bsum a.cs))
  len : (a.cs.length : Int) = lastE a.E + a.s.h
  own : a.s.f < l.fFrames - 1 → sm (a.cs.drop (lastE a.E)) = l.fPins - a.s.p
  trl : a.tr.length = a.cs.length
  trc : a.tr.map (·.fCount) = a.cs
  trf : ∀ x ∈ a.tr, 0 ≤ x.fFrame ∧ x.fFrame ≤ a.s.f
  sc : ∀ (k : Nat) p, a.E[k]? = some p → ∃ own balls, scan k 0 (0, 0, 0) a.tr = (own, balls, (p.1 : Int) - 1) ∧ own = sm ((a.cs.take p.1).drop (starts a.E k)) ∧ more l k own balls = p.2 ∧ starts a.E k < p.1 ∧ 1 ≤ balls ∧ balls ≤ 3
  so : scan a.E.length 0 (0, 0, 0) a.tr = (sm (a.cs.drop (lastE a.E)), a.s.h, if a.s.h = 0 then 0 else (a.cs.length : Int) - 1)
  sz : ∀ k : Int, a.s.f < k → scan k 0 (0, 0, 0) a.tr = (0, 0, 0)
  l1 : a.s.f = l.fFrames - 1 → 1 ≤ a.s.h → a.s.c = 0
  l2 : a.s.f = l.fFrames - 1 → 2 ≤ a.s.h → a.s.a = 0
  l3 : a.s.f = l.fFrames → a.s.a = 0 ∧ a.s.c = 0

theorem ainv0 {l : Ref01Law} (hV : V l) : AInv l (acc0 l) := by
  have := hV.f1
  refine ⟨inv0 hV, ?_, ?_, ?_, ?_, ?_, ?_, ?_, ?_, ?_, ?_, ?_, ?_, ?_, ?_, ?_, ?_, ?_⟩ <;> simp [acc0, s0, sm, lastE, scan] 

theorem bsum_snoc {cs : List Int} {p : Nat × Nat} (h : p.1 ≤ cs.length) (c : Int) : bsum (cs ++ [c]) p = bsum cs p + if cs.length < p.1 + p.2 then c else 0 := by
  unfold bsum
  by_cases h2 : cs.length < p.1 + p.2
  · rw [if_pos h2, List.take_of_length_le (by simp; omega), List.take_of_length_le (by omega), List.drop_append_of_le_length h, sm_app]
    simp [sm]
  · rw [if_neg h2, List.take_append_of_le_length (by omega)]
    omega

theorem bsums_snoc (cs : List Int) (c : Int) : ∀ (E : List (Nat × Nat)), (∀ p ∈ E, p.1 ≤ cs.length) → sm (E.map (bsum (cs ++ [c]))) = sm (E.map (bsum cs)) + c * (E.countP fun p => decide (cs.length < p.1 + p.2) : Nat)
  | [], _ => by simp [sm]
  | p :: E, h => by
    have ih := bsums_snoc cs c E fun q hq => h q (by simp [hq])
    simp only [List.map_cons, sm, ih, bsum_snoc (h p (by simp))]
    by_cases h2 : cs.length < p.1 + p.2
    · rw [List.countP_cons_of_pos (by simpa using h2), if_pos h2, Int.natCast_add, Int.mul_add]
      simp; omega
    · rw [List.countP_cons_of_neg (by simpa using h2), if_neg h2]
      omega

theorem lastE_snoc (E : List (Nat × Nat)) (p : Nat × Nat) : lastE (E ++ [p]) = p.1 := by simp [lastE]
theorem lastE_le {cs : List Int} : ∀ {E : List (Nat × Nat)}, (∀ p ∈ E, 1 ≤ p.1 ∧ p.1 ≤ cs.length ∧ p.2 ≤ 2) → lastE E ≤ cs.length := by
  intro E h
  unfold lastE
  split
  · rename_i p hp; exact (h p (List.mem_of_getLast? hp)).2.1
  · omega

theorem countP_none {α : Type} {p : α → Bool} {l : List α} (h : ∀ x ∈ l, p x = false) : l.countP p = 0 := by
  rw [List.countP_eq_zero]
  intro x hx; simp [h x hx]

/-- What a step does to a frame's number and its balls. -/
theorem nxtn_f {l : Ref01Law} {s : S} (hV : V l) (hi : Inv l s) (hf : s.f < l.fFrames) {n : Int} (h0 : 0 ≤ n) (h1 : n ≤ s.p) :
    (s.f < (nxtn l s n).f → (nxtn l s n).f = s.f + 1 ∧ (nxtn l s n).h = 0 ∧ (nxtn l s n).p = l.fPins) ∧
    (¬ s.f < (nxtn l s n).f → (nxtn l s n).f = s.f ∧ (nxtn l s n).h = s.h + 1 ∧ (s.f < l.fFrames - 1 → (nxtn l s n).p = s.p - n ∧ s.p ≠ n) ∧ s.h + 1 < (nxtn l s n).nd) ∧
    (s.f < (nxtn l s n).f → s.f < l.fFrames - 1 → s.p = n ∨ (s.p ≠ n ∧ s.h + 1 = s.nd)) := by
  obtain ⟨f0, f1, h0', hn, nd, p0, p1, fr, h00, hfr, a0, a2, c0, c1, dn⟩ := hi
  obtain ⟨v1, v2, v3, v4, v5, v6, v7, v8⟩ := hV
  unfold nxtn
  split
  · split
    · simp; omega
    · split
      · simp; omega
      · simp; omega
  · split
    · simp; omega
    · split
      · simp; omega
      · simp; omega
end Go.Proofs.Ythbifolpofillaa
