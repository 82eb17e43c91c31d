/-
  The sheets that count: by the program's map, by the document.
-/
import Derived.Test.YtmencjafjcmbaaaPA
set_option linter.all false
namespace Go.Proofs.Ytmencjafjcmbaaa
open Go.Kp

/-- the sheets of a bowler in a week that are not withdrawn -/
def C (b : Ref07Book) (k w : Int) (s : Ref07Sheet) : Prop := s ∈ b.fSheets ∧ s.fBowler = k ∧ s.fWeek = w ∧ s.fNumber ∉ b.fWithdrawn
/-- the one with the greatest number -/
def IsB (P : Ref07Sheet → Prop) : Option Ref07Sheet → Prop
  | none => ∀ s, ¬ P s
  | some s => P s ∧ ∀ t, P t → t.fNumber ≤ s.fNumber
theorem IsB.unique {P : Ref07Sheet → Prop} (hP : ∀ s t, P s → P t → s.fNumber = t.fNumber → s = t) : ∀ {a a' : Option Ref07Sheet}, IsB P a → IsB P a' → a = a'
  | none, none, _, _ => rfl
  | none, some s, h, h' => absurd h'.1 (h s)
  | some s, none, h, h' => absurd h.1 (h' s)
  | some s, some t, h, h' => by
    have h1 := h.2 t h'.1
    have h2 := h'.2 s h.1
    rw [hP s t h.1 h'.1 (by omega)]
theorem IsB.congr {P P' : Ref07Sheet → Prop} (h : ∀ s, P s ↔ P' s) {a : Option Ref07Sheet} (ha : IsB P a) : IsB P' a := by
  cases a with
  | none => exact fun s hs => ha s ((h s).2 hs)
  | some t => exact ⟨(h t).1 ha.1, fun s hs => ha.2 s ((h s).2 hs)⟩

def newer (o : Option Int) (n : Int) : Bool := match o with | none => true | some t => decide (t < n)
def stepO (wd : List Int) (k w : Int) (a : Option Ref07Sheet) (s : Ref07Sheet) : Option Ref07Sheet :=
  if decide (s.fBowler = k) && decide (s.fWeek = w) && (!decide (s.fNumber ∈ wd) && newer (a.map (·.fNumber)) s.fNumber) then some s else a
def of (b : Ref07Book) (k w : Int) : Option Ref07Sheet := b.fSheets.foldl (stepO b.fWithdrawn k w) none

theorem fold_isB (wd : List Int) (k w : Int) : ∀ (l pre : List Ref07Sheet) (a : Option Ref07Sheet), IsB (fun s => s ∈ pre ∧ s.fBowler = k ∧ s.fWeek = w ∧ s.fNumber ∉ wd) a →
    IsB (fun s => s ∈ pre ++ l ∧ s.fBowler = k ∧ s.fWeek = w ∧ s.fNumber ∉ wd) (l.foldl (stepO wd k w) a)
  | [], pre, a, h => by simpa using h
  | x :: l, pre, a, h => by
    rw [List.foldl_cons, show pre ++ x :: l = (pre ++ [x]) ++ l by simp]
    refine fold_isB wd k w l (pre ++ [x]) _ ?_
    unfold stepO
    by_cases hc : x.fBowler = k ∧ x.fWeek = w ∧ x.fNumber ∉ wd
    · obtain ⟨h1, h2, h3⟩ := hc
      simp only [h1, h2, h3, decide_true, decide_false, Bool.not_false, Bool.and_self, Bool.true_and]
      cases a with
      | none =>
        simp only [newer, Option.map_none, if_true]
        refine ⟨⟨by simp, h1, h2, h3⟩, fun t ht => ?_⟩
        rcases List.mem_append.1 ht.1 with q | q
        · exact absurd ⟨q, ht.2⟩ (h t)
        · rw [List.mem_singleton.1 q]; exact Int.le_refl _
      | some s =>
        simp only [newer, Option.map_some, decide_eq_true_eq]
        by_cases hlt : s.fNumber < x.fNumber
        · rw [if_pos hlt]
          refine ⟨⟨by simp, h1, h2, h3⟩, fun t ht => ?_⟩
          rcases List.mem_append.1 ht.1 with q | q
          · have := h.2 t ⟨q, ht.2⟩; omega
          · rw [List.mem_singleton.1 q]; exact Int.le_refl _
        · rw [if_neg hlt]
          refine ⟨⟨by simp [h.1.1], h.1.2⟩, fun t ht => ?_⟩
          rcases List.mem_append.1 ht.1 with q | q
          · exact h.2 t ⟨q, ht.2⟩
          · rw [List.mem_singleton.1 q]; omega
    · have e : (decide (x.fBowler = k) && decide (x.fWeek = w) && (!decide (x.fNumber ∈ wd) && newer (a.map (·.fNumber)) x.fNumber)) = false := by
        rw [← Bool.not_eq_true]
        intro hh
        simp only [Bool.and_eq_true, decide_eq_true_eq, Bool.not_eq_true', decide_eq_false_iff_not] at hh
        exact hc ⟨hh.1.1, hh.1.2, hh.2.1⟩
      rw [e]
      simp only [Bool.false_eq_true, if_false]
      refine h.congr fun s => ?_
      simp only [List.mem_append, List.mem_singleton]
      constructor
      · rintro ⟨q, r⟩; exact ⟨.inl q, r⟩
      · rintro ⟨q | q, r⟩
        · exact ⟨q, r⟩
        · exact absurd (q ▸ r) hc

theorem of_isB (b : Ref07Book) (k w : Int) : IsB (C b k w) (of b k w) := by
  have := fold_isB b.fWithdrawn k w b.fSheets [] none (fun s h => by simp at h)
  exact this.congr fun s => by simp [C]
theorem C_once {b : Ref07Book} (h : Once b.fSheets) {k w : Int} (s t : Ref07Sheet) (hs : C b k w s) (ht : C b k w t) (e : s.fNumber = t.fNumber) : s = t := h s hs.1 t ht.1 e
theorem of_eq {b : Ref07Book} (h : Once b.fSheets) {k w : Int} {a : Option Ref07Sheet} (ha : IsB (C b k w) a) : of b k w = a := (of_isB b k w).unique (C_once h) ha

/-! The program's map. -/
def turn (s : Ref07Sheet) : RateTurn := ⟨s.fBowler, s.fWeek⟩
def stepM (wd : List Int) (m : List (RateTurn × RateSheet)) (s : Ref07Sheet) : List (RateTurn × RateSheet) :=
  if !decide (s.fNumber ∈ wd) && newer ((mget m (turn s)).map (·.fNumber)) s.fNumber then mput m (turn s) (cs s) else m
def mapOf (b : Ref07Book) : List (RateTurn × RateSheet) := b.fSheets.foldl (stepM b.fWithdrawn) []

theorem fold_map (wd : List Int) (k w : Int) : ∀ (l : List Ref07Sheet) (m : List (RateTurn × RateSheet)) (a : Option Ref07Sheet), mget m ⟨k, w⟩ = a.map cs →
    mget (l.foldl (stepM wd) m) ⟨k, w⟩ = (l.foldl (stepO wd k w) a).map cs
  | [], m, a, h => h
  | x :: l, m, a, h => by
    rw [List.foldl_cons, List.foldl_cons]
    refine fold_map wd k w l _ _ ?_
    unfold stepM stepO
    by_cases hk : x.fBowler = k ∧ x.fWeek = w
    · obtain ⟨h1, h2⟩ := hk
      have ht : turn x = ⟨k, w⟩ := by unfold turn; rw [h1, h2]
      have e : (mget m ⟨k, w⟩).map (·.fNumber) = a.map (·.fNumber) := by rw [h]; cases a <;> rfl
      rw [ht, e]
      simp only [h1, h2, decide_true, Bool.true_and]
      by_cases hc : (!decide (x.fNumber ∈ wd) && newer (a.map (·.fNumber)) x.fNumber) = true
      · rw [if_pos hc, if_pos (by simpa using hc), mget_mput, if_pos rfl]; rfl
      · rw [if_neg hc, if_neg (by simpa using hc), h]
    · have e2 : (decide (x.fBowler = k) && decide (x.fWeek = w) && (!decide (x.fNumber ∈ wd) && newer (a.map (·.fNumber)) x.fNumber)) = false := by
        rw [← Bool.not_eq_true]
        intro hh
        simp only [Bool.and_eq_true, decide_eq_true_eq] at hh
        exact hk hh.1
      rw [e2]
      simp only [Bool.false_eq_true, if_false]
      split
      · rw [mget_mput, if_neg (fun e => hk (by simp only [turn, RateTurn.mk.injEq] at e; exact ⟨e.1.symm, e.2.symm⟩)), h]
      · exact h
theorem map_of (b : Ref07Book) (k w : Int) : mget (mapOf b) ⟨k, w⟩ = (of b k w).map cs := fold_map _ k w _ [] none rfl
theorem map_nodup (b : Ref07Book) : ((mapOf b).map (·.1)).Nodup := by
  have : ∀ (l : List Ref07Sheet) (m : List (RateTurn × RateSheet)), (m.map (·.1)).Nodup → ((l.foldl (stepM b.fWithdrawn) m).map (·.1)).Nodup := by
    intro l
    induction l with
    | nil => intro m h; exact h
    | cons x l ih =>
      intro m h
      rw [List.foldl_cons]
      refine ih _ ?_
      unfold stepM
      split
      · exact mput_nodup h _ _
      · exact h
  exact this _ [] (by simp)

/-- a sheet counts -/
def counts (b : Ref07Book) (s : Ref07Sheet) : Bool :=
  !decide (s.fNumber ∈ b.fWithdrawn) && !b.fSheets.any (fun t => decide (t.fBowler = s.fBowler) && (decide (t.fWeek = s.fWeek) && (decide (s.fNumber < t.fNumber) && !decide (t.fNumber ∈ b.fWithdrawn))))
theorem counts_iff {b : Ref07Book} (h : Once b.fSheets) {s : Ref07Sheet} (hs : s ∈ b.fSheets) : counts b s = true ↔ of b s.fBowler s.fWeek = some s := by
  have hB := of_isB b s.fBowler s.fWeek
  simp only [counts, Bool.and_eq_true, Bool.not_eq_true', decide_eq_false_iff_not, List.any_eq_false, decide_eq_true_eq, not_and, Decidable.not_not]
  constructor
  · rintro ⟨h1, h2⟩
    refine of_eq h ⟨⟨hs, rfl, rfl, h1⟩, fun t ht => ?_⟩
    rcases Int.lt_or_le s.fNumber t.fNumber with q | q
    · exact absurd (h2 t ht.1 ht.2.1 ht.2.2.1 q) ht.2.2.2
    · exact q
  · intro e
    rw [e] at hB
    refine ⟨hB.1.2.2.2, fun t ht h1 h2 h3 => ?_⟩
    by_cases hw : t.fNumber ∈ b.fWithdrawn
    · exact hw
    · have := hB.2 t ⟨ht, h1, h2, hw⟩; omega

section
variable {N : Nat} (hN : 4000 ≤ N)
include hN

theorem contains_w (l : List Int) (n : Int) (h : l.length ≤ 1000) : slicesContains N l n = some (decide (n ∈ l)) := by
  unfold slicesContains slicesIndex
  exact contains_eq l n (by omega) (by omega)
theorem has_eq (l : List Int) (n : Int) (h : l.length ≤ 1000) : ref07Has N l n = some (decide (n ∈ l)) := by
  unfold ref07Has
  exact has_shape l n (by omega) (by omega)

theorem readM (b : Ref07Book) (h1 : b.fSheets.length ≤ 1000) (h2 : b.fWithdrawn.length ≤ 1000) :
    loopN (fun rec3 x => rateBookRead_b1 N (cb b) rec3 x.1 x.2.1 x.2.2) N (((cb b).fSheets.length : Int), 0, []) = some (mapOf b) := by
  have := loop_list (N := N) (B := fun rec3 x => rateBookRead_b1 N (cb b) rec3 x.1 x.2.1 x.2.2) b.fSheets (fun i (m : List (RateTurn × RateSheet)) => (((cb b).fSheets.length : Int), (i : Int), m)) (fun r m => some (r.foldl (stepM b.fWithdrawn) m)) (fun _ _ => True)
    (fun m rec _ => by
      show rateBookRead_b1 N (cb b) rec _ _ m = _
      simp [rateBookRead_b1, cb])
    (fun i x m rec hx _ h => by
      have hlt := len_lt hx
      show rateBookRead_b1 N (cb b) rec _ (i : Int) m = _
      unfold rateBookRead_b1
      have hx' : (cb b).fSheets[i]? = some (cs x) := by simp [cb, hx]
      have hl : (cb b).fSheets.length = b.fSheets.length := by simp [cb]
      have hw : (cb b).fWithdrawn = b.fWithdrawn := rfl
      simp only [show ((i : Int) < ((cb b).fSheets.length : Int)) from by omega, decide_true, if_true, idx_at hx', Option.bind_some, hw, contains_w hN _ _ h2, mgt]
      rw [List.foldl_cons, ← h _ trivial, w64_succ (i := i) (by omega)]
      unfold stepM
      have ht : (⟨(cs x).fBowler, (cs x).fWeek⟩ : RateTurn) = turn x := rfl
      have hn : (cs x).fNumber = x.fNumber := rfl
      rw [ht, hn]
      cases hg : mget m (turn x) with
      | none =>
        by_cases hm : x.fNumber ∈ b.fWithdrawn <;> simp [hm, newer]
      | some t =>
        by_cases hm : x.fNumber ∈ b.fWithdrawn
        · simp [hm, newer]
        · by_cases hlt2 : t.fNumber < x.fNumber <;> simp [hm, newer, hlt2]) (by omega) [] trivial
  exact this

theorem read_eq (b : Ref07Book) : rateBookRead N (cb b) = some (if flt b = 0 then .inr (0, b.fLaw.fBase, b.fLaw.fPercent, b.fLaw.fCap, b.fLaw.fLeast, b.fLaw.fBlind, b.fBowlers, b.fSheets.map cs, b.fWithdrawn, mapOf b) else .inl (flt b)) := by
  unfold rateBookRead
  rw [check_eq hN]
  simp only [Option.bind_some]
  by_cases h : flt b = 0
  · have v := flt_zero.1 h
    have h1 := v.ns
    have h2 := v.nw
    rw [readM hN b (by omega) (by omega)]
    simp [h, cb, cl]
  · simp [h]

theorem rcounts_eq (b : Ref07Book) (s : Ref07Sheet) (h1 : b.fSheets.length ≤ 1000) (h2 : b.fWithdrawn.length ≤ 1000) : ref07Counts N b s = some (counts b s) := by
  unfold ref07Counts counts
  rw [has_eq hN _ _ h2]
  simp only [Option.bind_some]
  have := loop_list0 (N := N) (B := fun rec3 x => ref07Counts_b2 N b s rec3 x) b.fSheets (fun i => (i : Int))
    (fun r => some (!r.any (fun t => decide (t.fBowler = s.fBowler) && (decide (t.fWeek = s.fWeek) && (decide (s.fNumber < t.fNumber) && !decide (t.fNumber ∈ b.fWithdrawn))))))
    (fun rec => by
      show ref07Counts_b2 N b s rec _ = _
      simp [ref07Counts_b2, ref07Counts_k1])
    (fun i x rec hx h => by
      have hlt := len_lt hx
      show ref07Counts_b2 N b s rec (i : Int) = _
      unfold ref07Counts_b2
      simp only [show ((i : Int) < (b.fSheets.length : Int)) from by omega, decide_true, if_true, idx_at hx, Option.bind_some, w64_succ (i := i) (by omega), h, has_eq hN _ _ h2, List.any_cons]
      by_cases q1 : x.fBowler = s.fBowler <;> by_cases q2 : x.fWeek = s.fWeek <;> by_cases q3 : s.fNumber < x.fNumber <;> by_cases q4 : x.fNumber ∈ b.fWithdrawn <;> simp [q1, q2, q3, q4]) (by omega)
  have this' : loopN (fun rec3 x => ref07Counts_b2 N b s rec3 x) N 0 = _ := this
  rw [this']
  by_cases hm : s.fNumber ∈ b.fWithdrawn <;> simp [hm]

def gms (o : Option Ref07Sheet) : Ar3 Int × Bool := match o with | some s => (s.fGames, true) | none => (⟨0, 0, 0⟩, false)

theorem rof_eq {b : Ref07Book} (v : Val b) (k w : Int) : ref07Of N b k w = some (gms (of b k w)) := by
  have h1 := v.ns
  have h2 := v.nw
  unfold ref07Of
  have := loop_list0 (N := N) (B := fun rec3 x => ref07Of_b2 N b k w rec3 x) b.fSheets (fun i => (i : Int))
    (fun r => some (gms (r.find? (fun s => decide (s.fBowler = k) && (decide (s.fWeek = w) && counts b s)))))
    (fun rec => by
      show ref07Of_b2 N b k w rec _ = _
      simp [ref07Of_b2, ref07Of_k1, gms])
    (fun i x rec hx h => by
      have hlt := len_lt hx
      show ref07Of_b2 N b k w rec (i : Int) = _
      unfold ref07Of_b2
      simp only [show ((i : Int) < (b.fSheets.length : Int)) from by omega, decide_true, if_true, idx_at hx, Option.bind_some, w64_succ (i := i) (by omega), h, rcounts_eq hN b _ (by omega) (by omega), List.find?_cons]
      by_cases q1 : x.fBowler = k <;> by_cases q2 : x.fWeek = w <;> by_cases q3 : counts b x = true <;> simp [q1, q2, q3, gms]) (by omega)
  refine Eq.trans this ?_
  congr 2
  cases hf : b.fSheets.find? (fun s => decide (s.fBowler = k) && (decide (s.fWeek = w) && counts b s)) with
  | some s =>
    have hm := List.mem_of_find?_eq_some hf
    have hp := List.find?_some hf
    simp only [Bool.and_eq_true, decide_eq_true_eq] at hp
    obtain ⟨e1, e2, e3⟩ := hp
    have := (counts_iff v.once hm).1 e3
    rw [e1, e2] at this
    exact this.symm
  | none =>
    have hno := List.find?_eq_none.1 hf
    cases ho : of b k w with
    | none => rfl
    | some s =>
      have hB := of_isB b k w
      rw [ho] at hB
      obtain ⟨m1, m2, m3, m4⟩ := hB.1
      have := hno s m1
      rw [← m2, ← m3] at ho
      simp [m2, m3, (counts_iff v.once m1).2 ho] at this

/-! Which sheets count. -/
def nums : List Int := (List.range 999).map fun (i : Nat) => (i : Int) + 1
def isC (b : Ref07Book) (n : Int) : Bool := b.fSheets.any fun s => decide (s.fNumber = n) && counts b s
def cnt (b : Ref07Book) : List Int := nums.filter (isC b)

omit hN in
theorem nums_len : nums.length = 999 := by unfold nums; rw [List.length_map, List.length_range]
omit hN in
theorem nums_pw : nums.Pairwise (· < ·) := by
  unfold nums
  rw [List.pairwise_map]
  exact (List.pairwise_lt_range (n := 999)).imp fun h => by omega
omit hN in
theorem mem_nums {n : Int} : n ∈ nums ↔ 1 ≤ n ∧ n ≤ 999 := by
  unfold nums
  rw [List.mem_map]
  constructor
  · rintro ⟨i, hi, rfl⟩
    have := List.mem_range.1 hi; omega
  · rintro ⟨h1, h2⟩
    exact ⟨(n - 1).toNat, List.mem_range.2 (by omega), by omega⟩

theorem rcounting_one {b : Ref07Book} (v : Val b) (n : Int) : loopN (fun rec79 x => ref07Counting_b1 N b n rec79 x.1 x.2) N (false, 0) = some (isC b n) := by
  have h1 := v.ns
  have h2 := v.nw
  have := loop_list (N := N) (B := fun rec79 x => ref07Counting_b1 N b n rec79 x.1 x.2) b.fSheets (fun i (a : Bool) => (a, (i : Int))) (fun r a => some (a || r.any fun s => decide (s.fNumber = n) && counts b s)) (fun _ _ => True)
    (fun a rec _ => by
      show ref07Counting_b1 N b n rec a _ = _
      simp [ref07Counting_b1])
    (fun i x a rec hx _ h => by
      have hlt := len_lt hx
      show ref07Counting_b1 N b n rec a (i : Int) = _
      unfold ref07Counting_b1
      simp only [show ((i : Int) < (b.fSheets.length : Int)) from by omega, decide_true, if_true, idx_at hx, Option.bind_some, w64_succ (i := i) (by omega), rcounts_eq hN b _ (by omega) (by omega)]
      cases a with
      | true =>
        simp only [if_true, Option.bind_some]
        rw [h true trivial]
        simp
      | false =>
        by_cases q1 : x.fNumber = n
        · simp only [q1, decide_true, if_true, Bool.false_eq_true, if_false, Option.bind_some]
          rw [h _ trivial]
          simp [q1]
        · simp only [q1, decide_false, Bool.false_eq_true, if_false, Option.bind_some]
          rw [h _ trivial]
          simp [q1]) (by omega) false trivial
  simpa [isC] using this

theorem rcounting_eq {b : Ref07Book} (v : Val b) : ref07Counting N b = some (cnt b) := by
  unfold ref07Counting
  have := loop_list (N := N) (B := fun rec75 x => ref07Counting_b2 N b rec75 x.1 x.2) nums (fun i (a : List Int) => ((i : Int) + 1, a)) (fun r a => some (a ++ r.filter (isC b))) (fun i a => a.length ≤ i)
    (fun a rec _ => by
      show ref07Counting_b2 N b rec _ a = _
      have e : nums.length = 999 := nums_len
      simp [ref07Counting_b2, e])
    (fun i x a rec hx hok h => by
      have hlt := len_lt hx
      have e : nums.length = 999 := nums_len
      have ex : x = (i : Int) + 1 := by
        have := hx
        unfold nums at this
        rw [List.getElem?_map, List.getElem?_range (by omega)] at this
        simpa using this.symm
      show ref07Counting_b2 N b rec ((i : Int) + 1) a = _
      unfold ref07Counting_b2
      simp only [show ((i : Int) + 1 ≤ 999) from by omega, decide_true, if_true, rcounting_one hN v, Option.bind_some]
      have hs : w64 ((i : Int) + 1 + 1) = ((i + 1 : Nat) : Int) + 1 := by rw [w64_id (by omega) (by omega)]; omega
      rw [List.filter_cons, ex]
      by_cases hc : isC b ((i : Int) + 1) = true
      · simp only [hc, if_true]
        rw [app_ok (by simp; omega)]
        simp only [Option.bind_some]
        rw [hs, h _ (by simp; omega)]
        simp
      · simp only [hc, if_false, Bool.false_eq_true, Option.bind_some]
        rw [hs, h _ (by omega)]) (by rw [nums_len]; omega) [] (by simp)
  have this' : loopN (fun rec75 x => ref07Counting_b2 N b rec75 x.1 x.2) N (1, []) = some ([] ++ nums.filter (isC b)) := this
  rw [this', Option.bind_some, List.nil_append]
  unfold cnt
  exact Eq.refl _

omit hN in
theorem isC_iff {b : Ref07Book} (v : Val b) {n : Int} : isC b n = true ↔ ∃ p ∈ mapOf b, p.2.fNumber = n := by
  unfold isC
  simp only [List.any_eq_true, Bool.and_eq_true, decide_eq_true_eq]
  constructor
  · rintro ⟨s, hs, rfl, hc⟩
    refine ⟨(turn s, cs s), (mget_mem (map_nodup b)).2 ?_, rfl⟩
    show mget (mapOf b) ⟨s.fBowler, s.fWeek⟩ = some (cs s)
    rw [map_of, (counts_iff v.once hs).1 hc]; rfl
  · rintro ⟨⟨⟨k, w⟩, t⟩, hp, rfl⟩
    have := (mget_mem (map_nodup b)).1 hp
    simp only at this
    rw [map_of] at this
    cases ho : of b k w with
    | none => rw [ho] at this; cases this
    | some s =>
      rw [ho] at this
      have e : cs s = t := by simpa using this
      have hB := of_isB b k w
      rw [ho] at hB
      obtain ⟨m1, m2, m3, m4⟩ := hB.1
      refine ⟨s, m1, by rw [← e]; rfl, ?_⟩
      rw [← m2, ← m3] at ho
      exact (counts_iff v.once m1).2 ho

omit hN in
theorem cnt_perm {b : Ref07Book} (v : Val b) : ((mapOf b).map (·.2.fNumber)).Perm (cnt b) := by
  have nd1 : ((mapOf b).map (·.2.fNumber)).Nodup := by
    have h := map_nodup b
    have hm : ∀ p ∈ mapOf b, ∃ s, of b p.1.fBowler p.1.fWeek = some s ∧ cs s = p.2 := by
      intro p hp
      have := (mget_mem h).1 hp
      have e : p.1 = ⟨p.1.fBowler, p.1.fWeek⟩ := rfl
      rw [e, map_of] at this
      cases ho : of b p.1.fBowler p.1.fWeek with
      | none => rw [ho] at this; cases this
      | some s => rw [ho] at this; exact ⟨s, rfl, by simpa using this⟩
    rw [List.nodup_iff_pairwise_ne, List.pairwise_map] at h ⊢
    refine List.Pairwise.imp_of_mem ?_ h
    intro p q hp hq hne e
    obtain ⟨s, hs, e1⟩ := hm p hp
    obtain ⟨t, ht, e2⟩ := hm q hq
    have hB := of_isB b p.1.fBowler p.1.fWeek
    have hB' := of_isB b q.1.fBowler q.1.fWeek
    rw [hs] at hB
    rw [ht] at hB'
    have en : s.fNumber = t.fNumber := by rw [← e1, ← e2] at e; exact e
    have := v.once s hB.1.1 t hB'.1.1 en
    subst this
    refine hne ?_
    have a1 := hB.1.2.1
    have a2 := hB.1.2.2.1
    have a3 := hB'.1.2.1
    have a4 := hB'.1.2.2.1
    obtain ⟨⟨k, w⟩, _⟩ := p
    obtain ⟨⟨k', w'⟩, _⟩ := q
    simp only at a1 a2 a3 a4 ⊢
    rw [← a1, ← a2, ← a3, ← a4]
  have nd2 : (cnt b).Nodup := ((nums_pw).filter (isC b)).imp fun h => by omega
  refine (List.perm_ext_iff_of_nodup nd1 nd2).2 fun n => ?_
  rw [List.mem_map]
  unfold cnt
  rw [List.mem_filter, isC_iff v, mem_nums]
  constructor
  · rintro ⟨p, hp, rfl⟩
    refine ⟨?_, p, hp, rfl⟩
    obtain ⟨s, hs, h⟩ := List.any_eq_true.1 ((isC_iff v (n := p.2.fNumber)).2 ⟨p, hp, rfl⟩)
    have e : s.fNumber = p.2.fNumber := by
      have := (Bool.and_eq_true _ _ ▸ h).1
      exact of_decide_eq_true this
    have := v.sh s hs
    simp only [sheetOk, Bool.and_eq_true] at this
    rw [← e]
    exact inr_iff.1 this.1
  · rintro ⟨_, p, hp, rfl⟩
    exact ⟨p, hp, rfl⟩

theorem counting_loop {Q : List Int × Int → Prop} (full : List Int) (hf : full.Pairwise (· < ·)) (hl : full.length ≤ 1000) (hQ : Q (full, 0)) : ∀ (n : Nat) (rem : List (RateTurn × RateSheet)) (l : List Int), rem.length < n → (l ++ rem.map (·.2.fNumber)).Perm full →
    loopW (fun rec3 x => rateCountingW_b2 N rec3 x.1 x.2) n (l, rem) Q
  | 0, _, _, h, _ => by omega
  | n + 1, rem, l, h, hp => by
    show rateCountingW_b2 N _ l rem Q
    unfold rateCountingW_b2
    have hlen := hp.length_eq
    rw [List.length_append, List.length_map] at hlen
    refine ⟨fun h0 => ?_, fun pre e post hs => ?_⟩
    · subst h0
      unfold rateCountingW_k1
      simp only [List.map_nil, List.append_nil] at hp
      refine ⟨full, ?_, hQ⟩
      unfold sortI
      rw [if_pos (by rw [hp.length_eq]; omega), sort_unique hp hf]
    · obtain ⟨k, t⟩ := e
      subst hs
      refine ⟨_, app_ok (by simp at hlen ⊢; omega), ?_⟩
      refine counting_loop full hf hl hQ n _ _ (by simp at h ⊢; omega) (List.Perm.trans ?_ hp)
      simp only [List.map_append, List.map_cons, List.append_assoc, List.singleton_append]
      exact List.Perm.append_left _ List.perm_middle.symm

theorem countingW_good (b : RateBook) : WGood (rateCountingW N b) := by
  unfold rateCountingW
  refine .bindO fun z => ?_
  cases z with
  | inl r => exact .ite (.ret _) .fail
  | inr r =>
    obtain ⟨a, b, c, d, e, f, g, h, i, j⟩ := r
    refine .ite (.ret _) (.loop (fun rec x hr => ?_) _ _)
    unfold rateCountingW_b2 rateCountingW_k1
    exact .next (.bindO fun _ => .ret _) fun p l => .bindO fun _ => hr _

theorem counting_eq (b : Ref07Book) : rateCounting N (cb b) = some (if flt b = 0 then (cnt b, 0) else ([], flt b)) := by
  unfold rateCounting
  refine det_eq (countingW_good hN _) ?_
  unfold rateCountingW
  refine ⟨_, read_eq hN b, ?_⟩
  by_cases h : flt b = 0
  · have v := flt_zero.1 h
    rw [if_pos h, if_pos h]
    simp only [decide_true, Bool.not_true, Bool.false_eq_true, if_false]
    have hl : (cnt b).length ≤ 1000 := by
      unfold cnt
      refine Nat.le_trans (List.length_filter_le _ _) ?_
      rw [nums_len]; omega
    have hp := cnt_perm v
    refine counting_loop (Q := fun x => x = (cnt b, 0)) hN (cnt b) (nums_pw.filter _) hl (Eq.refl _) N (mapOf b) [] ?_ (by rw [List.nil_append]; exact hp)
    have := hp.length_eq
    rw [List.length_map] at this
    omega
  · rw [if_neg h, if_neg h]
    simp only [h, decide_false, Bool.not_false, if_true]
    rfl
end
end Go.Proofs.Ytmencjafjcmbaaa
