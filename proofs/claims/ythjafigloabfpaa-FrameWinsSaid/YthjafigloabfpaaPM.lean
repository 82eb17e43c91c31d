/-
  Who may win, who is sure to: the program's 'Ahead'.
-/
import Derived.Test.YthjafigloabfpaaPL
set_option linter.all false
namespace Go.Proofs.Ythjafigloabfpaa
open Go.Kp

def mayL (i : Nat) (x : FrameRange) : Nat → List FrameRange → Bool
  | _, [] => true
  | k, o :: os => (decide (k = i) || decide (o.fLo ≤ x.fHi)) && mayL i x (k + 1) os
def sureL (i : Nat) (x : FrameRange) : Nat → List FrameRange → Bool
  | _, [] => true
  | k, o :: os => (decide (k = i) || decide (o.fHi < x.fLo)) && sureL i x (k + 1) os
def mayA (x : FrameRange) (R : List FrameRange) : Bool := R.all fun o => decide (o.fLo ≤ x.fHi)
def outL (p : Nat → FrameRange → Bool) : Nat → List FrameRange → List Int
  | _, [] => []
  | i, x :: xs => (if p i x then [(i : Int)] else []) ++ outL p (i + 1) xs

theorem outL_len (p : Nat → FrameRange → Bool) : ∀ (xs : List FrameRange) (i : Nat), (outL p i xs).length ≤ xs.length
  | [], _ => by simp [outL]
  | x :: xs, i => by
    have := outL_len p xs (i + 1)
    unfold outL
    split <;> simp <;> omega
theorem outL_congr {p q : Nat → FrameRange → Bool} : ∀ (xs : List FrameRange) (i : Nat), (∀ j x, xs[j]? = some x → p (i + j) x = q (i + j) x) → outL p i xs = outL q i xs
  | [], _, _ => rfl
  | x :: xs, i, h => by
    have h0 := h 0 x rfl
    have ih : outL p (i + 1) xs = outL q (i + 1) xs := outL_congr xs (i + 1) fun j y hy => by
      have h1 := h (j + 1) y (by simpa using hy)
      have e : i + (j + 1) = i + 1 + j := by omega
      rw [e] at h1
      exact h1
    simp only [Nat.add_zero] at h0
    simp only [outL, h0, ih]

/-- the inner loop of the program -/
theorem ahead_in (R : List FrameRange) (hR : R.length ≤ 100) (i : Nat) (x : FrameRange) (a b : List Int) (ha : a.length ≤ 100) (hb : b.length ≤ 100) :
    loopN (fun rec29 y => frameAhead_b4 2097152 R (i : Int) a b x rec29 y.1 y.2.1 y.2.2) 2097152 (true, (R.length : Int), 0) =
      some (if mayA x R then (a ++ [(i : Int)], if sureL i x 0 R then b ++ [(i : Int)] else b) else (a, b)) := by
  have h := loopN_rel (ι := Nat × Bool) (b := fun rec29 y => frameAhead_b4 2097152 R (i : Int) a b x rec29 y.1 y.2.1 y.2.2) (fun j => (j.2, (R.length : Int), (j.1 : Int)))
    (fun j => some (if mayA x (R.drop j.1) then (a ++ [(i : Int)], if j.2 && sureL i x j.1 (R.drop j.1) then b ++ [(i : Int)] else b) else (a, b))) (fun j => R.length - j.1) (fun j => j.1 ≤ R.length) ?_ 2097152 (0, true) (Nat.zero_le _) (by simp only; omega)
  · simpa using h
  · rintro ⟨k, f⟩ rec hk ih
    try simp only at hk ih ⊢
    unfold frameAhead_b4
    by_cases hlt : k < R.length
    · have hx : R[k]? = some R[k] := by simp [hlt]
      rw [if_pos (by simpa using hlt), idx_at hx]
      simp -implicitDefEqProofs only [Option.bind_some]
      rw [List.drop_eq_getElem_cons hlt]
      generalize R[k] = o
      by_cases hbad : x.fHi < o.fLo
      · rw [if_pos (by simpa using hbad)]
        have : ¬ o.fLo ≤ x.fHi := by omega
        simp [mayA, this]
      · rw [if_neg (by simpa using hbad)]
        have hok : o.fLo ≤ x.fHi := by omega
        have next : ∀ g : Bool, frameAhead_k3 2097152 (R.length : Int) (k : Int) rec g = some (if mayA x (R.drop (k + 1)) then (a ++ [(i : Int)], if g && sureL i x (k + 1) (R.drop (k + 1)) then b ++ [(i : Int)] else b) else (a, b)) := by
          intro g
          unfold frameAhead_k3
          rw [w64_id (by omega) (by omega), show ((k : Int) + 1) = ((k + 1 : Nat) : Int) by omega]
          exact ih (k + 1, g) (by simp only; omega) (by simp only; omega)
        have hm : mayA x (o :: R.drop (k + 1)) = mayA x (R.drop (k + 1)) := by simp [mayA, hok]
        rw [hm]
        cases f with
        | false => simp only [Bool.false_eq_true, if_false, Bool.false_and]; rw [next]; simp
        | true =>
          simp only [if_true, Bool.true_and]
          by_cases hki : k = i
          · rw [if_pos (decide_eq_true (by omega)), next]
            simp [sureL, hki]
          · rw [if_neg (by simp; omega), next]
            simp [sureL, hki]
    · have : k = R.length := by omega
      subst this
      rw [if_neg (by simp), List.drop_length]
      unfold frameAhead_k2
      rw [app1_ok (by omega)]
      simp -implicitDefEqProofs only [Option.bind_some]
      cases f with
      | false => simp [mayA, sureL]
      | true =>
        rw [if_pos rfl, app1_ok (by omega)]
        simp [mayA, sureL]

theorem ahead_out (R : List FrameRange) (hR : R.length ≤ 90) :
    loopN (fun rec25 x => frameAhead_b5 2097152 R rec25 x.1 x.2.1 x.2.2.1 x.2.2.2) 2097152 ((R.length : Int), 0, [], []) =
      some (outL (fun _ x => mayA x R) 0 R, outL (fun i x => mayA x R && sureL i x 0 R) 0 R) := by
  have h := loopN_rel (ι := Nat × List Int × List Int) (b := fun rec25 x => frameAhead_b5 2097152 R rec25 x.1 x.2.1 x.2.2.1 x.2.2.2) (fun j => ((R.length : Int), (j.1 : Int), j.2.1, j.2.2))
    (fun j => some (j.2.1 ++ outL (fun _ x => mayA x R) j.1 (R.drop j.1), j.2.2 ++ outL (fun i x => mayA x R && sureL i x 0 R) j.1 (R.drop j.1))) (fun j => R.length - j.1)
    (fun j => j.1 ≤ R.length ∧ j.2.1.length ≤ j.1 ∧ j.2.2.length ≤ j.1) ?_ 2097152 (0, [], []) ⟨Nat.zero_le _, Nat.le_refl _, Nat.le_refl _⟩ (by simp only; omega)
  · simpa using h
  · rintro ⟨k, a, b⟩ rec ⟨hk, ha, hb⟩ ih
    try simp only at hk ha hb ih ⊢
    unfold frameAhead_b5
    by_cases hlt : k < R.length
    · have hx : R[k]? = some R[k] := by simp [hlt]
      rw [if_pos (by simpa using hlt), idx_at hx]
      simp -implicitDefEqProofs only [Option.bind_some]
      rw [ahead_in R (by omega) k _ a b (by omega) (by omega)]
      simp -implicitDefEqProofs only [Option.bind_some]
      rw [List.drop_eq_getElem_cons hlt, w64_id (by omega) (by omega), show ((k : Int) + 1) = ((k + 1 : Nat) : Int) by omega]
      generalize R[k] = x
      cases hm : mayA x R with
      | false =>
        have := ih (k + 1, a, b) ⟨by simp only; omega, by simp only; omega, by simp only; omega⟩ (by simp only; omega)
        simp only [Bool.false_eq_true, if_false]
        try simp only at this
        rw [this]
        simp [outL, hm]
      | true =>
        cases hs : sureL k x 0 R with
        | false =>
          have := ih (k + 1, a ++ [(k : Int)], b) ⟨by simp only; omega, by simp; omega, by simp only; omega⟩ (by simp only; omega)
          simp only [Bool.false_eq_true, if_false, if_true]
          try simp only at this
          rw [this]
          simp [outL, hm, hs]
        | true =>
          have := ih (k + 1, a ++ [(k : Int)], b ++ [(k : Int)]) ⟨by simp only; omega, by simp; omega, by simp; omega⟩ (by simp only; omega)
          simp only [if_true]
          try simp only at this
          rw [this]
          simp [outL, hm, hs]
    · have : k = R.length := by omega
      subst this
      rw [if_neg (by simp), List.drop_length]
      simp [outL]

/-- 'all' -/
theorem all_short (ss : List (List Int)) (hn : ss.length ≤ 90) : frameAll 2097152 ss = some (ss.all fun s => decide (s.length ≤ 40)) := by
  unfold frameAll slicesContainsFunc slicesIndexFunc
  have h := loopN_rel (ι := Nat) (b := fun rec3 x => slicesIndexFunc_b2 2097152 ss rec3 x.1 x.2) (fun j => ((ss.length : Int), (j : Int)))
    (fun j => some (match (ss.drop j).findIdx? (fun s => !decide (s.length ≤ 40)) with | some q => ((j + q : Nat) : Int) | none => -1)) (fun j => ss.length - j) (fun j => j ≤ ss.length) ?_ 2097152 0 (Nat.zero_le _) (by omega)
  · have h' : loopN (fun rec3 x => slicesIndexFunc_b2 2097152 ss rec3 x.1 x.2) 2097152 ((ss.length : Int), 0) = _ := h
    rw [h']
    simp -implicitDefEqProofs only [Option.bind_some, List.drop_zero, Nat.zero_add]
    cases hf : ss.findIdx? (fun s => !decide (s.length ≤ 40)) with
    | none =>
      rw [List.findIdx?_eq_none_iff] at hf
      have : (ss.all fun s => decide (s.length ≤ 40)) = true := by
        rw [List.all_eq_true]; intro s hs; have := hf s hs; simpa using this
      rw [this]; rfl
    | some q =>
      have : (ss.all fun s => decide (s.length ≤ 40)) = false := by
        rw [List.findIdx?_eq_some_iff_getElem] at hf
        obtain ⟨h1, h2, _⟩ := hf
        rw [Bool.eq_false_iff]
        intro hall
        rw [List.all_eq_true] at hall
        have := hall _ (List.getElem_mem h1)
        simp at h2 this; omega
      rw [this]
      simp
  · intro j rec hj ih
    try simp only at hj ih ⊢
    unfold slicesIndexFunc_b2
    by_cases hlt : j < ss.length
    · have hx : ss[j]? = some ss[j] := by simp [hlt]
      rw [if_pos (by simpa using hlt), idx_at hx]
      unfold frameAll1 frameAhead1
      simp -implicitDefEqProofs only [Option.bind_some]
      rw [List.drop_eq_getElem_cons hlt, List.findIdx?_cons]
      by_cases hs : (ss[j].length : Int) ≤ 40
      · have hs' : ss[j].length ≤ 40 := by omega
        have := ih (j + 1) (by omega) (by omega)
        rw [if_neg (by simp [hs]), w64_id (by omega) (by omega), show ((j : Int) + 1) = ((j + 1 : Nat) : Int) by omega, this]
        simp only [hs', decide_true, Bool.not_true, Bool.false_eq_true, if_false]
        cases (ss.drop (j + 1)).findIdx? (fun s => !decide (s.length ≤ 40)) with
        | none => rfl
        | some q => simp; omega
      · have hs' : ¬ ss[j].length ≤ 40 := by omega
        rw [if_pos (by simp [hs])]
        simp [hs']
    · have : j = ss.length := by omega
      subst this
      rw [if_neg (by simp), List.drop_length]
      rfl

theorem all_games {l : Ref01Law} (hV : V l) (ss : List (List Int)) (hn : ss.length ≤ 90) (h40 : ∀ s ∈ ss, s.length ≤ 40) : frameAllX 2097152 ss (fl l) = some (ss.all fun s => decide (Ok l (s0 l) s)) := by
  unfold frameAllX slicesContainsFuncX slicesIndexFuncX
  have h := loopN_rel (ι := Nat) (b := fun rec3 x => slicesIndexFuncX_b2 2097152 ss (fl l) rec3 x.1 x.2) (fun j => ((ss.length : Int), (j : Int)))
    (fun j => some (match (ss.drop j).findIdx? (fun s => !decide (Ok l (s0 l) s)) with | some q => ((j + q : Nat) : Int) | none => -1)) (fun j => ss.length - j) (fun j => j ≤ ss.length) ?_ 2097152 0 (Nat.zero_le _) (by omega)
  · have h' : loopN (fun rec3 x => slicesIndexFuncX_b2 2097152 ss (fl l) rec3 x.1 x.2) 2097152 ((ss.length : Int), 0) = _ := h
    rw [h']
    simp -implicitDefEqProofs only [Option.bind_some, List.drop_zero, Nat.zero_add]
    cases hf : ss.findIdx? (fun s => !decide (Ok l (s0 l) s)) with
    | none =>
      rw [List.findIdx?_eq_none_iff] at hf
      have : (ss.all fun s => decide (Ok l (s0 l) s)) = true := by
        rw [List.all_eq_true]; intro s hs; have := hf s hs; simpa using this
      rw [this]; rfl
    | some q =>
      have : (ss.all fun s => decide (Ok l (s0 l) s)) = false := by
        rw [List.findIdx?_eq_some_iff_getElem] at hf
        obtain ⟨h1, h2, _⟩ := hf
        rw [Bool.eq_false_iff]
        intro hall
        rw [List.all_eq_true] at hall
        have := hall _ (List.getElem_mem h1)
        simp at h2 this; exact h2 this
      rw [this]
      simp
  · intro j rec hj ih
    try simp only at hj ih ⊢
    unfold slicesIndexFuncX_b2
    by_cases hlt : j < ss.length
    · have hx : ss[j]? = some ss[j] := by simp [hlt]
      have h40j := h40 _ (List.getElem_mem hlt)
      rw [if_pos (by simpa using hlt), idx_at hx]
      unfold frameAll1X frameAhead2
      simp -implicitDefEqProofs only [Option.bind_some]
      rw [check_eq l _ (by omega)]
      simp -implicitDefEqProofs only [Option.bind_some]
      rw [List.drop_eq_getElem_cons hlt, List.findIdx?_cons]
      have hfl : flt l ss[j] = 0 ↔ Ok l (s0 l) ss[j] := ⟨fun h => (flt_ok.1 h).2.2, fun h => flt_ok.2 ⟨hV, h40j, h⟩⟩
      by_cases hs : Ok l (s0 l) ss[j]
      · have := ih (j + 1) (by omega) (by omega)
        rw [if_neg (by simp [hfl.2 hs]), w64_id (by omega) (by omega), show ((j : Int) + 1) = ((j + 1 : Nat) : Int) by omega, this]
        simp only [hs, decide_true, Bool.not_true, Bool.false_eq_true, if_false]
        cases (ss.drop (j + 1)).findIdx? (fun s => !decide (Ok l (s0 l) s)) with
        | none => rfl
        | some q => simp; omega
      · have hne : ¬ flt l ss[j] = 0 := fun h => hs (hfl.1 h)
        rw [if_pos (by simp [hne])]
        simp [hs]
    · have : j = ss.length := by omega
      subst this
      rw [if_neg (by simp), List.drop_length]
      rfl

/-- the span of a sheet -/
def rng (l : Ref01Law) (s : List Int) : FrameRange := ⟨(acc l s).tot, (acc l s).tot + G l (acc l s).s⟩

theorem spans_loop {l : Ref01Law} (hV : V l) (ss : List (List Int)) (hn : ss.length ≤ 90) (hk : ∀ s ∈ ss, Ok l (s0 l) s) :
    loopN (fun rec3 x => frameAhead_b1 2097152 (fl l) ss rec3 x.1 x.2.1 x.2.2) 2097152 ((ss.length : Int), 0, []) = some (ss.map (rng l)) := by
  have h := loopN_rel (ι := Nat) (b := fun rec3 x => frameAhead_b1 2097152 (fl l) ss rec3 x.1 x.2.1 x.2.2) (fun j => ((ss.length : Int), (j : Int), (ss.take j).map (rng l))) (fun _ => some (ss.map (rng l))) (fun j => ss.length - j) (fun j => j ≤ ss.length) ?_ 2097152 0 (Nat.zero_le _) (by omega)
  · simpa using h
  · intro j rec hj ih
    try simp only at hj ih ⊢
    unfold frameAhead_b1
    by_cases hlt : j < ss.length
    · have hx : ss[j]? = some ss[j] := by simp [hlt]
      have hkj := hk _ (List.getElem_mem hlt)
      rw [if_pos (by simpa using hlt), idx_at hx]
      simp -implicitDefEqProofs only [Option.bind_some]
      rw [lawSpan_eq hV hkj (by have := ok_len hV hkj; omega)]
      simp -implicitDefEqProofs only [Option.bind_some]
      rw [app1_ok (by simp; omega), w64_id (by omega) (by omega)]
      simp -implicitDefEqProofs only [Option.bind_some]
      have := ih (j + 1) (by omega) (by omega)
      rw [List.take_succ_eq_append_getElem hlt, List.map_append] at this
      rw [show ((j : Int) + 1) = ((j + 1 : Nat) : Int) by omega]
      exact this
    · have : j = ss.length := by omega
      subst this
      rw [if_neg (by simp), List.take_length]

/-- the error of a match -/
def mflt (l : Ref01Law) (ss : List (List Int)) : Int :=
  if ¬ V l then 1 else if 6 < ss.length ∨ ∃ s ∈ ss, 40 < s.length then 3 else if ss.length = 0 then 1 else if ∀ s ∈ ss, Ok l (s0 l) s then 0 else 10

theorem ahead_eq (l : Ref01Law) (ss : List (List Int)) (hn : ss.length ≤ 90) :
    frameAhead 2097152 (fl l) ss = some (if mflt l ss = 0 then (outL (fun _ x => mayA x (ss.map (rng l))) 0 (ss.map (rng l)), outL (fun i x => mayA x (ss.map (rng l)) && sureL i x 0 (ss.map (rng l))) 0 (ss.map (rng l)), 0) else ([], [], mflt l ss)) := by
  unfold frameAhead mflt
  rw [checkLaw_eq]
  simp -implicitDefEqProofs only [Option.bind_some]
  by_cases hV : V l
  · simp only [hV, if_true, not_true, if_false]
    rw [if_neg (by decide)]
    by_cases h6 : 6 < ss.length
    · have hc : 6 < ss.length ∨ ∃ s ∈ ss, 40 < s.length := .inl h6
      rw [if_pos (decide_eq_true (by omega)), if_pos hc]
      simp
    · rw [if_neg (by rw [decide_eq_true_eq]; omega), all_short ss hn]
      simp -implicitDefEqProofs only [Option.bind_some]
      by_cases h40 : ∃ s ∈ ss, 40 < s.length
      · have e : (ss.all fun s => decide (s.length ≤ 40)) = false := by
          rw [Bool.eq_false_iff]
          intro hall
          rw [List.all_eq_true] at hall
          obtain ⟨s, h1, h2⟩ := h40
          have := hall s h1
          simp at this; omega
        have hc : 6 < ss.length ∨ ∃ s ∈ ss, 40 < s.length := .inr h40
        rw [e, if_pos hc]
        simp
      · have h40' : ∀ s ∈ ss, s.length ≤ 40 := fun s hs => by
          have : ¬ 40 < s.length := fun h => h40 ⟨s, hs, h⟩
          omega
        have e : (ss.all fun s => decide (s.length ≤ 40)) = true := by
          rw [List.all_eq_true]; intro s hs; simpa using h40' s hs
        rw [e, if_neg (show ¬ (6 < ss.length ∨ ∃ s ∈ ss, 40 < s.length) from fun h => h.elim h6 h40)]
        simp only [Bool.not_true, Bool.false_eq_true, if_false, Option.bind_some]
        by_cases hz : ss.length = 0
        · rw [if_pos (decide_eq_true (by omega)), if_pos hz]
          simp
        · rw [if_neg (by rw [decide_eq_true_eq]; omega), if_neg hz, all_games hV ss hn h40']
          simp -implicitDefEqProofs only [Option.bind_some]
          by_cases hk : ∀ s ∈ ss, Ok l (s0 l) s
          · have e : (ss.all fun s => decide (Ok l (s0 l) s)) = true := by
              rw [List.all_eq_true]; intro s hs; simpa using hk s hs
            rw [e, if_neg (by decide), spans_loop hV ss hn hk, if_pos hk]
            simp -implicitDefEqProofs only [Option.bind_some]
            rw [ahead_out _ (by simpa using hn)]
            simp
          · have e : (ss.all fun s => decide (Ok l (s0 l) s)) = false := by
              rw [Bool.eq_false_iff]
              intro hall
              rw [List.all_eq_true] at hall
              exact hk fun s hs => by simpa using hall s hs
            rw [e, if_pos (by decide), if_neg hk]
            simp
  · rw [if_pos (by simp [hV])]
    simp [hV]
end Go.Proofs.Ythjafigloabfpaa
