/-
  The law FrameAheads, typed, is true.
-/
import Derived.Test.YthjafigloabfpaaPM
import Derived.Test.YthjafigloabfpaaPW
import Derived.Test.YthjafigloabfpaaDFrameAheads
set_option linter.all false
namespace Go.Proofs.Ythjafigloabfpaa
open Go.Kp

theorem mayL_iff (i : Nat) (x : FrameRange) : ∀ (os : List FrameRange) (k : Nat), mayL i x k os = true ↔ ∀ (q : Nat) o, os[q]? = some o → k + q = i ∨ o.fLo ≤ x.fHi
  | [], k => by simp [mayL]
  | o :: os, k => by
    have ih := mayL_iff i x os (k + 1)
    simp only [mayL, Bool.and_eq_true, Bool.or_eq_true, decide_eq_true_eq, ih]
    constructor
    · rintro ⟨h1, h2⟩ q o' hq
      cases q with
      | zero => simp at hq; subst hq; simpa using h1
      | succ q => have := h2 q o' (by simpa using hq); omega
    · intro h
      refine ⟨by simpa using h 0 o rfl, fun q o' hq => ?_⟩
      have := h (q + 1) o' (by simpa using hq); omega
theorem sureL_iff (i : Nat) (x : FrameRange) : ∀ (os : List FrameRange) (k : Nat), sureL i x k os = true ↔ ∀ (q : Nat) o, os[q]? = some o → k + q = i ∨ o.fHi < x.fLo
  | [], k => by simp [sureL]
  | o :: os, k => by
    have ih := sureL_iff i x os (k + 1)
    simp only [sureL, Bool.and_eq_true, Bool.or_eq_true, decide_eq_true_eq, ih]
    constructor
    · rintro ⟨h1, h2⟩ q o' hq
      cases q with
      | zero => simp at hq; subst hq; simpa using h1
      | succ q => have := h2 q o' (by simpa using hq); omega
    · intro h
      refine ⟨by simpa using h 0 o rfl, fun q o' hq => ?_⟩
      have := h (q + 1) o' (by simpa using hq); omega
theorem mayA_iff (x : FrameRange) (R : List FrameRange) : mayA x R = true ↔ ∀ (q : Nat) o, R[q]? = some o → o.fLo ≤ x.fHi := by
  unfold mayA
  rw [List.all_eq_true]
  constructor
  · intro h q o hq; simpa using h o (List.mem_of_getElem? hq)
  · intro h o ho
    obtain ⟨q, hq⟩ := List.mem_iff_getElem?.1 ho
    simpa using h q o hq

theorem may_same {R : List FrameRange} (hw : ∀ o ∈ R, o.fLo ≤ o.fHi) : outL (fun _ x => mayA x R) 0 R = outL (fun i x => mayL i x 0 R) 0 R := by
  refine outL_congr _ _ fun j x hx => ?_
  rw [Bool.eq_iff_iff, mayA_iff, mayL_iff]
  constructor
  · intro h q o hq; exact .inr (h q o hq)
  · intro h q o hq
    rcases h q o hq with e | e
    · have : q = j := by omega
      subst this
      rw [hq] at hx; cases hx
      exact hw _ (List.mem_of_getElem? hq)
    · exact e
theorem sure_same {R : List FrameRange} (hw : ∀ o ∈ R, o.fLo ≤ o.fHi) : outL (fun i x => mayA x R && sureL i x 0 R) 0 R = outL (fun i x => sureL i x 0 R) 0 R := by
  refine outL_congr _ _ fun j x hx => ?_
  rw [Bool.eq_iff_iff, Bool.and_eq_true, mayA_iff, sureL_iff]
  constructor
  · exact fun h => h.2
  · intro h
    refine ⟨fun q o hq => ?_, h⟩
    have hxw := hw _ (List.mem_of_getElem? hx)
    have how := hw _ (List.mem_of_getElem? hq)
    rcases h q o hq with e | e
    · have : q = j := by omega
      subst this
      rw [hq] at hx; cases hx
      exact hxw
    · omega

section
variable {l : Ref01Law} (hV : V l) {ss : List (List Int)} (hn : ss.length ≤ 90) (hk : ∀ s ∈ ss, Ok l (s0 l) s)
include hV hn hk

theorem rng_w : ∀ o ∈ ss.map (rng l), o.fLo ≤ o.fHi := by
  intro o ho
  obtain ⟨s, hs, rfl⟩ := List.mem_map.1 ho
  have := G_bd hV (inv2_A (ainv hV (hk s hs)))
  simp only [rng]; omega

theorem raheads_in (i : Nat) (s : List Int) (hs : Ok l (s0 l) s) :
    loopN (fun rec30 x => law01FrameAheads_b2 2097152 l ss (i : Int) ⟨(rng l s).fLo, (rng l s).fHi⟩ rec30 x.1 x.2.1 x.2.2) 2097152 (true, true, 0) = some (mayL i (rng l s) 0 (ss.map (rng l)), sureL i (rng l s) 0 (ss.map (rng l))) := by
  have h := loopN_rel (ι := Nat × Bool × Bool) (b := fun rec30 x => law01FrameAheads_b2 2097152 l ss (i : Int) ⟨(rng l s).fLo, (rng l s).fHi⟩ rec30 x.1 x.2.1 x.2.2) (fun j => (j.2.1, j.2.2, (j.1 : Int)))
    (fun j => some (j.2.1 && mayL i (rng l s) j.1 ((ss.drop j.1).map (rng l)), j.2.2 && sureL i (rng l s) j.1 ((ss.drop j.1).map (rng l)))) (fun j => ss.length - j.1) (fun j => j.1 ≤ ss.length) ?_ 2097152 (0, true, true) (Nat.zero_le _) (by simp only; omega)
  · simpa using h
  · rintro ⟨k, p, f⟩ rec hkk ih
    try simp only at hkk ih ⊢
    unfold law01FrameAheads_b2
    by_cases hlt : k < ss.length
    · have hx : ss[k]? = some ss[k] := by simp [hlt]
      have hko := hk _ (List.getElem_mem hlt)
      rw [if_pos (by simpa using hlt), idx_at hx]
      simp -implicitDefEqProofs only [Option.bind_some]
      rw [rspan_eq hV hko (by have := ok_len hV hko; omega)]
      simp -implicitDefEqProofs only [Option.bind_some]
      rw [List.drop_eq_getElem_cons hlt, List.map_cons, w64_id (by omega) (by omega)]
      have e1 : rng l ss[k] = ⟨(acc l ss[k]).tot, (acc l ss[k]).tot + G l (acc l ss[k]).s⟩ := rfl
      have ih' := fun p f => ih (k + 1, p, f) (by simp only; omega) (by simp only; omega)
      simp at ih'
      rw [e1]
      simp only [mayL, sureL]
      by_cases hki : k = i
      · subst hki
        cases p <;> cases f <;> simp [ih']
      · have hki' : ¬ ((k : Int) = (i : Int)) := by omega
        by_cases c1 : (acc l ss[k]).tot ≤ (rng l s).fHi <;> by_cases c2 : (acc l ss[k]).tot + G l (acc l ss[k]).s < (rng l s).fLo <;> cases p <;> cases f <;> simp [hki, hki', ih', c1, c2]
    · have : k = ss.length := by omega
      subst this
      rw [if_neg (by simp), List.drop_length]
      simp [mayL, sureL]

theorem raheads_out :
    loopN (fun rec26 x => law01FrameAheads_b3 2097152 l ss rec26 x.1 x.2.1 x.2.2) 2097152 (0, [], []) = some (outL (fun i x => mayL i x 0 (ss.map (rng l))) 0 (ss.map (rng l)), outL (fun i x => sureL i x 0 (ss.map (rng l))) 0 (ss.map (rng l))) := by
  have h := loopN_rel (ι := Nat × List Int × List Int) (b := fun rec26 x => law01FrameAheads_b3 2097152 l ss rec26 x.1 x.2.1 x.2.2) (fun j => ((j.1 : Int), j.2.1, j.2.2))
    (fun j => some (j.2.1 ++ outL (fun i x => mayL i x 0 (ss.map (rng l))) j.1 ((ss.drop j.1).map (rng l)), j.2.2 ++ outL (fun i x => sureL i x 0 (ss.map (rng l))) j.1 ((ss.drop j.1).map (rng l)))) (fun j => ss.length - j.1)
    (fun j => j.1 ≤ ss.length ∧ j.2.1.length ≤ j.1 ∧ j.2.2.length ≤ j.1) ?_ 2097152 (0, [], []) ⟨Nat.zero_le _, Nat.le_refl _, Nat.le_refl _⟩ (by simp only; omega)
  · simpa using h
  · rintro ⟨k, a, b⟩ rec ⟨hkk, ha, hb⟩ ih
    try simp only at hkk ha hb ih ⊢
    unfold law01FrameAheads_b3
    by_cases hlt : k < ss.length
    · have hx : ss[k]? = some ss[k] := by simp [hlt]
      have hko := hk _ (List.getElem_mem hlt)
      rw [if_pos (by simpa using hlt), idx_at hx]
      simp -implicitDefEqProofs only [Option.bind_some]
      rw [rspan_eq hV hko (by have := ok_len hV hko; omega)]
      simp -implicitDefEqProofs only [Option.bind_some]
      have e := raheads_in hV hn hk k ss[k] hko
      simp only [rng] at e
      rw [e]
      simp -implicitDefEqProofs only [Option.bind_some]
      rw [List.drop_eq_getElem_cons hlt, List.map_cons, w64_id (by omega) (by omega), show ((k : Int) + 1) = ((k + 1 : Nat) : Int) by omega]
      have er : (⟨(acc l ss[k]).tot, (acc l ss[k]).tot + G l (acc l ss[k]).s⟩ : FrameRange) = rng l ss[k] := rfl
      have em : List.map (fun s => (⟨(acc l s).tot, (acc l s).tot + G l (acc l s).s⟩ : FrameRange)) ss = ss.map (rng l) := rfl
      try rw [er]
      generalize rng l ss[k] = x
      have ih' := fun a' b' h1 h2 => ih (k + 1, a', b') ⟨by simp only; omega, h1, h2⟩ (by simp only; omega)
      try simp only at ih'
      cases hm : mayL k x 0 (ss.map (rng l)) with
      | false =>
        cases hs : sureL k x 0 (ss.map (rng l)) with
        | false =>
          simp only [Bool.false_eq_true, if_false, Option.bind_some]
          rw [ih' a b (by omega) (by omega)]
          simp [outL, hm, hs]
        | true =>
          rw [if_neg (by decide)]
          simp -implicitDefEqProofs only [Option.bind_some, if_true]
          rw [app1_ok (by omega)]
          simp -implicitDefEqProofs only [Option.bind_some]
          rw [ih' a (b ++ [(k : Int)]) (by omega) (by simp; omega)]
          simp [outL, hm, hs]
      | true =>
        cases hs : sureL k x 0 (ss.map (rng l)) with
        | false =>
          rw [if_pos rfl, app1_ok (by omega)]
          simp -implicitDefEqProofs only [Option.bind_some, Bool.false_eq_true, if_false]
          rw [ih' (a ++ [(k : Int)]) b (by simp; omega) (by omega)]
          simp [outL, hm, hs]
        | true =>
          rw [if_pos rfl, app1_ok (by omega)]
          simp -implicitDefEqProofs only [Option.bind_some, if_true]
          rw [app1_ok (by omega)]
          simp -implicitDefEqProofs only [Option.bind_some]
          rw [ih' (a ++ [(k : Int)]) (b ++ [(k : Int)]) (by simp; omega) (by simp; omega)]
          simp [outL, hm, hs]
    · have : k = ss.length := by omega
      subst this
      rw [if_neg (by simp), List.drop_length]
      simp [outL]
end

theorem aheads_k4 (l : Ref01Law) (ss : List (List Int)) (hn : ss.length ≤ 8) (h45 : ∀ s ∈ ss, s.length ≤ 45) (lng : Bool) (hl : lng = true ↔ 6 < ss.length ∨ ∃ s ∈ ss, 40 < s.length) : law01FrameAheads_k4 2097152 l ss lng ss = some true := by
  unfold law01FrameAheads_k4
  rw [law_eq]
  simp -implicitDefEqProofs only [Option.bind_some]
  rw [ahead_eq l ss (by omega), isLaw_eq]
  have hw : ∃ v, (Option.bind (some (decide (V l))) fun r40 => if (!r40) = true then some (1 : Int) else if lng = true then some 3 else if decide ((ss.length : Int) = 0) = true then some 1 else some 0) = some v ∧
      loopN (fun rec4 x => law01FrameAheads_b1 2097152 l ss rec4 x.1 x.2) 2097152 (v, 0) = some (mflt l ss) := by
    have loop : ∀ v : Int, (v = 0 → V l) → loopN (fun rec4 x => law01FrameAheads_b1 2097152 l ss rec4 x.1 x.2) 2097152 (v, 0) = some (if v = 0 then (if ∀ s ∈ ss, Ok l (s0 l) s then 0 else 10) else v) := by
      intro v hv
      have h := loopN_rel (ι := Nat × Int) (b := fun rec4 x => law01FrameAheads_b1 2097152 l ss rec4 x.1 x.2) (fun j => (j.2, (j.1 : Int)))
        (fun j => some (if j.2 = 0 then (if ∀ s ∈ ss.drop j.1, Ok l (s0 l) s then 0 else 10) else j.2)) (fun j => ss.length - j.1) (fun j => j.1 ≤ ss.length ∧ (j.2 = 0 → V l)) ?_ 2097152 (0, v) ⟨Nat.zero_le _, hv⟩ (by simp only; omega)
      · simpa using h
      · rintro ⟨k, v⟩ rec ⟨hk, hv⟩ ih
        try simp only at hk hv ih ⊢
        unfold law01FrameAheads_b1
        by_cases hlt : k < ss.length
        · have hx : ss[k]? = some ss[k] := by simp [hlt]
          have h45k := h45 _ (List.getElem_mem hlt)
          rw [if_pos (by simpa using hlt)]
          simp -implicitDefEqProofs only [Option.bind_some]
          by_cases hv0 : v = 0
          · have hV := hv hv0
            rw [if_pos (decide_eq_true hv0), idx_at hx]
            simp -implicitDefEqProofs only [Option.bind_some]
            rw [is_eq hV _ (by omega)]
            simp -implicitDefEqProofs only [Option.bind_some]
            have hdrop : (∀ s ∈ ss.drop k, Ok l (s0 l) s) ↔ Ok l (s0 l) ss[k] ∧ ∀ s ∈ ss.drop (k + 1), Ok l (s0 l) s := by rw [List.drop_eq_getElem_cons hlt, List.forall_mem_cons]
            rw [w64_id (by omega) (by omega), show ((k : Int) + 1) = ((k + 1 : Nat) : Int) by omega]
            by_cases hok : Ok l (s0 l) ss[k]
            · rw [if_neg (by simp [hok])]
              simp -implicitDefEqProofs only [Option.bind_some]
              have := ih (k + 1, v) ⟨by simp only; omega, hv⟩ (by simp only; omega)
              try simp only at this
              rw [this]
              simp only [hdrop, hok, true_and, hv0]
            · rw [if_pos (by simp [hok])]
              simp -implicitDefEqProofs only [Option.bind_some]
              have := ih (k + 1, 10) ⟨by simp only; omega, fun h => by omega⟩ (by simp only; omega)
              try simp only at this
              rw [this]
              simp only [hdrop, hok, false_and, hv0, if_false, if_true]
              rw [if_neg (by decide)]
          · rw [if_neg (by simpa using hv0)]
            simp [hv0]
        · have : k = ss.length := by omega
          subst this
          rw [if_neg (by simp), List.drop_length]
          simp
    unfold mflt
    by_cases hV : V l
    · by_cases hc : 6 < ss.length ∨ ∃ s ∈ ss, 40 < s.length
      · refine ⟨3, by simp [hV, hl.2 hc], ?_⟩
        rw [loop 3 (by omega)]
        rw [if_neg (by decide), if_neg (by simp [hV]), if_pos hc]
      · have hlf : lng = false := by
          cases lng with
          | false => rfl
          | true => exact absurd (hl.1 rfl) hc
        by_cases hz : ss.length = 0
        · refine ⟨1, by simp [hV, hlf, hz], ?_⟩
          rw [loop 1 (by omega), if_neg (by decide), if_neg (by simp [hV]), if_neg hc, if_pos hz]
        · refine ⟨0, ?_, ?_⟩
          · have : ¬ ((ss.length : Int) = 0) := by omega
            simp [hV, hlf, this]
            intro e; rw [e] at hz; simp at hz
          · rw [loop 0 (fun _ => hV), if_pos rfl, if_neg (show ¬ ¬ V l by simp [hV]), if_neg hc, if_neg hz]
    · refine ⟨1, by simp [hV], ?_⟩
      rw [loop 1 (by omega), if_neg (by decide), if_pos hV]
  obtain ⟨v, e1, e2⟩ := hw
  by_cases h0 : mflt l ss = 0
  · have hval : V l ∧ ∀ s ∈ ss, Ok l (s0 l) s := by
      unfold mflt at h0
      by_cases hV : V l
      · refine ⟨hV, ?_⟩
        rw [if_neg (show ¬ ¬ V l by simp [hV])] at h0
        split at h0
        · omega
        · split at h0
          · omega
          · split at h0
            · assumption
            · omega
      · rw [if_pos hV] at h0; omega
    obtain ⟨hV, hk⟩ := hval
    have hrw := rng_w hV (by omega) hk
    rw [if_pos h0]
    simp -implicitDefEqProofs only [Option.bind_some] at e1 ⊢
    rw [e1]
    simp -implicitDefEqProofs only [Option.bind_some]
    rw [e2]
    simp -implicitDefEqProofs only [Option.bind_some]
    rw [if_neg (by simp [h0]), raheads_out hV (by omega) hk]
    simp -implicitDefEqProofs only [Option.bind_some]
    have l1 := outL_len (fun _ x => mayA x (ss.map (rng l))) (ss.map (rng l)) 0
    have l2 := outL_len (fun i x => mayA x (ss.map (rng l)) && sureL i x 0 (ss.map (rng l))) (ss.map (rng l)) 0
    rw [List.length_map] at l1 l2
    rw [ints_eq _ _ (by omega), ints_eq _ _ (by omega), may_same hrw, sure_same hrw, wakes_ok]
    simp
  · rw [if_neg h0]
    simp -implicitDefEqProofs only [Option.bind_some] at e1 ⊢
    rw [e1]
    simp -implicitDefEqProofs only [Option.bind_some]
    rw [e2]
    simp -implicitDefEqProofs only [Option.bind_some]
    rw [if_pos (by simp [h0]), wakes_ok]
    have e3 : w64 ((([] : List Int).length : Int) + (([] : List Int).length : Int)) = 0 := by decide
    rw [e3]
    simp

theorem aheads_ok (l : Ref01Law) (ss : List (List Int)) : law01FrameAheads 2097152 l ss = some true := by
  unfold law01FrameAheads
  rw [wakes_ok]
  by_cases hn : ss.length ≤ 8
  · rw [if_neg (by rw [decide_eq_true_eq]; omega)]
    have h := loopN_rel (ι := Nat × Bool) (b := fun rec31 x => law01FrameAheads_b5 2097152 l ss rec31 x.1 x.2.1 x.2.2) (fun j => (j.2, (j.1 : Int), ss.take j.1)) (fun _ => some true) (fun j => ss.length - j.1)
      (fun j => j.1 ≤ ss.length ∧ (∀ s ∈ ss.take j.1, s.length ≤ 45) ∧ (j.2 = true ↔ 6 < ss.length ∨ ∃ s ∈ ss.take j.1, 40 < s.length)) ?_ 2097152 (0, decide (6 < (ss.length : Int))) ⟨Nat.zero_le _, by simp, by simp; omega⟩ (by simp only; omega)
    · simpa using h
    · rintro ⟨k, g⟩ rec ⟨hk, h45, hg⟩ ih
      try simp only at hk h45 hg ih ⊢
      unfold law01FrameAheads_b5
      by_cases hlt : k < ss.length
      · have hx : ss[k]? = some ss[k] := by simp [hlt]
        rw [if_pos (by simpa using hlt), idx_at hx, wakes_ok]
        simp -implicitDefEqProofs only [Option.bind_some]
        by_cases hb : 45 < ss[k].length
        · rw [if_pos (decide_eq_true (by omega))]
        · rw [if_neg (by rw [decide_eq_true_eq]; omega), list_eq (by omega)]
          have e : (if g = true then some true else some (decide (40 < (ss[k].length : Int)))) = some (g || decide (40 < ss[k].length)) := by
            cases g with
            | true => rfl
            | false =>
              simp only [Bool.false_eq_true, if_false, Bool.false_or]
              congr 1
              rw [decide_eq_decide]; omega
          rw [e]
          simp -implicitDefEqProofs only [Option.bind_some]
          rw [app1_ok (by simp; omega), w64_id (by omega) (by omega)]
          simp -implicitDefEqProofs only [Option.bind_some]
          have := ih (k + 1, g || decide (40 < ss[k].length)) ⟨by simp only; omega, ?_, ?_⟩ (by simp only; omega)
          · try simp only at this
            rw [List.take_succ_eq_append_getElem hlt] at this
            rw [show ((k : Int) + 1) = ((k + 1 : Nat) : Int) by omega]
            exact this
          · simp only
            rw [List.take_succ_eq_append_getElem hlt]
            intro s hs
            rcases List.mem_append.1 hs with h | h
            · exact h45 s h
            · simp at h; subst h; omega
          · simp only
            rw [List.take_succ_eq_append_getElem hlt, Bool.or_eq_true, hg, decide_eq_true_eq]
            constructor
            · rintro ((h | ⟨s, h1, h2⟩) | h)
              · exact .inl h
              · exact .inr ⟨s, List.mem_append.2 (.inl h1), h2⟩
              · exact .inr ⟨ss[k], List.mem_append.2 (.inr (List.mem_singleton.2 rfl)), h⟩
            · rintro (h | ⟨s, h1, h2⟩)
              · exact .inl (.inl h)
              · rcases List.mem_append.1 h1 with h | h
                · exact .inl (.inr ⟨s, h, h2⟩)
                · simp at h; subst h; exact .inr h2
      · have : k = ss.length := by omega
        subst this
        rw [if_neg (by simp)]
        rw [List.take_length] at h45 hg ⊢
        exact aheads_k4 l ss hn h45 g hg
  · rw [if_pos (decide_eq_true (by omega))]
    rfl
end Go.Proofs.Ythjafigloabfpaa
