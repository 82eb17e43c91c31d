/-
  Matches: by the program, by the document.
-/
import Derived.Test.YtmencjafjcmbaaaPC
set_option linter.all false
namespace Go.Proofs.Ytmencjafjcmbaaa
open Go.Kp

/-- what a bowler makes in the games of a week -/
def made (b : Ref07Book) (k w : Int) : Ar3 Int := match of b k w with
  | some s => ⟨s.fGames.a0 + hcp b k w, s.fGames.a1 + hcp b k w, s.fGames.a2 + hcp b k w⟩
  | none => ⟨max 0 (avg b k w (0, 0) - b.fLaw.fBlind) + hcp b k w, max 0 (avg b k w (0, 0) - b.fLaw.fBlind) + hcp b k w, max 0 (avg b k w (0, 0) - b.fLaw.fBlind) + hcp b k w⟩
def team (b : Ref07Book) (w : Int) (t : List Int) : Ar3 Int := ⟨(t.map fun k => (made b k w).a0).sum, (t.map fun k => (made b k w).a1).sum, (t.map fun k => (made b k w).a2).sum⟩
def pt (x y : Int) : Int × Int := if y < x then (2, 0) else if x < y then (0, 2) else (1, 1)
def four (x : Ar3 Int) : List Int := [x.a0, x.a1, x.a2, x.a0 + x.a1 + x.a2]
def mtch (b : Ref07Book) (w : Int) (h a : List Int) : Int × Int :=
  let p0 := pt (team b w h).a0 (team b w a).a0
  let p1 := pt (team b w h).a1 (team b w a).a1
  let p2 := pt (team b w h).a2 (team b w a).a2
  let p3 := pt (gsum (team b w h)) (gsum (team b w a))
  (p0.1 + p1.1 + p2.1 + p3.1, p0.2 + p1.2 + p2.2 + p3.2)
def tf (b : Ref07Book) (h a : List Int) : Int :=
  if 4 < h.length ∨ 4 < a.length then 3 else if h.length = 0 ∨ a.length = 0 ∨ ¬ ((h ++ a).all fun n => inr n 0 ((b.fBowlers.length : Int) - 1)) = true ∨ ¬ (h ++ a).Nodup then 1 else 0

theorem made_bd {b : Ref07Book} (v : Val b) (k : Int) {w : Int} (hw : w ≤ 30) : (0 ≤ (made b k w).a0 ∧ (made b k w).a0 ≤ 600) ∧ (0 ≤ (made b k w).a1 ∧ (made b k w).a1 ≤ 600) ∧ (0 ≤ (made b k w).a2 ∧ (made b k w).a2 ≤ 600) := by
  unfold made
  have hh := hcp_bd v k w
  have hl := val_law v
  have ha := avg_bd (k := k) (w := w) v hw (n := 0) (bd0 (by omega))
  cases ho : of b k w with
  | some s =>
    have := of_games v ho
    simp only; omega
  | none => simp only; omega
theorem pt_bd (x y : Int) : 0 ≤ (pt x y).1 ∧ (pt x y).1 ≤ 2 ∧ 0 ≤ (pt x y).2 ∧ (pt x y).2 ≤ 2 := by unfold pt; split <;> (try split) <;> simp
theorem map_sum_bd {f : Int → Int} (hf : ∀ k, 0 ≤ f k ∧ f k ≤ 600) (l : List Int) : 0 ≤ (l.map f).sum ∧ (l.map f).sum ≤ 600 * l.length := by
  have := sum_bd (B := 600) (by omega) (l.map f) (fun x hx => by obtain ⟨k, _, rfl⟩ := List.mem_map.1 hx; exact hf k)
  rwa [List.length_map] at this
theorem team_bd {b : Ref07Book} (v : Val b) {w : Int} (hw : w ≤ 30) (t : List Int) : (0 ≤ (team b w t).a0 ∧ (team b w t).a0 ≤ 600 * t.length) ∧ (0 ≤ (team b w t).a1 ∧ (team b w t).a1 ≤ 600 * t.length) ∧ (0 ≤ (team b w t).a2 ∧ (team b w t).a2 ≤ 600 * t.length) :=
  ⟨map_sum_bd (fun k => (made_bd v k hw).1) t, map_sum_bd (fun k => (made_bd v k hw).2.1) t, map_sum_bd (fun k => (made_bd v k hw).2.2) t⟩

section
variable {N : Nat} (hN : 4000 ≤ N)
include hN

theorem makes_eq {b : Ref07Book} (v : Val b) {k w : Int} (hk : 0 ≤ k ∧ k ≤ (b.fBowlers.length : Int) - 1) (hw : 1 ≤ w ∧ w ≤ 30) (c7 : List RateSheet) (c8 : List Int) :
    rateReadMakes N k w b.fLaw.fBase b.fLaw.fPercent b.fLaw.fCap b.fLaw.fLeast b.fLaw.fBlind b.fBowlers c7 c8 (mapOf b) = some (made b k w) := by
  unfold rateReadMakes made
  have hh := hcp_bd v k w
  have hl := val_law v
  have ha := avg_bd (k := k) (w := w) v hw.2 (n := 0) (bd0 (by omega))
  simp only [ravg0 hN v hk hw, rhcp hN v hk hw, mgt, map_of, Option.bind_some]
  cases ho : of b k w with
  | some s =>
    have hg := of_games v ho
    simp only [Option.map_some, Option.isSome_some, Option.getD_some, if_true, Option.bind_some]
    have e : (cs s).fGames = s.fGames := rfl
    rw [e, w64_id (n := s.fGames.a0 + hcp b k w) (by omega) (by omega), w64_id (n := s.fGames.a1 + hcp b k w) (by omega) (by omega), w64_id (n := s.fGames.a2 + hcp b k w) (by omega) (by omega)]
  | none =>
    simp only [Option.map_none, Option.isSome_none, Option.getD_none, Bool.false_eq_true, if_false, Option.bind_some]
    rw [w64_id (n := avg b k w (0, 0) - b.fLaw.fBlind) (by omega) (by omega), w64_id (n := max 0 (avg b k w (0, 0) - b.fLaw.fBlind) + hcp b k w) (by omega) (by omega)]

theorem match1_eq {b : Ref07Book} (v : Val b) {w : Int} (hw : 1 ≤ w ∧ w ≤ 30) (t : List Int) (ht : t.length ≤ 1000) (hk : ∀ k ∈ t, 0 ≤ k ∧ k ≤ (b.fBowlers.length : Int) - 1) (c7 : List RateSheet) (c8 : List Int) :
    rateMatch1X N t w b.fLaw.fBase b.fLaw.fPercent b.fLaw.fCap b.fLaw.fLeast b.fLaw.fBlind b.fBowlers c7 c8 (mapOf b) = some (four (team b w t)) := by
  unfold rateMatch1X
  have hm : mkl N 3 (0 : Int) = some [0, 0, 0] := by unfold mkl; rw [if_pos (by omega)]; rfl
  rw [hm, Option.bind_some]
  have := loop_list (N := N) (B := fun rec3 x => rateMatch1X_b1 N t w b.fLaw.fBase b.fLaw.fPercent b.fLaw.fCap b.fLaw.fLeast b.fLaw.fBlind b.fBowlers c7 c8 (mapOf b) rec3 x.1 x.2.1 x.2.2) t (fun i (a : Ar3 Int) => ((t.length : Int), (i : Int), [a.a0, a.a1, a.a2]))
    (fun r a => some [a.a0 + (team b w r).a0, a.a1 + (team b w r).a1, a.a2 + (team b w r).a2]) (fun i a => (0 ≤ a.a0 ∧ a.a0 ≤ 600 * i) ∧ (0 ≤ a.a1 ∧ a.a1 ≤ 600 * i) ∧ (0 ≤ a.a2 ∧ a.a2 ≤ 600 * i))
    (fun a rec _ => by
      show rateMatch1X_b1 N t w _ _ _ _ _ _ c7 c8 (mapOf b) rec (t.length : Int) (t.length : Int) _ = _
      unfold rateMatch1X_b1
      rw [decide_eq_false (by omega)]
      simp [team])
    (fun i x a rec hx hok h => by
      have hlt := len_lt hx
      have hkx := hk x (List.mem_of_getElem? hx)
      show rateMatch1X_b1 N t w _ _ _ _ _ _ c7 c8 (mapOf b) rec _ (i : Int) _ = _
      unfold rateMatch1X_b1
      simp only [show ((i : Int) < (t.length : Int)) from by omega, decide_true, if_true, idx_at hx, Option.bind_some, makes_eq hN v hkx hw, w64_succ (i := i) (by omega)]
      have hmd := made_bd v x hw.2
      have e0 : ∀ (p q r : Int), idx [p, q, r] 0 = some p := fun _ _ _ => rfl
      have e1 : ∀ (p q r : Int), idx [p, q, r] 1 = some q := fun _ _ _ => rfl
      have e2 : ∀ (p q r : Int), idx [p, q, r] 2 = some r := fun _ _ _ => rfl
      have s0 : ∀ (p q r z : Int), List.set [p, q, r] (Int.toNat 0) z = [z, q, r] := fun _ _ _ _ => rfl
      have s1 : ∀ (p q r z : Int), List.set [p, q, r] (Int.toNat 1) z = [p, z, r] := fun _ _ _ _ => rfl
      have s2 : ∀ (p q r z : Int), List.set [p, q, r] (Int.toNat 2) z = [p, q, z] := fun _ _ _ _ => rfl
      simp only [e0, s0, e1, s1, e2, s2, Option.bind_some]
      rw [w64_id (n := a.a0 + (made b x w).a0) (by omega) (by omega), w64_id (n := a.a1 + (made b x w).a1) (by omega) (by omega), w64_id (n := a.a2 + (made b x w).a2) (by omega) (by omega)]
      have := h ⟨a.a0 + (made b x w).a0, a.a1 + (made b x w).a1, a.a2 + (made b x w).a2⟩ (by simp only; omega)
      simp only at this
      rw [this]
      simp only [team, List.map_cons, List.sum_cons, Int.add_assoc]) (by omega) ⟨0, 0, 0⟩ (by simp)
  have this' : loopN (fun rec3 x => rateMatch1X_b1 N t w b.fLaw.fBase b.fLaw.fPercent b.fLaw.fCap b.fLaw.fLeast b.fLaw.fBlind b.fBowlers c7 c8 (mapOf b) rec3 x.1 x.2.1 x.2.2) N (((t.length : Int), 0, [0, 0, 0])) = some [(team b w t).a0, (team b w t).a1, (team b w t).a2] := by
    simpa using this
  rw [this', Option.bind_some]
  have hb := team_bd v hw.2 t
  rw [sum_eq hN _ (by intro x hx; simp only [List.mem_cons, List.not_mem_nil, or_false] at hx; rcases hx with rfl | rfl | rfl <;> omega) (by simp), Option.bind_some, app_ok (by simp; omega), Option.bind_some]
  simp [four, Int.add_assoc]

theorem mloop (l m : List Int) (hl : l.length ≤ 4) (hm : l.length = m.length) :
    loopN (fun rec5 x => rateMatch_b2 N l m rec5 x.1 x.2.1 x.2.2.1 x.2.2.2) N ((0, 0, (l.length : Int), 0)) = some (((l.zip m).map fun q => (pt q.1 q.2).1).sum, ((l.zip m).map fun q => (pt q.1 q.2).2).sum) := by
  have := loop_list (N := N) (B := fun rec5 x => rateMatch_b2 N l m rec5 x.1 x.2.1 x.2.2.1 x.2.2.2) (l.zip m) (fun i (a : Int × Int) => (a.1, a.2, (l.length : Int), (i : Int)))
    (fun r a => some (a.1 + (r.map fun q => (pt q.1 q.2).1).sum, a.2 + (r.map fun q => (pt q.1 q.2).2).sum)) (fun i a => (0 ≤ a.1 ∧ a.1 ≤ 2 * i) ∧ (0 ≤ a.2 ∧ a.2 ≤ 2 * i))
    (fun a rec _ => by
      show rateMatch_b2 N l m rec _ _ (l.length : Int) ((l.zip m).length : Int) = _
      unfold rateMatch_b2
      rw [decide_eq_false (by rw [List.length_zip]; omega)]
      simp)
    (fun i x a rec hx hok h => by
      have hlt := len_lt hx
      rw [List.length_zip] at hlt
      rw [List.getElem?_zip_eq_some] at hx
      show rateMatch_b2 N l m rec a.1 a.2 _ (i : Int) = _
      unfold rateMatch_b2
      simp only [show ((i : Int) < (l.length : Int)) from by omega, decide_true, if_true, idx_at hx.1, idx_at hx.2, Option.bind_some, w64_succ (i := i) (by omega), List.map_cons, List.sum_cons]
      have hp := pt_bd x.1 x.2
      have := h (a.1 + (pt x.1 x.2).1, a.2 + (pt x.1 x.2).2) (by simp only; omega)
      simp only [Int.add_assoc] at this ⊢
      rw [← this]
      unfold pt at hp ⊢
      by_cases c1 : x.2 < x.1
      · simp only [c1, decide_true, if_true, Option.bind_some]
        rw [w64_id (by omega) (by omega), Int.add_zero]
      · by_cases c2 : x.1 < x.2
        · simp only [c1, c2, decide_true, decide_false, Bool.false_eq_true, if_false, if_true, Option.bind_some]
          rw [w64_id (by omega) (by omega), Int.add_zero]
        · simp only [c1, c2, decide_false, Bool.false_eq_true, if_false, Option.bind_some]
          rw [w64_id (by omega) (by omega), w64_id (by omega) (by omega)]) (by rw [List.length_zip]; omega) (0, 0) (by simp)
  simpa using this

theorem grow_eq (n : Int) (h : 0 ≤ n ∧ n ≤ 1000) : slicesGrow N n = some [] := by
  unfold slicesGrow
  rw [decide_eq_false (by omega), w64_id (n := n - 0) (by omega) (by omega), Int.sub_zero]
  simp only [Bool.false_eq_true, if_false]
  by_cases hp : 0 < n
  · simp only [hp, decide_true, if_true]
    unfold mklp
    rw [if_pos ⟨hp, by omega⟩, Option.bind_some, slc_ok (by omega) (by omega) (by omega)]
    rfl
  · simp [hp]

theorem concat_eq (h a : List Int) (hh : h.length ≤ 400) (ha : a.length ≤ 400) : slicesConcat N [h, a] = some (h ++ a) := by
  unfold slicesConcat
  obtain ⟨m, rfl⟩ : ∃ m, N = m + 3 := ⟨N - 3, by omega⟩
  have e0 : idx [h, a] 0 = some h := rfl
  have e1 : idx [h, a] 1 = some a := rfl
  have w1 : w64 ((0 : Int) + 1) = 1 := rfl
  have w2 : w64 ((1 : Int) + 1) = 2 := rfl
  have l1 : loopN (fun rec3 x => slicesConcat_b1 (m + 3) [h, a] rec3 x.1 x.2.1 x.2.2) (m + 3) ((0, (([h, a] : List (List Int)).length : Int), 0)) = some ((h.length : Int) + a.length) := by
    show slicesConcat_b1 (m + 3) [h, a] _ _ _ _ = _
    unfold slicesConcat_b1
    have lt1 : ((0 : Int) < (([h, a] : List (List Int)).length : Int)) := by simp
    simp only [lt1, decide_true, if_true, e0, Option.bind_some, w1]
    rw [w64_id (n := 0 + (h.length : Int)) (by omega) (by omega), decide_eq_false (by omega)]
    simp only [Bool.false_eq_true, if_false]
    show slicesConcat_b1 (m + 3) [h, a] _ _ _ _ = _
    unfold slicesConcat_b1
    have lt2 : ((1 : Int) < (([h, a] : List (List Int)).length : Int)) := by simp
    simp only [lt2, decide_true, if_true, e1, Option.bind_some, w2]
    rw [w64_id (n := 0 + (h.length : Int) + (a.length : Int)) (by omega) (by omega), decide_eq_false (by omega)]
    simp only [Bool.false_eq_true, if_false]
    show slicesConcat_b1 (m + 3) [h, a] _ _ _ _ = _
    unfold slicesConcat_b1
    have lt3 : ¬ ((2 : Int) < (([h, a] : List (List Int)).length : Int)) := by simp
    rw [decide_eq_false lt3]
    simp
  rw [l1, Option.bind_some, grow_eq hN _ (by omega), Option.bind_some]
  have l2 : loopN (fun rec5 x => slicesConcat_b2 (m + 3) [h, a] rec5 x.1 x.2.1 x.2.2) (m + 3) (((([h, a] : List (List Int)).length : Int), 0, [])) = some (h ++ a) := by
    show slicesConcat_b2 (m + 3) [h, a] _ _ _ _ = _
    unfold slicesConcat_b2
    have lt1 : ((0 : Int) < (([h, a] : List (List Int)).length : Int)) := by simp
    simp only [lt1, decide_true, if_true, e0, Option.bind_some, w1]
    rw [app_ok (by simp; omega), Option.bind_some]
    show slicesConcat_b2 (m + 3) [h, a] _ _ _ _ = _
    unfold slicesConcat_b2
    have lt2 : ((1 : Int) < (([h, a] : List (List Int)).length : Int)) := by simp
    simp only [lt2, decide_true, if_true, e1, Option.bind_some, w2]
    rw [app_ok (by simp; omega), Option.bind_some]
    show slicesConcat_b2 (m + 3) [h, a] _ _ _ _ = _
    unfold slicesConcat_b2
    have lt3 : ¬ ((2 : Int) < (([h, a] : List (List Int)).length : Int)) := by simp
    rw [decide_eq_false lt3]
    simp
  rw [l2]; rfl

theorem allXXX_eq (b : RateBook) (h : b.fBowlers.length ≤ 1000) (l : List Int) (hl : l.length ≤ 1000) : rateAllXXX N b l = some (l.all fun n => inr n 0 ((b.fBowlers.length : Int) - 1)) := by
  unfold rateAllXXX slicesContainsFuncXXX slicesIndexFuncXXX
  exact all_shape l (fun x => rateAll1XXX N x b) _ (fun x _ => by unfold rateAll1XXX; rw [bowler_eq hN b h]; rfl) (by omega) (by omega)

omit hN in
theorem sort_rises (l : List Int) : ris (l.mergeSort fun x y => decide (x ≤ y)) = decide l.Nodup := by
  have hp := List.mergeSort_perm l (fun x y : Int => decide (x ≤ y))
  have hs : (l.mergeSort fun x y => decide (x ≤ y)).Pairwise (fun a b => decide (a ≤ b) = true) := List.pairwise_mergeSort (le := fun x y : Int => decide (x ≤ y)) (fun a b c h1 h2 => by simp at *; omega) (fun a b => by simp; omega) l
  rw [Bool.eq_iff_iff, ris_iff, decide_eq_true_eq, ← hp.nodup_iff]
  constructor
  · intro h; exact h.imp fun h => by omega
  · intro h
    have h := List.nodup_iff_pairwise_ne.1 h
    exact (hs.and h).imp fun ⟨h1, h2⟩ => by simp at h1; omega

theorem teams_eq (b : Ref07Book) (hb : b.fBowlers.length ≤ 1000) (h a : List Int) : rateBookTeams N (cb b) h a = some (tf b h a) := by
  unfold rateBookTeams tf
  by_cases c1 : 4 < h.length
  · have d1 : (4 : Int) < (h.length : Int) := by omega
    simp [c1, d1]
  · by_cases c2 : 4 < a.length
    · have d1 : ¬ ((4 : Int) < (h.length : Int)) := by omega
      have d2 : (4 : Int) < (a.length : Int) := by omega
      simp [c1, c2, d1, d2]
    · have d1 : ¬ ((4 : Int) < (h.length : Int)) := by omega
      have d2 : ¬ ((4 : Int) < (a.length : Int)) := by omega
      simp only [d1, d2, c1, c2, decide_false, Bool.false_eq_true, if_false, or_self, Option.bind_some]
      rw [concat_eq hN h a (by omega) (by omega), Option.bind_some, allXXX_eq hN (cb b) hb (h ++ a) (by simp; omega)]
      have e : (cb b).fBowlers = b.fBowlers := rfl
      rw [e]
      have hs : sortI N (h ++ a) = some ((h ++ a).mergeSort fun x y => decide (x ≤ y)) := by unfold sortI; rw [if_pos (by simp; omega)]
      rw [hs]
      simp only [Option.bind_some]
      rw [risingX_eq hN _ (by rw [List.length_mergeSort]; simp; omega), sort_rises]
      by_cases c3 : h.length = 0
      · simp [c3]
      · by_cases c4 : a.length = 0
        · simp [c3, c4]
        · have d3 : ¬ ((h.length : Int) = 0) := by omega
          have d4 : ¬ ((a.length : Int) = 0) := by omega
          simp only [d3, d4, c3, c4, decide_false, Bool.false_eq_true, if_false, false_or, Option.bind_some]
          by_cases c5 : ((h ++ a).all fun n => inr n 0 ((b.fBowlers.length : Int) - 1)) = true
          · by_cases c6 : (h ++ a).Nodup <;> simp only [c5, c6, decide_true, decide_false, Bool.not_true, Bool.not_false, Bool.false_eq_true, if_false, if_true, not_true_eq_false, not_false_eq_true, or_true, or_self, false_or, Option.bind_some]
          · simp only [Bool.not_eq_true] at c5
            simp only [c5, Bool.not_false, if_true, Bool.false_eq_true, not_false_eq_true, true_or]

omit hN in
theorem tf_zero {b : Ref07Book} {h a : List Int} (ht : tf b h a = 0) : (h.length ≤ 4 ∧ a.length ≤ 4) ∧ (1 ≤ h.length ∧ 1 ≤ a.length) ∧ (∀ k ∈ h ++ a, 0 ≤ k ∧ k ≤ (b.fBowlers.length : Int) - 1) ∧ (h ++ a).Nodup := by
  unfold tf at ht
  split at ht
  · cases ht
  · rename_i h1
    split at ht
    · cases ht
    · rename_i h2
      simp only [not_or, Decidable.not_not] at h1 h2
      refine ⟨by omega, by omega, fun k hk => ?_, h2.2.2.2⟩
      exact inr_iff.1 (List.all_eq_true.1 h2.2.2.1 k hk)

/-- the error of a match -/
def mer (b : Ref07Book) (w : Int) (h a : List Int) : Int := if flt b = 0 then (if inr w 1 30 then tf b h a else 2) else flt b

omit hN in
theorem mer_zero {b : Ref07Book} {w : Int} {h a : List Int} (hm : mer b w h a = 0) : Val b ∧ (1 ≤ w ∧ w ≤ 30) ∧ tf b h a = 0 := by
  unfold mer at hm
  split at hm
  · rename_i h1
    split at hm
    · rename_i h2
      exact ⟨flt_zero.1 h1, inr_iff.1 h2, hm⟩
    · cases hm
  · rename_i h1; exact absurd hm h1

theorem match_eq (b : Ref07Book) (hb : b.fBowlers.length ≤ 1000) (w : Int) (h a : List Int) : rateMatch N (cb b) w h a = some (if mer b w h a = 0 then ((mtch b w h a).1, (mtch b w h a).2, 0) else (0, 0, mer b w h a)) := by
  unfold rateMatch
  rw [read_eq hN, Option.bind_some]
  by_cases hf : flt b = 0
  · rw [if_pos hf]
    simp only [decide_true, if_true, week_eq, Option.bind_some]
    have hmer : mer b w h a = if inr w 1 30 then tf b h a else 2 := by unfold mer; rw [if_pos hf]
    by_cases q : inr w 1 30 = true
    · simp only [q, Bool.not_true, Bool.false_eq_true, if_false, decide_true, if_true, Option.bind_some, teams_eq hN b hb] at hmer ⊢
      rw [← hmer]
      by_cases ht : mer b w h a = 0
      · obtain ⟨v, hw, ht2⟩ := mer_zero ht
        obtain ⟨h1, h2, h3, h4⟩ := tf_zero ht2
        simp only [ht, decide_true, Bool.not_true, Bool.false_eq_true, if_false, if_true]
        rw [match1_eq hN v hw h (by omega) (fun k hk => h3 k (by simp [hk])), Option.bind_some, match1_eq hN v hw a (by omega) (fun k hk => h3 k (by simp [hk])), Option.bind_some, mloop hN _ _ (by simp [four]) (by simp [four]), Option.bind_some]
        simp [four, mtch, gsum, Int.add_assoc]
      · simp [ht]
    · simp only [Bool.not_eq_true] at q
      simp only [q, Bool.not_false, if_true, Bool.false_eq_true, if_false, Option.bind_some] at hmer ⊢
      rw [hmer]; rfl
  · have hmer : mer b w h a = flt b := by unfold mer; rw [if_neg hf]
    rw [if_neg hf, hmer]
    simp [hf]

/-! The document. -/
theorem rmakes_eq {b : Ref07Book} (v : Val b) {k w : Int} (hk : 0 ≤ k ∧ k ≤ (b.fBowlers.length : Int) - 1) (hw : 1 ≤ w ∧ w ≤ 30) :
    ref07Makes N b k w 0 = some (made b k w).a0 ∧ ref07Makes N b k w 1 = some (made b k w).a1 ∧ ref07Makes N b k w 2 = some (made b k w).a2 := by
  unfold ref07Makes made
  have hh := hcp_bd v k w
  have hl := val_law v
  have ha := avg_bd (k := k) (w := w) v hw.2 (n := 0) (bd0 (by omega))
  simp only [refhcp hN v hk hw, rof_eq hN v, refavg hN v hk hw (bd0 (by omega)), Option.bind_some]
  cases ho : of b k w with
  | some s =>
    have hg := of_games v ho
    simp only [gms, if_true]
    rw [w64_id (n := s.fGames.a0 + hcp b k w) (by omega) (by omega), w64_id (n := s.fGames.a1 + hcp b k w) (by omega) (by omega), w64_id (n := s.fGames.a2 + hcp b k w) (by omega) (by omega)]
    exact ⟨rfl, rfl, rfl⟩
  | none =>
    simp only [gms, Bool.false_eq_true, if_false]
    rw [w64_id (n := avg b k w (0, 0) - b.fLaw.fBlind) (by omega) (by omega), w64_id (n := max 0 (avg b k w (0, 0) - b.fLaw.fBlind) + hcp b k w) (by omega) (by omega)]
    exact ⟨rfl, rfl, rfl⟩

theorem rteam_gen {b : Ref07Book} (w g : Int) (t : List Int) (f : Int → Int) (ht : t.length ≤ 1000) (hf : ∀ k ∈ t, ref07Makes N b k w g = some (f k) ∧ 0 ≤ f k ∧ f k ≤ 600) : ref07Team N b t w g = some (t.map f).sum := by
  unfold ref07Team
  have := loop_list (N := N) (B := fun rec3 x => ref07Team_b1 N b t w g rec3 x.1 x.2) t (fun i (a : Int) => (a, (i : Int))) (fun r a => some (a + (r.map f).sum)) (fun i a => 0 ≤ a ∧ a ≤ 600 * i)
    (fun a rec _ => by
      show ref07Team_b1 N b t w g rec a _ = _
      unfold ref07Team_b1
      rw [decide_eq_false (by omega)]
      simp)
    (fun i x a rec hx hok h => by
      have hlt := len_lt hx
      have hkx := hf x (List.mem_of_getElem? hx)
      show ref07Team_b1 N b t w g rec a (i : Int) = _
      unfold ref07Team_b1
      simp only [show ((i : Int) < (t.length : Int)) from by omega, decide_true, if_true, idx_at hx, Option.bind_some, hkx.1, w64_succ (i := i) (by omega)]
      rw [w64_id (by omega) (by omega), h _ (by omega)]
      simp only [List.map_cons, List.sum_cons, Int.add_assoc]) (by omega) 0 (by simp)
  have this' : loopN (fun rec3 x => ref07Team_b1 N b t w g rec3 x.1 x.2) N (0, 0) = some (0 + (t.map f).sum) := this
  rw [this']; simp

theorem rteam_eq {b : Ref07Book} (v : Val b) {w : Int} (hw : 1 ≤ w ∧ w ≤ 30) (t : List Int) (ht : t.length ≤ 1000) (hk : ∀ k ∈ t, 0 ≤ k ∧ k ≤ (b.fBowlers.length : Int) - 1) :
    ref07Team N b t w 0 = some (team b w t).a0 ∧ ref07Team N b t w 1 = some (team b w t).a1 ∧ ref07Team N b t w 2 = some (team b w t).a2 :=
  ⟨rteam_gen hN w 0 t _ ht fun k h => ⟨(rmakes_eq hN v (hk k h) hw).1, (made_bd v k hw.2).1⟩, rteam_gen hN w 1 t _ ht fun k h => ⟨(rmakes_eq hN v (hk k h) hw).2.1, (made_bd v k hw.2).2.1⟩, rteam_gen hN w 2 t _ ht fun k h => ⟨(rmakes_eq hN v (hk k h) hw).2.2, (made_bd v k hw.2).2.2⟩⟩

omit hN in
theorem points_eq (x y : Int) : ref07Points N x y = some (pt x y) := by
  unfold ref07Points pt
  by_cases c1 : y < x
  · simp [c1]
  · by_cases c2 : x < y <;> simp [c1, c2]

theorem rmatch_eq {b : Ref07Book} (v : Val b) {w : Int} (hw : 1 ≤ w ∧ w ≤ 30) {h a : List Int} (ht : tf b h a = 0) : ref07Match N b w h a = some (mtch b w h a) := by
  obtain ⟨h1, h2, h3, h4⟩ := tf_zero ht
  obtain ⟨x0, x1, x2⟩ := rteam_eq hN v hw h (by omega) (fun k hk => h3 k (by simp [hk]))
  obtain ⟨y0, y1, y2⟩ := rteam_eq hN v hw a (by omega) (fun k hk => h3 k (by simp [hk]))
  unfold ref07Match mtch
  simp only [x0, x1, x2, y0, y1, y2, points_eq, Option.bind_some]
  have b1 := team_bd v hw.2 h
  have b2 := team_bd v hw.2 a
  rw [w64_id (n := 0 + (team b w h).a0) (by omega) (by omega), w64_id (n := 0 + (team b w h).a0 + (team b w h).a1) (by omega) (by omega), w64_id (n := 0 + (team b w h).a0 + (team b w h).a1 + (team b w h).a2) (by omega) (by omega)]
  rw [w64_id (n := 0 + (team b w a).a0) (by omega) (by omega), w64_id (n := 0 + (team b w a).a0 + (team b w a).a1) (by omega) (by omega), w64_id (n := 0 + (team b w a).a0 + (team b w a).a1 + (team b w a).a2) (by omega) (by omega)]
  simp only [Int.zero_add, gsum]
  have p0 := pt_bd (team b w h).a0 (team b w a).a0
  have p1 := pt_bd (team b w h).a1 (team b w a).a1
  have p2 := pt_bd (team b w h).a2 (team b w a).a2
  have p3 := pt_bd ((team b w h).a0 + (team b w h).a1 + (team b w h).a2) ((team b w a).a0 + (team b w a).a1 + (team b w a).a2)
  generalize pt (team b w h).a0 (team b w a).a0 = q0 at *
  generalize pt (team b w h).a1 (team b w a).a1 = q1 at *
  generalize pt (team b w h).a2 (team b w a).a2 = q2 at *
  generalize pt ((team b w h).a0 + (team b w h).a1 + (team b w h).a2) ((team b w a).a0 + (team b w a).a1 + (team b w a).a2) = q3 at *
  rw [w64_id (n := q0.1) (by omega) (by omega), w64_id (n := q0.1 + q1.1) (by omega) (by omega), w64_id (n := q0.1 + q1.1 + q2.1) (by omega) (by omega), w64_id (n := q0.1 + q1.1 + q2.1 + q3.1) (by omega) (by omega)]
  rw [w64_id (n := q0.2) (by omega) (by omega), w64_id (n := q0.2 + q1.2) (by omega) (by omega), w64_id (n := q0.2 + q1.2 + q2.2) (by omega) (by omega), w64_id (n := q0.2 + q1.2 + q2.2 + q3.2) (by omega) (by omega)]

theorem rteams_eq (b : Ref07Book) (hb : b.fBowlers.length ≤ 1000) (h a : List Int) : ref07TeamsFault N b h a = some (tf b h a) := by
  unfold ref07TeamsFault tf
  by_cases c1 : 4 < h.length
  · have d1 : (4 : Int) < (h.length : Int) := by omega
    simp [c1, d1]
  · by_cases c2 : 4 < a.length
    · have d1 : ¬ ((4 : Int) < (h.length : Int)) := by omega
      have d2 : (4 : Int) < (a.length : Int) := by omega
      simp [c1, c2, d1, d2]
    · have d1 : ¬ ((4 : Int) < (h.length : Int)) := by omega
      have d2 : ¬ ((4 : Int) < (a.length : Int)) := by omega
      simp only [d1, d2, c1, c2, decide_false, Bool.false_eq_true, if_false, or_self, Option.bind_some]
      rw [app_ok (by simp; omega), Option.bind_some, List.nil_append, app_ok (by omega), Option.bind_some]
      by_cases c3 : h.length = 0
      · simp [c3]
      · by_cases c4 : a.length = 0
        · simp [c3, c4]
        · have d3 : ¬ ((h.length : Int) = 0) := by omega
          have d4 : ¬ ((a.length : Int) = 0) := by omega
          simp only [d3, d4, c3, c4, decide_false, Bool.false_eq_true, if_false, false_or, Option.bind_some]
          have hlen : (h ++ a).length ≤ 8 := by simp; omega
          generalize h ++ a = l at *
          have := loop_from (N := N) (B := fun rec3 x => ref07TeamsFault_b2 N b rec3 x.1 x.2) l (fun i => ((i : Int), l)) (fun i r => some (if (r.all fun n => inr n 0 ((b.fBowlers.length : Int) - 1)) = true ∧ r.Nodup ∧ ∀ x ∈ r, x ∉ l.take i then 0 else 1))
            (fun rec => by
              show ref07TeamsFault_b2 N b rec _ l = _
              unfold ref07TeamsFault_b2
              rw [decide_eq_false (by omega)]
              simp [ref07TeamsFault_k1])
            (fun i x rec hx hr => by
              have hlt := len_lt hx
              show ref07TeamsFault_b2 N b rec (i : Int) l = _
              unfold ref07TeamsFault_b2
              simp only [show ((i : Int) < (l.length : Int)) from by omega, decide_true, if_true, idx_at hx, Option.bind_some, in_eq, w64_succ (i := i) (by omega), hr]
              rw [w64_id (n := (b.fBowlers.length : Int) - 1) (by omega) (by omega), slc_ok (by omega) (by omega) (by omega)]
              simp only [Option.bind_some, Int.toNat_natCast, Int.toNat_zero, List.drop_zero]
              rw [has_eq hN _ _ (by simp; omega)]
              have ht : l.take (i + 1) = l.take i ++ [x] := by rw [List.take_add_one, hx]; rfl
              by_cases q1 : inr x 0 ((b.fBowlers.length : Int) - 1) = true
              · by_cases q2 : x ∈ l.take i
                · simp only [q1, q2, Bool.not_true, Bool.false_eq_true, if_false, decide_true, Option.bind_some, if_true]
                  rw [if_neg (fun hh => hh.2.2 x (by simp) q2)]
                · simp only [q1, q2, Bool.not_true, Bool.false_eq_true, if_false, decide_false, Option.bind_some, List.all_cons, Bool.true_and]
                  congr 1
                  have : ((l.drop (i + 1)).all (fun n => inr n 0 ((b.fBowlers.length : Int) - 1)) = true ∧ (l.drop (i + 1)).Nodup ∧ ∀ y ∈ l.drop (i + 1), y ∉ l.take (i + 1)) ↔
                      ((l.drop (i + 1)).all (fun n => inr n 0 ((b.fBowlers.length : Int) - 1)) = true ∧ (x :: l.drop (i + 1)).Nodup ∧ ∀ y ∈ x :: l.drop (i + 1), y ∉ l.take i) := by
                    rw [ht]
                    simp only [List.nodup_cons, List.mem_cons, List.mem_append, List.not_mem_nil, or_false, not_or]
                    constructor
                    · rintro ⟨h1, h2, h3⟩
                      refine ⟨h1, ⟨fun hm => (h3 x hm).2 rfl, h2⟩, ?_⟩
                      rintro y (rfl | hy)
                      · exact q2
                      · exact (h3 y hy).1
                    · rintro ⟨h1, ⟨h2, h3⟩, h4⟩
                      refine ⟨h1, h3, fun y hy => ⟨h4 y (.inr hy), fun e => h2 (e ▸ hy)⟩⟩
                  simp only [this]
              · simp only [Bool.not_eq_true] at q1
                simp [q1]) (by omega) 0 (by omega)
          have this' : loopN (fun rec3 x => ref07TeamsFault_b2 N b rec3 x.1 x.2) N (0, l) = _ := this
          rw [this']
          congr 1
          simp only [List.drop_zero, List.take_zero, List.not_mem_nil, not_false_eq_true, implies_true, and_true]
          by_cases q1 : (l.all fun n => inr n 0 ((b.fBowlers.length : Int) - 1)) = true <;> by_cases q2 : l.Nodup <;> simp only [q1, q2, and_self, and_true, true_and, and_false, false_and, if_true, if_false, not_true_eq_false, not_false_eq_true, or_true, or_self, or_false, false_or, Bool.false_eq_true, Bool.not_eq_true, true_or]
end
end Go.Proofs.Ytmencjafjcmbaaa
