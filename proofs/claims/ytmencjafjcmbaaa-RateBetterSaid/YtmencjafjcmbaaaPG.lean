/-
  Later sheets; bounds; points.
-/
import Derived.Test.YtmencjafjcmbaaaPF
import Derived.Test.YtmencjafjcmbaaaDRateLater
import Derived.Test.YtmencjafjcmbaaaDRateBounds
import Derived.Test.YtmencjafjcmbaaaDRatePoints
set_option linter.all false
namespace Go.Proofs.Ytmencjafjcmbaaa
open Go.Kp

/-- the handicap by the average -/
def hq (b : Ref07Book) (A : Int) : Int := min (max 0 (Int.tdiv ((b.fLaw.fBase - A) * b.fLaw.fPercent) 100)) b.fLaw.fCap
theorem hcp_hq (b : Ref07Book) (k w : Int) : hcp b k w = hq b (avg b k w (0, 0)) := rfl
theorem tdiv_mono {x y : Int} (h : x ≤ y) : Int.tdiv x 100 ≤ Int.tdiv y 100 := by
  rcases Int.le_total 0 x with q | q
  · rw [Int.tdiv_eq_ediv_of_nonneg q, Int.tdiv_eq_ediv_of_nonneg (by omega)]; omega
  · have e : Int.tdiv x 100 = -(Int.tdiv (-x) 100) := by rw [Int.neg_tdiv]; omega
    rw [e, Int.tdiv_eq_ediv_of_nonneg (by omega)]
    rcases Int.le_total 0 y with r | r
    · rw [Int.tdiv_eq_ediv_of_nonneg r]; omega
    · have e2 : Int.tdiv y 100 = -(Int.tdiv (-y) 100) := by rw [Int.neg_tdiv]; omega
      rw [e2, Int.tdiv_eq_ediv_of_nonneg (by omega)]; omega
theorem hq_anti {b : Ref07Book} (v : Val b) {A B : Int} (h : A ≤ B) : hq b B ≤ hq b A := by
  unfold hq
  have hl := val_law v
  have := tdiv_mono (x := (b.fLaw.fBase - B) * b.fLaw.fPercent) (y := (b.fLaw.fBase - A) * b.fLaw.fPercent) (Int.mul_le_mul_of_nonneg_right (by omega) hl.2.1.1)
  omega
theorem hq_top {b : Ref07Book} (v : Val b) (A : Int) : A + hq b A ≤ max b.fLaw.fBase A := by
  unfold hq
  have hl := val_law v
  rcases Int.le_total A b.fLaw.fBase with q | q
  · have h1 : (b.fLaw.fBase - A) * b.fLaw.fPercent ≤ (b.fLaw.fBase - A) * 100 := Int.mul_le_mul_of_nonneg_left hl.2.1.2 (by omega)
    have h2 := tdiv_mono h1
    rw [Int.mul_tdiv_cancel _ (by omega)] at h2
    omega
  · have h1 : (b.fLaw.fBase - A) * b.fLaw.fPercent ≤ 0 := Int.mul_nonpos_of_nonpos_of_nonneg (by omega) hl.2.1.1
    have h2 := tdiv_mono h1
    rw [Int.zero_tdiv] at h2
    omega

theorem pt_swap (x y : Int) : pt y x = ((pt x y).2, (pt x y).1) := by
  unfold pt
  by_cases c1 : y < x
  · have : ¬ x < y := by omega
    simp [c1, this]
  · by_cases c2 : x < y <;> simp [c1, c2]
theorem mtch_swap (b : Ref07Book) (w : Int) (h a : List Int) : mtch b w a h = ((mtch b w h a).2, (mtch b w h a).1) := by
  unfold mtch
  simp only [pt_swap (team b w h).a0, pt_swap (team b w h).a1, pt_swap (team b w h).a2, pt_swap (gsum (team b w h))]
theorem pt_sum (x y : Int) : (pt x y).1 + (pt x y).2 = 2 := by unfold pt; split <;> (try split) <;> simp
theorem mtch_sum (b : Ref07Book) (w : Int) (h a : List Int) : (mtch b w h a).1 + (mtch b w h a).2 = 8 := by
  unfold mtch
  have := pt_sum (team b w h).a0 (team b w a).a0
  have := pt_sum (team b w h).a1 (team b w a).a1
  have := pt_sum (team b w h).a2 (team b w a).a2
  have := pt_sum (gsum (team b w h)) (gsum (team b w a))
  simp only
  omega
theorem mtch_nn (b : Ref07Book) (w : Int) (h a : List Int) : 0 ≤ (mtch b w h a).1 ∧ 0 ≤ (mtch b w h a).2 := by
  unfold mtch
  have := pt_bd (team b w h).a0 (team b w a).a0
  have := pt_bd (team b w h).a1 (team b w a).a1
  have := pt_bd (team b w h).a2 (team b w a).a2
  have := pt_bd (gsum (team b w h)) (gsum (team b w a))
  simp only
  omega
theorem tf_swap {b : Ref07Book} {h a : List Int} (ht : tf b h a = 0) : tf b a h = 0 := by
  obtain ⟨h1, h2, h3, h4⟩ := tf_zero ht
  unfold tf
  rw [if_neg (by omega), if_neg]
  simp only [not_or, Decidable.not_not]
  refine ⟨by omega, by omega, ?_, ?_⟩
  · rw [List.all_eq_true]
    intro k hk
    exact inr_iff.2 (h3 k (by simp at hk ⊢; exact hk.symm))
  · rw [List.perm_append_comm.nodup_iff]; exact h4
theorem mtch_absent {b : Ref07Book} {w : Int} {h a : List Int} (hn : ∀ k ∈ h ++ a, of b k w = none) : (mtch b w h a).1 = 0 ∨ (mtch b w h a).1 = 4 ∨ (mtch b w h a).1 = 8 := by
  have hm : ∀ k ∈ h ++ a, (made b k w).a1 = (made b k w).a0 ∧ (made b k w).a2 = (made b k w).a0 := by
    intro k hk
    unfold made
    rw [hn k hk]
    exact ⟨rfl, rfl⟩
  have ht : ∀ t : List Int, (∀ k ∈ t, k ∈ h ++ a) → (team b w t).a1 = (team b w t).a0 ∧ (team b w t).a2 = (team b w t).a0 := by
    intro t hs
    unfold team
    exact ⟨by rw [List.map_congr_left fun k hk => (hm k (hs k hk)).1], by rw [List.map_congr_left fun k hk => (hm k (hs k hk)).2]⟩
  have t1 := ht h fun k hk => by simp [hk]
  have t2 := ht a fun k hk => by simp [hk]
  unfold mtch gsum
  simp only [t1.1, t1.2, t2.1, t2.2]
  unfold pt
  by_cases c1 : (team b w a).a0 < (team b w h).a0
  · rw [if_pos c1, if_pos (by omega)]; right; right; rfl
  · by_cases c2 : (team b w h).a0 < (team b w a).a0
    · rw [if_neg c1, if_pos c2, if_neg (by omega), if_pos (by omega)]; left; rfl
    · rw [if_neg c1, if_neg c2, if_neg (by omega), if_neg (by omega)]; right; left; rfl

theorem cmp3 (A B p q : Int) (h1 : A ≤ B → q ≤ p) (h2 : B ≤ A → p ≤ q) : (if decide (A < B) then (if decide (p < q) then some true else if decide (B < A) then (if decide (q < p) then some true else if decide (A = B) then some (!decide (p = q)) else some false) else if decide (A = B) then some (!decide (p = q)) else some false)
    else if decide (B < A) then (if decide (q < p) then some true else if decide (A = B) then some (!decide (p = q)) else some false) else if decide (A = B) then some (!decide (p = q)) else some false) = some false := by
  rcases Int.lt_trichotomy A B with c | c | c
  · have := h1 (by omega)
    rw [decide_eq_true c, decide_eq_false (show ¬ p < q by omega), decide_eq_false (show ¬ B < A by omega), decide_eq_false (show ¬ A = B by omega)]
    rfl
  · have e1 := h1 (by omega)
    have e2 := h2 (by omega)
    rw [decide_eq_false (show ¬ A < B by omega), decide_eq_false (show ¬ B < A by omega), decide_eq_true c, decide_eq_true (show p = q by omega)]
    rfl
  · have := h2 (by omega)
    rw [decide_eq_false (show ¬ A < B by omega), decide_eq_true c, decide_eq_false (show ¬ q < p by omega), decide_eq_false (show ¬ A = B by omega)]
    rfl

section
variable {N : Nat} (hN : 4000 ≤ N)
include hN

theorem later_true (b : Ref07Book) (bowler week : Int) (f2 : 0 ≤ bowler ∧ bowler ≤ 255) (f3 : 0 ≤ week ∧ week ≤ 255) : law07RateLater N b bowler week = some true := by
  unfold law07RateLater
  rw [ready_eq hN]
  simp only [Option.bind_some]
  by_cases hf : flt b = 0
  · have v := flt_zero.1 hf
    have n1 := v.nb
    have n2 := v.ns
    have n3 := v.nw
    simp only [hf, decide_true, Bool.not_true, Bool.false_eq_true, if_false, Option.bind_some]
    by_cases c1 : (b.fBowlers.length : Int) = 0
    · simp [c1, wakes_ok hN]
    · simp only [c1, decide_false, Bool.false_eq_true, if_false]
      rw [nz_ok c1, w64_id (n := bowler) (by omega) (by omega), w64_id (n := week) (by omega) (by omega)]
      have hk := tmod_bd (x := bowler) (n := (b.fBowlers.length : Int)) (by omega) (by omega)
      have hw := tmod_bd (x := week) (n := 30) (by omega) (by omega)
      generalize Int.tmod bowler (b.fBowlers.length : Int) = k at *
      generalize Int.tmod week 30 = w0 at *
      rw [w64_id (n := 1 + w0) (by omega) (by omega)]
      simp only [Option.bind_some]
      have := loop_list (N := N) (B := fun rec3 x => law07RateLater_b1 N b rec3 x.1 x.2.1 x.2.2.1 x.2.2.2) b.fSheets (fun i (l : List Ref07Sheet) => (k, 1 + w0, (i : Int), l)) (fun r l => some (k, 1 + w0, l ++ r.filter fun s => decide (s.fBowler = k) && decide (s.fWeek < 1 + w0))) (fun i l => l.length ≤ i)
        (fun l rec _ => by
          show law07RateLater_b1 N b rec k (1 + w0) (b.fSheets.length : Int) l = _
          unfold law07RateLater_b1
          rw [decide_eq_false (by omega)]
          simp)
        (fun i x l rec hx hok h => by
          have hlt := len_lt hx
          show law07RateLater_b1 N b rec k (1 + w0) (i : Int) l = _
          unfold law07RateLater_b1
          simp only [show ((i : Int) < (b.fSheets.length : Int)) from by omega, decide_true, if_true, idx_at hx, Option.bind_some, w64_succ (i := i) (by omega), List.filter_cons]
          have happ : app N l [x] = some (l ++ [x]) := app_ok (by simp; omega)
          by_cases q1 : x.fBowler = k
          · by_cases q2 : x.fWeek < 1 + w0
            · simp only [q1, q2, decide_true, if_true, Option.bind_some, happ, Bool.and_self]
              rw [h _ (by simp; omega)]; simp
            · simp only [q1, q2, decide_true, decide_false, if_true, Bool.false_eq_true, if_false, Option.bind_some, Bool.and_false]
              rw [h _ (by omega)]
          · simp only [q1, decide_false, Bool.false_eq_true, if_false, Option.bind_some, Bool.false_and]
            rw [h _ (by omega)]) (by omega) [] (by simp)
      have this' : loopN (fun rec3 x => law07RateLater_b1 N b rec3 x.1 x.2.1 x.2.2.1 x.2.2.2) N (k, 1 + w0, 0, []) = _ := this
      rw [this']
      simp only [Option.bind_some, List.nil_append]
      have hsub : ∀ s ∈ b.fSheets.filter (fun s => decide (s.fBowler = k) && decide (s.fWeek < 1 + w0)), s ∈ b.fSheets := fun s hs => (List.mem_filter.1 hs).1
      have vx := val_sheets v (l := b.fSheets.filter fun s => decide (s.fBowler = k) && decide (s.fWeek < 1 + w0)) (Nat.le_trans (List.length_filter_le _ _) n2) hsub
      have hof : ∀ u, 1 ≤ u → u < 1 + w0 → of b k u = of ⟨b.fLaw, b.fBowlers, b.fSheets.filter (fun s => decide (s.fBowler = k) && decide (s.fWeek < 1 + w0)), b.fWithdrawn⟩ k u := by
        intro u _ hu
        refine of_eq v.once ((of_isB _ k u).congr fun s => ?_)
        unfold C
        simp only [List.mem_filter, Bool.and_eq_true, decide_eq_true_eq]
        constructor
        · rintro ⟨⟨h1, _⟩, h2, h3, h4⟩; exact ⟨h1, h2, h3, h4⟩
        · rintro ⟨h1, h2, h3, h4⟩; exact ⟨⟨h1, h2, by omega⟩, h2, h3, h4⟩
      rw [same_true hN v vx rfl rfl (k := k) (w := 1 + w0) (by show 0 ≤ k ∧ k ≤ (b.fBowlers.length : Int) - 1; omega) (by omega) (avg_congr (a := b) (b := ⟨b.fLaw, b.fBowlers, b.fSheets.filter (fun s => decide (s.fBowler = k) && decide (s.fWeek < 1 + w0)), b.fWithdrawn⟩) rfl rfl hof _)]
      simp [wakes_ok hN]
  · simp [hf, wakes_ok hN]

theorem points_true (b : Ref07Book) (week : Int) (h a : List Int) (f3 : 0 ≤ week ∧ week ≤ 255) : law07RatePoints N b week h a = some true := by
  unfold law07RatePoints
  rw [ready_eq hN]
  simp only [Option.bind_some]
  by_cases hf : flt b = 0
  · have v := flt_zero.1 hf
    have n1 := v.nb
    have n2 := v.ns
    have n3 := v.nw
    simp only [hf, decide_true, Bool.not_true, Bool.false_eq_true, if_false]
    by_cases c1 : (4 : Int) < (h.length : Int)
    · simp [c1, wakes_ok hN]
    · by_cases c2 : (4 : Int) < (a.length : Int)
      · simp [c1, c2, wakes_ok hN]
      · simp only [c1, c2, decide_false, Bool.false_eq_true, if_false, rteams_eq hN b (by omega), Option.bind_some]
        by_cases ht : tf b h a = 0
        · simp only [ht, decide_true, Bool.not_true, Bool.false_eq_true, if_false]
          rw [w64_id (n := week) (by omega) (by omega)]
          have hw := tmod_bd (x := week) (n := 30) (by omega) (by omega)
          generalize Int.tmod week 30 = w0 at *
          rw [w64_id (n := 1 + w0) (by omega) (by omega), book_eq hN b (by omega) (by omega) (by omega), list_eq hN (xs := h) (by omega), list_eq hN (xs := a) (by omega)]
          have hm : mer b (1 + w0) h a = 0 := by unfold mer; rw [if_pos hf, if_pos (inr_iff.2 (by omega)), ht]
          have hm2 : mer b (1 + w0) a h = 0 := by unfold mer; rw [if_pos hf, if_pos (inr_iff.2 (by omega)), tf_swap ht]
          have hs := mtch_sum b (1 + w0) h a
          have hn := mtch_nn b (1 + w0) h a
          simp only [Option.bind_some, match_eq hN b (by omega), hm, hm2, if_true, mtch_swap b (1 + w0) h a, decide_true, Bool.not_true, Bool.false_eq_true, if_false]
          rw [hs, decide_eq_false (show ¬ (mtch b (1 + w0) h a).1 < 0 by omega), decide_eq_false (show ¬ (mtch b (1 + w0) h a).2 < 0 by omega)]
          have e8 : (!decide (w64 8 = 8)) = false := rfl
          rw [e8]
          simp only [Bool.false_eq_true, if_false, Option.bind_some]
          rw [app_ok (by omega)]
          simp only [Option.bind_some]
          have := loop_list (N := N) (B := fun rec3 x => law07RatePoints_b1 N b (1 + w0) (h ++ a) rec3 x.1 x.2) (h ++ a) (fun i (l : Bool) => (l, (i : Int))) (fun r l => some (l && r.all fun k => (of b k (1 + w0)).isNone)) (fun _ _ => True)
            (fun l rec _ => by
              show law07RatePoints_b1 N b (1 + w0) (h ++ a) rec l ((h ++ a).length : Int) = _
              unfold law07RatePoints_b1
              rw [decide_eq_false (by omega)]
              simp)
            (fun i x l rec hx _ hr => by
              have hlt := len_lt hx
              have hlen : (h ++ a).length ≤ 8 := by simp; omega
              show law07RatePoints_b1 N b (1 + w0) (h ++ a) rec l (i : Int) = _
              unfold law07RatePoints_b1
              simp only [show ((i : Int) < ((h ++ a).length : Int)) from by omega, decide_true, if_true, idx_at hx, rof_eq hN v, gms2, Option.bind_some, Bool.not_not, w64_succ (i := i) (by omega), List.all_cons]
              cases l with
              | true => simp only [if_true, Option.bind_some, Bool.true_and]; rw [hr _ trivial]
              | false => simp only [Bool.false_eq_true, if_false, Option.bind_some, Bool.false_and]; rw [hr _ trivial]; rfl) (by simp; omega) true trivial
          have this' : loopN (fun rec3 x => law07RatePoints_b1 N b (1 + w0) (h ++ a) rec3 x.1 x.2) N (true, 0) = _ := this
          rw [this']
          simp only [Option.bind_some, Bool.true_and, wakes_ok hN]
          by_cases ha : ((h ++ a).all fun k => (of b k (1 + w0)).isNone) = true
          · have := mtch_absent (b := b) (w := 1 + w0) (h := h) (a := a) fun k hk => by simpa using List.all_eq_true.1 ha k hk
            rcases this with e | e | e <;> simp [ha, e]
          · simp only [Bool.not_eq_true] at ha
            simp [ha]
        · simp [ht, wakes_ok hN]
  · simp [hf, wakes_ok hN]

theorem bounds_true (b : Ref07Book) (week : Int) (f3 : 0 ≤ week ∧ week ≤ 255) : law07RateBounds N b week = some true := by
  unfold law07RateBounds
  rw [ready_eq hN]
  simp only [Option.bind_some]
  by_cases hf : flt b = 0
  · have v := flt_zero.1 hf
    have n1 := v.nb
    have n2 := v.ns
    have n3 := v.nw
    simp only [hf, decide_true, Bool.not_true, Bool.false_eq_true, if_false]
    rw [w64_id (n := week) (by omega) (by omega)]
    have hw := tmod_bd (x := week) (n := 30) (by omega) (by omega)
    generalize Int.tmod week 30 = w0 at *
    rw [w64_id (n := 1 + w0) (by omega) (by omega)]
    -- the lists behind so many bowlers
    have := loop_from (N := N) (B := fun rec15 x => law07RateBounds_b5 N b rec15 x.1 x.2.1 x.2.2.1 x.2.2.2) b.fBowlers
      (fun i => (1 + w0, (i : Int), (List.range i).map (fun (j : Nat) => avg b (j : Int) (1 + w0) (0, 0)), (List.range i).map (fun (j : Nat) => hcp b (j : Int) (1 + w0)))) (fun _ _ => some true)
      (fun rec => by
        show law07RateBounds_b5 N b rec (1 + w0) (b.fBowlers.length : Int) _ _ = _
        unfold law07RateBounds_b5
        rw [decide_eq_false (by omega)]
        simp [law07RateBounds_k1, wakes_ok hN])
      (fun i x rec hx h => by
        have hlt := len_lt hx
        show law07RateBounds_b5 N b rec (1 + w0) (i : Int) _ _ = _
        unfold law07RateBounds_b5
        have hask : ask b (i : Int) (1 + w0) = 0 := ask_zero.2 ⟨v, by omega, by omega⟩
        simp only [show ((i : Int) < (b.fBowlers.length : Int)) from by omega, decide_true, if_true, book_eq hN b (by omega) (by omega) (by omega), average_eq hN b (by omega), handicap_eq hN b (by omega), hask, Option.bind_some, Bool.not_true, Bool.false_eq_true, if_false]
        have ha := avg_bd (k := (i : Int)) (w := 1 + w0) v (by omega) (n := 0) (bd0 (by omega))
        have hh := hcp_bd v (i : Int) (1 + w0)
        have hl := val_law v
        have htop := hq_top v (avg b (i : Int) (1 + w0) (0, 0))
        rw [← hcp_hq] at htop
        rw [decide_eq_false (show ¬ avg b (i : Int) (1 + w0) (0, 0) < 0 by omega), decide_eq_false (show ¬ (300 : Int) < avg b (i : Int) (1 + w0) (0, 0) by omega), decide_eq_false (show ¬ hcp b (i : Int) (1 + w0) < 0 by omega), decide_eq_false (show ¬ b.fLaw.fCap < hcp b (i : Int) (1 + w0) by omega), w64_id (n := avg b (i : Int) (1 + w0) (0, 0) + hcp b (i : Int) (1 + w0)) (by omega) (by omega), decide_eq_false (by omega)]
        simp only [Bool.false_eq_true, if_false, Option.bind_some]
        have hin := loop_list0 (N := N) (B := fun rec19 x => law07RateBounds_b4 N (1 + w0) (i : Int) ((List.range i).map (fun (j : Nat) => avg b (j : Int) (1 + w0) (0, 0))) ((List.range i).map (fun (j : Nat) => hcp b (j : Int) (1 + w0))) rec (avg b (i : Int) (1 + w0) (0, 0)) (hcp b (i : Int) (1 + w0)) rec19 x) (List.range i) (fun j => (j : Int)) (fun _ => some true)
          (fun rec' => by
            show law07RateBounds_b4 N (1 + w0) (i : Int) _ _ rec _ _ rec' ((List.range i).length : Int) = _
            unfold law07RateBounds_b4
            rw [List.length_range, decide_eq_false (by omega)]
            simp only [Bool.false_eq_true, if_false]
            unfold law07RateBounds_k3 law07RateBounds_k2
            rw [app_ok (by simp; omega), Option.bind_some, app_ok (by simp; omega), Option.bind_some, w64_succ (i := i) (by omega)]
            have e1 : ((List.range i).map (fun (j : Nat) => avg b (j : Int) (1 + w0) (0, 0))) ++ [avg b (i : Int) (1 + w0) (0, 0)] = (List.range (i + 1)).map (fun (j : Nat) => avg b (j : Int) (1 + w0) (0, 0)) := by rw [List.range_succ, List.map_append]; rfl
            have e2 : ((List.range i).map (fun (j : Nat) => hcp b (j : Int) (1 + w0))) ++ [hcp b (i : Int) (1 + w0)] = (List.range (i + 1)).map (fun (j : Nat) => hcp b (j : Int) (1 + w0)) := by rw [List.range_succ, List.map_append]; rfl
            rw [e1, e2]
            exact h)
          (fun j y rec' hy hr => by
            have hlt' := len_lt hy
            rw [List.length_range] at hlt'
            show law07RateBounds_b4 N (1 + w0) (i : Int) _ _ rec _ _ rec' (j : Int) = _
            unfold law07RateBounds_b4
            have g1 : ((List.range i).map (fun (j : Nat) => avg b (j : Int) (1 + w0) (0, 0)))[j]? = some (avg b (j : Int) (1 + w0) (0, 0)) := by rw [List.getElem?_map, List.getElem?_range hlt']; rfl
            have g2 : ((List.range i).map (fun (j : Nat) => hcp b (j : Int) (1 + w0)))[j]? = some (hcp b (j : Int) (1 + w0)) := by rw [List.getElem?_map, List.getElem?_range hlt']; rfl
            simp only [show ((j : Int) < (i : Int)) from by omega, decide_true, if_true, idx_at g1, idx_at g2, Option.bind_some, w64_succ (i := j) (by omega), hr]
            simp only [hcp_hq]
            have q1 := @hq_anti b v (avg b (j : Int) (1 + w0) (0, 0)) (avg b (i : Int) (1 + w0) (0, 0))
            have q2 := @hq_anti b v (avg b (i : Int) (1 + w0) (0, 0)) (avg b (j : Int) (1 + w0) (0, 0))
            exact congrArg (fun o : Option Bool => Option.bind o fun v => if v then some false else some true) (cmp3 _ _ _ _ q1 q2)) (by simp; omega)
        exact hin) (by omega) 0 (by omega)
    exact this
  · simp [hf, wakes_ok hN]
end
end Go.Proofs.Ytmencjafjcmbaaa
