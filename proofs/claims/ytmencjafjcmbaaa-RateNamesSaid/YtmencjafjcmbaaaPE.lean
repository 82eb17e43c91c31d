/-
  Spans; the document's first examples; the statements that compare with the document.
-/
import Derived.Test.YtmencjafjcmbaaaPD
import Derived.Test.YtmencjafjcmbaaaDRateCounts
import Derived.Test.YtmencjafjcmbaaaDRateAverages
import Derived.Test.YtmencjafjcmbaaaDRateHandicaps
import Derived.Test.YtmencjafjcmbaaaDRateMatches
import Derived.Test.YtmencjafjcmbaaaDRateSpans
set_option linter.all false
namespace Go.Proofs.Ytmencjafjcmbaaa
open Go.Kp

theorem wrap_u64 {n : Int} (h0 : 0 ≤ n) (h1 : n < 18446744073709551616) : Go.IntKind.wrap .u64 n = n := by
  unfold Go.IntKind.wrap
  simp only [Go.IntKind.bits, Go.IntKind.signed, Bool.false_and]
  split
  · rename_i h; cases h
  · omega

def wf (b : Ref07Book) (k w : Int) (ws : List Int) : Int :=
  if ris ws && (ws.all fun n => inr n 1 (w - 1)) then (if ws.all fun n => (of b k n).isNone then 0 else 8) else 1

section
variable {N : Nat} (hN : 4000 ≤ N)
include hN

theorem allXXXX_eq (ws : List Int) (hl : ws.length ≤ 1000) {w : Int} (hw : 1 ≤ w ∧ w ≤ 30) : rateAllXXXX N ws w = some (ws.all fun n => inr n 1 (w - 1)) := by
  unfold rateAllXXXX slicesContainsFuncXXXX slicesIndexFuncXXXX
  exact all_shape ws (fun x => rateAll1XXXX N x w) _ (fun x _ => by unfold rateAll1XXXX rateSpan1; rw [within_eq, w64_id (by omega) (by omega)]; rfl) (by omega) (by omega)
theorem allSpan_eq (b : Ref07Book) (ws : List Int) (hl : ws.length ≤ 1000) (k c1 c2 c3 c4 c5 : Int) (c6 : List Int) (c7 : List RateSheet) (c8 : List Int) : rateAllXXXXXX N ws k c1 c2 c3 c4 c5 c6 c7 c8 (mapOf b) = some (ws.all fun n => (of b k n).isNone) := by
  unfold rateAllXXXXXX slicesContainsFuncXXXXXX slicesIndexFuncXXXXXX
  exact all_shape ws (fun x => rateAll1XXXXX N x k c1 c2 c3 c4 c5 c6 c7 c8 (mapOf b)) _ (fun x _ => by
    unfold rateAll1XXXXX rateSpan2
    simp only [mgt, map_of, Option.bind_some]
    cases of b k x <;> rfl) (by omega) (by omega)

theorem repeat_eq (x n : Int) (h : 0 ≤ n ∧ n ≤ 1000) : slicesRepeat N [x] n = some (List.replicate n.toNat x) := by
  unfold slicesRepeat
  rw [decide_eq_false (by omega)]
  have e1 : Go.IntKind.wrap .u64 (([x].length : Nat) : Int) = 1 := rfl
  rw [e1, wrap_u64 (n := n) (by omega) (by omega)]
  have hm : mulUN N 1 n = some (0, n) := by
    unfold mulUN mulU
    rw [if_pos ⟨⟨by omega, by omega⟩, by omega, by omega⟩, Int.one_mul]
    have a1 : n / 18446744073709551616 = 0 := by omega
    have a2 : n % 18446744073709551616 = n := by omega
    rw [a1, a2]
  rw [hm]
  simp only [Bool.false_eq_true, if_false, Option.bind_some, Int.lt_irrefl, decide_false]
  rw [decide_eq_false (by omega), w64_id (n := n) (by omega) (by omega)]
  have hk : mkl N n (0 : Int) = some (List.replicate n.toNat 0) := by unfold mkl; rw [if_pos (by omega)]
  simp only [Bool.false_eq_true, if_false, hk, Option.bind_some]
  have hl : (List.replicate n.toNat (0 : Int)).length = n.toNat := List.length_replicate
  -- what is laid so far: k elements
  have key := loopN_eq (b := fun rec3 (y : Int × List Int) => slicesRepeat_b2 N rec3 y.1 y.2) (fun _ => some (List.replicate n.toNat x)) (fun y => n.toNat - y.1.toNat)
    (fun y => ∃ k : Nat, y.1 = (k : Int) ∧ (n.toNat ≠ 0 → 1 ≤ k) ∧ k ≤ n.toNat ∧ y.2 = List.replicate k x ++ List.replicate (n.toNat - k) 0)
    (fun y rec ⟨k, hk1, hk2, hk3, hk4⟩ hr => by
      obtain ⟨y1, y2⟩ := y
      simp only at hk1 hk4
      subst hk1 hk4
      show slicesRepeat_b2 N rec (k : Int) _ = _
      unfold slicesRepeat_b2
      have hlen : (List.replicate k x ++ List.replicate (n.toNat - k) (0 : Int)).length = n.toNat := by simp; omega
      rw [hlen]
      by_cases hlt : k < n.toNat
      · rw [decide_eq_true (by omega)]
        simp only [if_true]
        unfold slicesRepeat_k1
        rw [hlen, slc_ok (by omega) (by omega) (by rw [hlen]; omega), Option.bind_some, slc_ok (by omega) (by omega) (by rw [hlen]; omega), Option.bind_some]
        simp only [Int.toNat_natCast, Int.toNat_zero, List.drop_zero]
        have ht : (List.replicate k x ++ List.replicate (n.toNat - k) (0 : Int)).take k = List.replicate k x := List.take_left' (by simp)
        rw [ht, List.length_replicate]
        have hc : cpyN k n.toNat k = min k (n.toNat - k) := rfl
        rw [hc]
        have hL : cpyL (List.replicate k x ++ List.replicate (n.toNat - k) (0 : Int)) k n.toNat (List.replicate k x) = List.replicate (k + min k (n.toNat - k)) x ++ List.replicate (n.toNat - (k + min k (n.toNat - k))) 0 := by
          unfold cpyL
          rw [ht, List.take_replicate, List.length_replicate, List.drop_append, List.drop_of_length_le (by simp), List.nil_append, List.length_replicate, List.drop_replicate, List.replicate_append_replicate]
          have : min (n.toNat - k) k = min k (n.toNat - k) := Nat.min_comm _ _
          rw [this]
          congr 2
          omega
        rw [hL, w64_id (by omega) (by omega)]
        refine hr _ ⟨k + min k (n.toNat - k), by simp, fun _ => by omega, by omega, rfl⟩ ?_
        simp only [Int.toNat_natCast]
        have : ((k : Int) + ((min k (n.toNat - k) : Nat) : Int)).toNat = k + min k (n.toNat - k) := by omega
        rw [this]
        have := hk2 (by omega)
        omega
      · rw [decide_eq_false (by omega)]
        have : k = n.toNat := by omega
        subst this
        simp)
    N ((cpyN 0 (List.replicate n.toNat (0 : Int)).length [x].length : Int), cpyL (List.replicate n.toNat 0) 0 (List.replicate n.toNat (0 : Int)).length [x])
    (by
      rw [hl]
      refine ⟨min 1 n.toNat, ?_, fun _ => by omega, by omega, ?_⟩
      · simp [cpyN]
      · unfold cpyL
        cases hn : n.toNat with
        | zero => simp
        | succ m => simp [List.replicate_succ])
    (by
      have : n.toNat ≤ 1000 := by omega
      omega)
  rw [key]; rfl

theorem replicate_sum (n : Nat) (x : Int) : (List.replicate n x).sum = n * x := by
  induction n with
  | zero => simp
  | succ n ih =>
    rw [List.replicate_succ, List.sum_cons, ih, Int.natCast_succ, Int.add_mul]
    omega

theorem span_eq (b : Ref07Book) (hb : b.fBowlers.length ≤ 1000) (k w : Int) (ws : List Int) (hl : ws.length ≤ 30) :
    rateSpan N (cb b) k w ws = some (if ask b k w = 0 then (if wf b k w ws = 0 then (⟨avg b k w (3 * (ws.length : Int), 0), avg b k w (3 * (ws.length : Int), 900 * (ws.length : Int))⟩, 0) else (⟨0, 0⟩, wf b k w ws)) else (⟨0, 0⟩, ask b k w)) := by
  unfold rateSpan
  rw [asked_eq hN b hb, Option.bind_some]
  by_cases hf : flt b = 0
  · rw [if_pos hf]
    simp only
    by_cases ha : ask b k w = 0
    · obtain ⟨v, hk, hw⟩ := ask_zero.1 ha
      simp only [ha, decide_true, Bool.not_true, Bool.false_eq_true, if_false, if_true]
      rw [rising_eq hN ws (by omega), allXXXX_eq hN ws (by omega) hw]
      simp only [Option.bind_some]
      unfold wf
      by_cases c1 : ris ws = true
      · by_cases c2 : (ws.all fun n => inr n 1 (w - 1)) = true
        · simp only [c1, c2, Bool.not_true, Bool.false_eq_true, if_false, Bool.and_self, if_true, Option.bind_some]
          rw [allSpan_eq hN b ws (by omega), Option.bind_some]
          by_cases c3 : (ws.all fun n => (of b k n).isNone) = true
          · simp only [c3, Bool.not_true, Bool.false_eq_true, if_false, if_true, rateReadWorst, rateReadBest, Option.bind_some]
            rw [w64_id (n := (ws.length : Int) * 3) (by omega) (by omega), repeat_eq hN _ _ (by omega), Option.bind_some, repeat_eq hN _ _ (by omega)]
            have hr : ∀ y : Int, 0 ≤ y → y ≤ 300 → ∀ c5 c7 c8, rateReadAverage N k w (List.replicate ((ws.length : Int) * 3).toNat y) b.fLaw.fBase b.fLaw.fPercent b.fLaw.fCap b.fLaw.fLeast c5 b.fBowlers c7 c8 (mapOf b) = some (avg b k w (3 * (ws.length : Int), 3 * (ws.length : Int) * y)) := by
              intro y h0 h1 c5 c7 c8
              rw [ravg hN v hk hw _ (fun z hz => by rw [(List.mem_replicate.1 hz).2]; exact ⟨h0, h1⟩) (by simp; omega), List.length_replicate, replicate_sum hN]
              have : ((((ws.length : Int) * 3).toNat : Nat) : Int) = 3 * (ws.length : Int) := by omega
              rw [this]
            rw [hr 0 (by omega) (by omega), Option.bind_some, Option.bind_some, hr 300 (by omega) (by omega), Option.bind_some]
            congr 5 <;> omega
          · simp only [Bool.not_eq_true] at c3
            simp [c3]
        · simp only [Bool.not_eq_true] at c2
          simp [c1, c2]
      · simp only [Bool.not_eq_true] at c1
        simp [c1]
    · simp [ha]
  · have h2 : ask b k w = flt b := by unfold ask; rw [if_neg hf]
    rw [if_neg hf, h2]
    simp [hf]

omit hN in
theorem gms2 (o : Option Ref07Sheet) : (gms o).2 = !o.isNone := by cases o <;> rfl

theorem weeks_eq {b : Ref07Book} (v : Val b) {k w : Int} (hw : 1 ≤ w ∧ w ≤ 30) (ws : List Int) (hl : ws.length ≤ 1000) : ref07WeeksFault N b k w ws = some (wf b k w ws) := by
  unfold ref07WeeksFault wf
  rw [rrising_eq hN ws hl, Option.bind_some]
  have l1 : ref07WeeksFault_k3 N b k ws = some (if ws.all fun n => (of b k n).isNone then 0 else 8) := by
    unfold ref07WeeksFault_k3
    have := loop_list0 (N := N) (B := fun rec4 x => ref07WeeksFault_b2 N b k ws rec4 x) ws (fun i => (i : Int)) (fun r => some (if r.all fun n => (of b k n).isNone then 0 else 8))
      (fun rec => by
        show ref07WeeksFault_b2 N b k ws rec (ws.length : Int) = _
        unfold ref07WeeksFault_b2
        rw [decide_eq_false (by omega)]
        simp [ref07WeeksFault_k1])
      (fun i x rec hx h => by
        have hlt := len_lt hx
        show ref07WeeksFault_b2 N b k ws rec (i : Int) = _
        unfold ref07WeeksFault_b2
        simp only [show ((i : Int) < (ws.length : Int)) from by omega, decide_true, if_true, idx_at hx, rof_eq hN v, Option.bind_some, w64_succ (i := i) (by omega), h, List.all_cons]
        rw [gms2]
        by_cases q : (of b k x).isNone = true
        · simp only [q, Bool.not_true, Bool.false_eq_true, if_false, Bool.true_and]
        · simp only [Bool.not_eq_true] at q
          simp only [q, Bool.not_false, if_true, Bool.false_and, Bool.false_eq_true, if_false]) (by omega)
    exact this
  have l2 := loop_list0 (N := N) (B := fun rec5 x => ref07WeeksFault_b4 N b k w ws rec5 x) ws (fun i => (i : Int)) (fun r => some (if (r.all fun n => inr n 1 (w - 1)) then (if ws.all fun n => (of b k n).isNone then 0 else 8) else 1))
    (fun rec => by
      show ref07WeeksFault_b4 N b k w ws rec (ws.length : Int) = _
      unfold ref07WeeksFault_b4
      rw [decide_eq_false (by omega)]
      simp [l1])
    (fun i x rec hx h => by
      have hlt := len_lt hx
      show ref07WeeksFault_b4 N b k w ws rec (i : Int) = _
      unfold ref07WeeksFault_b4
      simp only [show ((i : Int) < (ws.length : Int)) from by omega, decide_true, if_true, idx_at hx, in_eq, Option.bind_some, w64_succ (i := i) (by omega), h, List.all_cons]
      rw [w64_id (n := w - 1) (by omega) (by omega)]
      by_cases q : inr x 1 (w - 1) = true
      · simp [q]
      · simp only [Bool.not_eq_true] at q
        simp [q]) (by omega)
  have l2' : loopN (fun rec5 x => ref07WeeksFault_b4 N b k w ws rec5 x) N 0 = _ := l2
  rw [l2']
  by_cases c1 : ris ws = true
  · simp [c1]
  · simp only [Bool.not_eq_true] at c1
    simp [c1]

theorem ints_eq (a b : List Int) (h : a.length ≤ 1000) : law07Ints N a b = some (decide (a = b)) := by
  unfold law07Ints
  exact ints_shape a b (by omega) (by omega)

/-! The first examples. -/
omit hN in
def sb : Ref07Book := ⟨⟨200, 80, 60, 6, 10⟩, [150, 170], [⟨1, 0, 1, ⟨140, 160, 150⟩⟩, ⟨2, 0, 2, ⟨180, 130, 141⟩⟩, ⟨3, 1, 1, ⟨200, 190, 180⟩⟩, ⟨4, 0, 2, ⟨180, 130, 171⟩⟩], []⟩

theorem wakes_ok : law07Wakes N = some true := by
  unfold law07Wakes law07Season
  simp only [Option.bind_some]
  have e : (⟨⟨200, 80, 60, 6, 10⟩, [150, 170], [⟨1, 0, 1, ⟨140, 160, 150⟩⟩, ⟨2, 0, 2, ⟨180, 130, 141⟩⟩, ⟨3, 1, 1, ⟨200, 190, 180⟩⟩, ⟨4, 0, 2, ⟨180, 130, 171⟩⟩], []⟩ : RateBook) = cb sb := rfl
  have hb : sb.fBowlers.length ≤ 1000 := by decide
  have hf : flt sb = 0 := by decide
  have hc : cnt sb = [1, 3, 4] := by decide +kernel
  have a1 : ask sb 0 3 = 0 := by decide
  have a2 : avg sb 0 3 (0, 0) = 155 := by decide
  have a3 : hcp sb 0 3 = 36 := by decide
  have a4 : mer sb 2 [0] [1] = 0 := by decide
  have a5 : mtch sb 2 [0] [1] = (6, 2) := by decide
  have a6 : ask sb 1 3 = 0 := by decide
  have a7 : wf sb 1 3 [2] = 0 := by decide
  have a8 : avg sb 1 3 (3 * (([2] : List Int).length : Int), 0) = 95 := by decide
  have a9 : avg sb 1 3 (3 * (([2] : List Int).length : Int), 900 * (([2] : List Int).length : Int)) = 245 := by decide
  rw [e, counting_eq hN, average_eq hN sb hb, handicap_eq hN sb hb, match_eq hN sb hb, span_eq hN sb hb 1 3 [2] (by simp)]
  rw [if_pos hf, if_pos a1, if_pos a1, if_pos a4, if_pos a6, if_pos a7, hc, a2, a3, a5, a8, a9]
  simp only [Option.bind_some]
  rw [ints_eq hN _ _ (by simp)]
  rfl

/-! The statements. -/
theorem thin_eq (b : Ref07Book) : law07Thin N b = some (decide (b.fBowlers.length ≤ 12 ∧ b.fSheets.length ≤ 45 ∧ b.fWithdrawn.length ≤ 45)) := by
  unfold law07Thin
  by_cases c1 : b.fBowlers.length ≤ 12
  · by_cases c2 : b.fSheets.length ≤ 45
    · by_cases c3 : b.fWithdrawn.length ≤ 45
      · have d1 : ((b.fBowlers.length : Int) ≤ 12) := by omega
        have d2 : ((b.fSheets.length : Int) ≤ 45) := by omega
        have d3 : ((b.fWithdrawn.length : Int) ≤ 45) := by omega
        simp [c1, c2, c3, d1, d2, d3]
      · have d1 : ((b.fBowlers.length : Int) ≤ 12) := by omega
        have d2 : ((b.fSheets.length : Int) ≤ 45) := by omega
        have d3 : ¬ ((b.fWithdrawn.length : Int) ≤ 45) := by omega
        simp [c1, c2, c3, d1, d2, d3]
    · have d1 : ((b.fBowlers.length : Int) ≤ 12) := by omega
      have d2 : ¬ ((b.fSheets.length : Int) ≤ 45) := by omega
      simp [c1, c2, d1, d2]
  · have d1 : ¬ ((b.fBowlers.length : Int) ≤ 12) := by omega
    simp [c1, d1]

theorem rateCounts_true (b : Ref07Book) : law07RateCounts N b = some true := by
  unfold law07RateCounts
  rw [thin_eq hN]
  simp only [Option.bind_some]
  by_cases ht : b.fBowlers.length ≤ 12 ∧ b.fSheets.length ≤ 45 ∧ b.fWithdrawn.length ≤ 45
  · rw [decide_eq_true ht, book_eq hN b (by omega) (by omega) (by omega), lfault_eq hN]
    simp only [Option.bind_some, check_eq hN, counting_eq hN, wakes_ok hN, Bool.not_true, Bool.false_eq_true, if_false, decide_true]
    by_cases hf : flt b = 0
    · have v := flt_zero.1 hf
      have hl : (cnt b).length ≤ 1000 := by
        unfold cnt
        refine Nat.le_trans (List.length_filter_le _ _) ?_
        rw [nums_len]; omega
      simp only [hf, if_true, decide_true, Bool.not_true, Bool.false_eq_true, if_false, rcounting_eq hN v, Option.bind_some, ints_eq hN _ _ hl]
    · simp [hf]
  · rw [decide_eq_false ht, wakes_ok hN]; rfl

theorem rateAverages_true (b : Ref07Book) (k w : Int) : law07RateAverages N b k w = some true := by
  unfold law07RateAverages
  rw [thin_eq hN]
  simp only [Option.bind_some]
  by_cases ht : b.fBowlers.length ≤ 12 ∧ b.fSheets.length ≤ 45 ∧ b.fWithdrawn.length ≤ 45
  · rw [decide_eq_true ht, book_eq hN b (by omega) (by omega) (by omega)]
    simp only [Option.bind_some, average_eq hN b (by omega), lask_eq hN b (by omega), wakes_ok hN, Bool.not_true, Bool.false_eq_true, if_false]
    by_cases ha : ask b k w = 0
    · obtain ⟨v, hk, hw⟩ := ask_zero.1 ha
      simp only [ha, if_true, decide_true, Bool.not_true, Bool.false_eq_true, if_false, refavg hN v hk hw (bd0 (by omega)), Option.bind_some]
    · simp [ha]
  · rw [decide_eq_false ht, wakes_ok hN]; rfl

theorem rateHandicaps_true (b : Ref07Book) (k w : Int) : law07RateHandicaps N b k w = some true := by
  unfold law07RateHandicaps
  rw [thin_eq hN]
  simp only [Option.bind_some]
  by_cases ht : b.fBowlers.length ≤ 12 ∧ b.fSheets.length ≤ 45 ∧ b.fWithdrawn.length ≤ 45
  · rw [decide_eq_true ht, book_eq hN b (by omega) (by omega) (by omega)]
    simp only [Option.bind_some, handicap_eq hN b (by omega), lask_eq hN b (by omega), wakes_ok hN, Bool.not_true, Bool.false_eq_true, if_false]
    by_cases ha : ask b k w = 0
    · obtain ⟨v, hk, hw⟩ := ask_zero.1 ha
      simp only [ha, if_true, decide_true, Bool.not_true, Bool.false_eq_true, if_false, refhcp hN v hk hw, Option.bind_some]
    · simp [ha]
  · rw [decide_eq_false ht, wakes_ok hN]; rfl

theorem rateMatches_true (b : Ref07Book) (w : Int) (h a : List Int) : law07RateMatches N b w h a = some true := by
  unfold law07RateMatches
  rw [thin_eq hN]
  simp only [Option.bind_some]
  by_cases ht : b.fBowlers.length ≤ 12 ∧ b.fSheets.length ≤ 45 ∧ b.fWithdrawn.length ≤ 45
  · rw [decide_eq_true ht]
    simp only [Bool.not_true, Bool.false_eq_true, if_false]
    by_cases c1 : 8 < h.length
    · have d1 : (8 : Int) < (h.length : Int) := by omega
      simp [d1, wakes_ok hN]
    · have d1 : ¬ ((8 : Int) < (h.length : Int)) := by omega
      by_cases c2 : 8 < a.length
      · have d2 : (8 : Int) < (a.length : Int) := by omega
        simp [d1, d2, wakes_ok hN]
      · have d2 : ¬ ((8 : Int) < (a.length : Int)) := by omega
        simp only [d1, d2, decide_false, Bool.false_eq_true, if_false, Option.bind_some]
        rw [book_eq hN b (by omega) (by omega) (by omega), list_eq hN (by omega), list_eq hN (by omega)]
        simp only [Option.bind_some, match_eq hN b (by omega), lfault_eq hN, wakes_ok hN, in_eq, rteams_eq hN b (by omega)]
        have hbody : ∀ e : Int, e = mer b w h a → (if !decide (e = 0) then
              Option.bind (if decide ((if mer b w h a = 0 then ((mtch b w h a).1, (mtch b w h a).2, (0 : Int)) else (0, 0, mer b w h a)).2.2 = e) then if decide ((if mer b w h a = 0 then ((mtch b w h a).1, (mtch b w h a).2, (0 : Int)) else (0, 0, mer b w h a)).1 = 0) then if decide ((if mer b w h a = 0 then ((mtch b w h a).1, (mtch b w h a).2, (0 : Int)) else (0, 0, mer b w h a)).2.1 = 0) then some true else some false else some false else some false) fun v6 => some v6
            else
              Option.bind (ref07Match N b w h a) fun x => Option.bind (if decide ((if mer b w h a = 0 then ((mtch b w h a).1, (mtch b w h a).2, (0 : Int)) else (0, 0, mer b w h a)).2.2 = 0) then if decide ((if mer b w h a = 0 then ((mtch b w h a).1, (mtch b w h a).2, (0 : Int)) else (0, 0, mer b w h a)).1 = x.1) then if decide ((if mer b w h a = 0 then ((mtch b w h a).1, (mtch b w h a).2, (0 : Int)) else (0, 0, mer b w h a)).2.1 = x.2) then some true else some false else some false else some false) fun v7 => some v7) = some true := by
          rintro e rfl
          by_cases hm : mer b w h a = 0
          · obtain ⟨v, hw, ht2⟩ := mer_zero hm
            rw [rmatch_eq hN v hw ht2]
            simp [hm]
          · simp [hm]
        by_cases hf : flt b = 0
        · by_cases q : inr w 1 30 = true
          · have e : tf b h a = mer b w h a := by unfold mer; rw [if_pos hf, if_pos q]
            simp only [hf, q, decide_true, if_true, Bool.not_true, Bool.false_eq_true, if_false, Option.bind_some]
            exact hbody _ e
          · have e : 2 = mer b w h a := by unfold mer; rw [if_pos hf, if_neg q]
            simp only [Bool.not_eq_true] at q
            simp only [hf, q, decide_true, if_true, Bool.not_false, Option.bind_some]
            exact hbody _ e
        · have e : flt b = mer b w h a := by unfold mer; rw [if_neg hf]
          have hh := hbody _ e
          simp only [hf, decide_false, Bool.false_eq_true, if_false, Option.bind_some] at hh ⊢
          exact hh
  · rw [decide_eq_false ht]
    simp [wakes_ok hN]

theorem rateSpans_true (b : Ref07Book) (k w : Int) (ws : List Int) : law07RateSpans N b k w ws = some true := by
  unfold law07RateSpans
  rw [thin_eq hN]
  simp only [Option.bind_some]
  by_cases ht : b.fBowlers.length ≤ 12 ∧ b.fSheets.length ≤ 45 ∧ b.fWithdrawn.length ≤ 45
  · rw [decide_eq_true ht]
    simp only [Bool.not_true, Bool.false_eq_true, if_false]
    by_cases c1 : 30 < ws.length
    · have d1 : (30 : Int) < (ws.length : Int) := by omega
      simp [d1, wakes_ok hN]
    · have d1 : ¬ ((30 : Int) < (ws.length : Int)) := by omega
      simp only [d1, decide_false, Bool.false_eq_true, if_false, Option.bind_some]
      rw [book_eq hN b (by omega) (by omega) (by omega), list_eq hN (by omega)]
      simp only [Option.bind_some, span_eq hN b (by omega) k w ws (by omega), lask_eq hN b (by omega), wakes_ok hN]
      by_cases ha : ask b k w = 0
      · obtain ⟨v, hk, hw⟩ := ask_zero.1 ha
        simp only [ha, if_true, decide_true, weeks_eq hN v hw ws (by omega), Option.bind_some]
        by_cases hq : wf b k w ws = 0
        · simp only [hq, if_true, decide_true, Bool.not_true, Bool.false_eq_true, if_false]
          rw [w64_id (n := 3 * (ws.length : Int)) (by omega) (by omega), w64_id (n := 300 * (3 * (ws.length : Int))) (by omega) (by omega)]
          have e : 300 * (3 * (ws.length : Int)) = 900 * (ws.length : Int) := by omega
          rw [e, refavg hN v hk hw ⟨by simp only; omega, by simp only; omega, by simp, by simp only; omega⟩, Option.bind_some, refavg hN v hk hw ⟨by simp only; omega, by simp only; omega, by simp only; omega, by simp only; omega⟩]
          simp
        · simp [hq]
      · simp [ha]
  · rw [decide_eq_false ht]
    simp [wakes_ok hN]
end
end Go.Proofs.Ytmencjafjcmbaaa
