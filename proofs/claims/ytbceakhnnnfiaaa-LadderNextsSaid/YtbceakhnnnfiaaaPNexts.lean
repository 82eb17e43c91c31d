/-
  The law LadderNexts.
-/
import Derived.Test.YtbceakhnnnfiaaaPN
import Derived.Test.YtbceakhnnnfiaaaDLadderNexts
set_option linter.all false
namespace Go.Proofs.Ytbceakhnnnfiaaa
open Go.Kp
theorem others_eq {N : Nat} (hN : 4000 ≤ N) {c : Ref09Cup} (hv : Val c) (due : Int) :
    loopN (fun rec4 x => law09LadderNexts_b1 N due (leasts c) rec4 x.1 x.2) N ((0 : Int), (0 : Int)) = some (((mays c).filter fun p => !decide (p = due)).length : Int) := by
  have ff := hv.ff
  have hll : (leasts c).length = c.fPlayers.toNat := by simp [leasts, players]
  have hlen : ∀ j, ((mayl c (bmap c) j).filter fun p => !decide (p = due)).length ≤ j := fun j => Nat.le_trans (List.length_filter_le _ _) (by unfold mayl; exact Nat.le_trans (List.length_filterMap_le _ _) (by simp))
  have key := loop_list (N := N) (B := fun rec4 x => law09LadderNexts_b1 N due (leasts c) rec4 x.1 x.2) (leasts c) (fun i (a : Int) => (a, (i : Int))) (fun _ _ => some (((mays c).filter fun p => !decide (p = due)).length : Int)) (fun i a => a = (((mayl c (bmap c) i).filter fun p => !decide (p = due)).length : Int))
    (fun a rec hok => by
      subst hok
      show law09LadderNexts_b1 N _ _ rec _ _ = _
      rw [law09LadderNexts_b1, if_neg (by simp), hll]; rfl)
    (fun i x a rec hx hok hh => by
      have hlt := len_lt hx
      rw [hll] at hlt
      subst hok
      have hx2 : x = leastv c (i : Int) := by
        have : (leasts c)[i]? = some (leastv c (i : Int)) := by simp [leasts, players, hlt]
        rw [this] at hx; exact (Option.some.inj hx).symm
      have hsucc : mayl c (bmap c) (i + 1) = mayl c (bmap c) i ++ (if (mget (bmap c) ⟨(lst c : Int), (i : Int)⟩).isSome then some (i : Int) else none).toList := fmap_succ _ i
      have hli := hlen i
      have hh := hh _ rfl
      rw [hsucc] at hh
      have hiff : (0 ≤ x) ↔ (mget (bmap c) ⟨(lst c : Int), (i : Int)⟩).isSome = true := by
        rw [hx2, isSome_cst]
        unfold leastv
        cases e : cst (bmap c) (lst c : Int) (i : Int) with
        | none => simp
        | some y => have := (cst_nn (bmap_good hv.ok) e).1; simp [this]
      show law09LadderNexts_b1 N _ _ rec _ (i : Int) = _
      rw [law09LadderNexts_b1, if_pos (decide_eq_true (by omega)), idx_at hx]
      simp only [Option.bind_some, w64_succ (i := i) (by omega)]
      by_cases e : 0 ≤ x
      · rw [if_pos (hiff.1 e)] at hh
        rw [if_pos (decide_eq_true e)]
        simp only [Option.bind_some]
        by_cases e2 : (i : Int) = due
        · simp only [e2, decide_true, Bool.not_true, Bool.false_eq_true, if_false, Option.bind_some]
          simpa [e2] using hh
        · simp only [e2, decide_false, Bool.not_false, if_true, Option.bind_some]
          rw [w64_id (by omega) (by omega)]
          simpa [e2] using hh
      · rw [if_neg (fun h => e (hiff.2 h))] at hh
        rw [if_neg (by simpa using e)]
        simp only [Option.bind_some, Bool.false_eq_true, if_false]
        simpa using hh) (by omega) 0 (by simp [mayl])
  exact key
theorem nexts_true {N : Nat} (hN : 4000 ≤ N) (c : Ref09Cup) : law09LadderNexts N c = some true := by
  unfold law09LadderNexts
  rw [few_eq hN, Option.bind_some, wakes_ok hN]
  by_cases h : few c = true
  rotate_left
  · simp [h]
  obtain ⟨ht, h9⟩ := few_iff.1 h
  have hs := thin_sz ht
  simp only [h, Bool.not_true, Bool.false_eq_true, if_false]
  rw [cup_eq hN c hs, Option.bind_some, next_eq hN c hs.r, fault'_eq hN]
  by_cases q : flt c = 0
  rotate_left
  · simp only [q, if_false, Option.bind_some, winner_eq hN c hs.r, winner]
    simp [q]
  have hv := val_iff.1 q
  have ff := hv.ff
  have hl := hv.len
  simp only [q, if_true, Option.bind_some, decide_true, Bool.not_true, Bool.false_eq_true, if_false, winner_eq hN c hs.r, nextR_eq hN hv, List.length_map]
  have hnl := nextl_len c (T c).length
  have hk2 : law09LadderNexts_k2 N c (winner c).1 (winner c).2 = some true := by
    unfold law09LadderNexts_k2
    rw [w64_id (by omega) (by omega), won_eq hN c hs, Option.bind_some, leastR_eq hN hv (h9 q), Option.bind_some, others_eq hN hv, Option.bind_some, wakes_ok hN]
    have el : (c.fPlayers - 2 : Int) = (lst c : Int) := by unfold lst; omega
    rw [el]
    unfold winner
    rw [if_pos q]
    rcases hv.won (lst c) with hw | hw
    · simp only [hw, show ((-1 : Int) < 0) from by omega, decide_true, if_true, Option.bind_some]
    · have hne : ¬ won c (lst c : Int) = -1 := by omega
      have hlt : ¬ won c (lst c : Int) < 0 := by omega
      have hmem : won c (lst c : Int) ∈ mays c := by
        obtain ⟨w, hw1, hw2⟩ := ex_act hv
        exact (may_iff hv).2 ⟨w, hw1, hw2 (lst c) (by unfold lst; omega) hne⟩
      have hlo := len_one (mays_nodup c) hmem
      have hpos : 0 < (mays c).length := List.length_pos_of_mem hmem
      have hiff : 1 < (mays c).length ↔ (0 : Int) < (((mays c).filter fun p => !decide (p = won c (lst c : Int))).length : Int) := by
        constructor
        · intro hlt2
          refine Int.ofNat_lt.2 (Nat.pos_of_ne_zero fun h0 => ?_)
          have := List.eq_nil_of_length_eq_zero h0
          rw [List.filter_eq_nil_iff] at this
          have := hlo.2 fun y hy => by have := this y hy; simpa using this
          omega
        · intro hp
          refine Nat.lt_of_not_le fun hle => ?_
          have h1 := hlo.1 (by omega)
          have : (mays c).filter (fun p => !decide (p = won c (lst c : Int))) = [] := by
            rw [List.filter_eq_nil_iff]; intro y hy; simp [h1 y hy]
          rw [this] at hp; simp at hp
      simp only [hne, hlt, decide_false, Bool.false_eq_true, if_false]
      by_cases e : 1 < (mays c).length
      · simp only [e, hiff.1 e, decide_true, if_true, Option.bind_some]
      · have e' : ¬ (0 : Int) < (((mays c).filter fun p => !decide (p = won c (lst c : Int))).length : Int) := fun h => e (hiff.2 h)
        simp only [e, e', decide_false, Bool.false_eq_true, if_false, Option.bind_some, decide_true, if_true]
  have key := loop_list0 (N := N) (B := fun rec5 x => law09LadderNexts_b3 N c (nexts c) (winner c).1 (winner c).2 ((nexts c).map cmt) rec5 x) (nexts c) (fun i => (i : Int)) (fun _ => some true)
    (fun rec => by
      show law09LadderNexts_b3 N c _ _ _ _ rec _ = _
      rw [law09LadderNexts_b3, if_neg (by simp), hk2])
    (fun i x rec hx hh => by
      have hlt := len_lt hx
      have hx2 : ((nexts c).map cmt)[i]? = some (cmt x) := by simp [hx]
      show law09LadderNexts_b3 N c _ _ _ _ rec (i : Int) = _
      have hnl' : (nexts c).length ≤ (T c).length := hnl
      rw [law09LadderNexts_b3, if_pos (decide_eq_true (by omega)), idx_at hx, idx_at hx2, w64_succ (i := i) (by omega), hh]
      simp [cmt]) (by have hnl' : (nexts c).length ≤ (T c).length := hnl; omega)
  exact key
end Go.Proofs.Ytbceakhnnnfiaaa
