/-
  The law LadderMays.
-/
import Derived.Test.YtbceakhnnnfiaaaPX
import Derived.Test.YtbceakhnnnfiaaaDLadderMays
set_option linter.all false
namespace Go.Proofs.Ytbceakhnnnfiaaa
open Go.Kp
theorem mayl_len (c : Ref09Cup) (m : BM) (j : Nat) : (mayl c m j).length ≤ j := by
  unfold mayl; exact Nat.le_trans (List.length_filterMap_le _ _) (by simp)
theorem mays_true {N : Nat} (hN : 4000 ≤ N) (c : Ref09Cup) : law09LadderMays N c = some true := by
  unfold law09LadderMays
  rw [few_eq hN, Option.bind_some, wakes_ok hN]
  by_cases h : few c = true
  rotate_left
  · simp [h]
  obtain ⟨ht, h9⟩ := few_iff.1 h
  have hs := thin_sz ht
  simp only [h, Bool.not_true, Bool.false_eq_true, if_false]
  rw [cup_eq hN c hs, Option.bind_some, mayWin_eq hN c hs.r, fault'_eq hN]
  by_cases q : flt c = 0
  rotate_left
  · simp [q]
  have hv := val_iff.1 q
  have ff := hv.ff
  simp only [q, if_true, Option.bind_some, decide_true, Bool.not_true, Bool.false_eq_true, if_false]
  rw [leastR_eq hN hv (h9 q), Option.bind_some]
  have hll : (leasts c).length = c.fPlayers.toNat := by simp [leasts, players]
  have key := loop_list (N := N) (B := fun rec3 x => law09LadderMays_b1 N (leasts c) rec3 x.1 x.2) (leasts c) (fun i (a : List Int) => ((i : Int), a)) (fun _ _ => some (mays c)) (fun i a => a = mayl c (bmap c) i)
    (fun a rec hok => by
      subst hok
      show law09LadderMays_b1 N _ rec _ _ = _
      rw [law09LadderMays_b1, if_neg (by simp), hll]; rfl)
    (fun i x a rec hx hok hh => by
      have hlt := len_lt hx
      rw [hll] at hlt
      subst hok
      have hx2 : x = leastv c (i : Int) := by
        have : (leasts c)[i]? = some (leastv c (i : Int)) := by simp [leasts, players, hlt]
        rw [this] at hx; exact (Option.some.inj hx).symm
      have hl := mayl_len c (bmap c) i
      have hsucc : mayl c (bmap c) (i + 1) = mayl c (bmap c) i ++ (if (mget (bmap c) ⟨(lst c : Int), (i : Int)⟩).isSome then some (i : Int) else none).toList := fmap_succ _ i
      show law09LadderMays_b1 N _ rec (i : Int) _ = _
      rw [law09LadderMays_b1, if_pos (decide_eq_true (by omega)), idx_at hx]
      simp only [Option.bind_some, w64_succ (i := i) (by omega)]
      have hiff : (0 ≤ x) ↔ (mget (bmap c) ⟨(lst c : Int), (i : Int)⟩).isSome = true := by
        rw [hx2, isSome_cst]
        unfold leastv
        cases e : cst (bmap c) (lst c : Int) (i : Int) with
        | none => simp
        | some y => have := (cst_nn (bmap_good hv.ok) e).1; simp [this]
      by_cases e : 0 ≤ x
      · rw [if_pos (hiff.1 e)] at hsucc
        rw [if_pos (decide_eq_true e), app_ok (by simp; omega)]
        simp only [Option.bind_some]
        exact hh _ hsucc.symm
      · rw [if_neg (fun h => e (hiff.2 h))] at hsucc
        rw [if_neg (by simpa using e)]
        simp only [Option.bind_some]
        exact hh _ (by simpa using hsucc.symm)) (by omega) [] rfl
  have key' : loopN (fun rec3 x => law09LadderMays_b1 N (leasts c) rec3 x.1 x.2) N ((0 : Int), ([] : List Int)) = some (mays c) := key
  have hml := mayl_len c (bmap c) c.fPlayers.toNat
  rw [key', Option.bind_some, ints_eq hN _ _ (by show (mayl c (bmap c) c.fPlayers.toNat).length ≤ 3000; omega)]
  simp
end Go.Proofs.Ytbceakhnnnfiaaa
