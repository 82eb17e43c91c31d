/-
  The law LadderTrees.
-/
import Derived.Test.YtbceakhnnnfiaaaPX
import Derived.Test.YtbceakhnnnfiaaaDLadderTrees
set_option linter.all false
namespace Go.Proofs.Ytbceakhnnnfiaaa
open Go.Kp
theorem trees_true {N : Nat} (hN : 4000 ≤ N) (c : Ref09Cup) : law09LadderTrees N c = some true := by
  unfold law09LadderTrees
  rw [thin_eq hN, Option.bind_some, wakes_ok hN]
  by_cases h : thin c = true
  rotate_left
  · simp [h]
  have hs := thin_sz h
  simp only [h, Bool.not_true, Bool.false_eq_true, if_false]
  rw [cup_eq hN c hs]
  simp only [Option.bind_some, checkCup_eq hN c hs.r, tree_eq hN c, fault'_eq hN, isForm_eq, decide_true, Bool.not_true, Bool.false_eq_true, if_false]
  by_cases hf : form c = true
  rotate_left
  · simp [hf]
  have ff := form_iff.1 hf
  have hl := T_len hf
  simp only [hf, Bool.not_true, Bool.false_eq_true, if_false, if_true, rT_eq hN hf, Option.bind_some, decide_true, List.length_map]
  have key := loop_list0 (N := N) (B := fun rec3 x => law09LadderTrees_b2 N ((T c).map cpr) (T c) rec3 x) (T c) (fun i => (i : Int)) (fun _ => some true)
    (fun rec => by
      show law09LadderTrees_b2 N _ _ rec _ = _
      rw [law09LadderTrees_b2, if_neg (by simp)]
      unfold law09LadderTrees_k1
      rw [wakes_ok hN]; rfl)
    (fun i x rec hx hh => by
      have hlt := len_lt hx
      have hx2 : ((T c).map cpr)[i]? = some (cpr x) := by simp [hx]
      show law09LadderTrees_b2 N _ _ rec (i : Int) = _
      rw [law09LadderTrees_b2, if_pos (decide_eq_true (show (i : Int) < (((T c).map cpr).length : Int) from by rw [List.length_map]; omega)), idx_at hx, idx_at hx2, w64_succ (i := i) (by omega), hh]
      simp [cpr, csd]) (by omega)
  exact key
end Go.Proofs.Ytbceakhnnnfiaaa
