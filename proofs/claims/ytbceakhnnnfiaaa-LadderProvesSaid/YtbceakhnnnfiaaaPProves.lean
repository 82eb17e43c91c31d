/-
  The law LadderProves.
-/
import Derived.Test.YtbceakhnnnfiaaaPO
import Derived.Test.YtbceakhnnnfiaaaDLadderProves
set_option linter.all false
namespace Go.Proofs.Ytbceakhnnnfiaaa
open Go.Kp
theorem proves_true {N : Nat} (hN : 4000 ≤ N) (c : Ref09Cup) (w : List Int) (u : Int) : law09LadderProves N c w u = some true := by
  unfold law09LadderProves
  rw [thin_eq hN, Option.bind_some, wakes_ok hN]
  by_cases h : thin c = true
  rotate_left
  · simp [h]
  have hs := thin_sz h
  by_cases hw : w.length ≤ 20
  rotate_left
  · have : (20 : Int) < (w.length : Int) := by omega
    simp [h, this]
  have hw' : ¬ (20 : Int) < (w.length : Int) := by omega
  simp only [h, hw', Bool.not_true, Bool.false_eq_true, if_false, decide_false, Option.bind_some]
  rw [cup_eq hN c hs, list_eq hN (by omega)]
  simp only [Option.bind_some, fault_eq hN, proveWay_eq hN c hs.r]
  by_cases q : flt c = 0
  rotate_left
  · simp [q]
  have hv := val_iff.1 q
  simp only [q, decide_true, if_true, isCourse_eq hN hv, Option.bind_some, Bool.true_and]
  by_cases hc : isCb c w = true
  · rw [upsetsR_eq hN hv.form hv.sz (isCb_iff.1 hc).len]
    simp [hc]
  · simp [hc]
end Go.Proofs.Ytbceakhnnnfiaaa
