/-
  The law LadderNames.
-/
import Derived.Test.YtbceakhnnnfiaaaPS
import Derived.Test.YtbceakhnnnfiaaaDLadderNames
set_option linter.all false
namespace Go.Proofs.Ytbceakhnnnfiaaa
open Go.Kp
def dn : Ref09Cup := ⟨0, 5, 3, [⟨0, [4, 4], false⟩, ⟨1, [0, 0], false⟩, ⟨2, [2, 1, 2], false⟩, ⟨3, [2, 2], false⟩]⟩
def late : Ref09Cup := ⟨0, 5, 3, [⟨0, [4, 4], true⟩, ⟨1, [0, 0], false⟩, ⟨2, [2, 1, 2], false⟩, ⟨3, [2, 2], false⟩]⟩
def n0 : Ref09Cup := ⟨0, 5, 3, []⟩
def nl : Ref09Cup := ⟨1, 3, 1, []⟩
def nb : Ref09Cup := ⟨0, 5, 2, []⟩
def nm : Ref09Cup := ⟨0, 5, 3, List.replicate 16 ⟨0, [], false⟩⟩
def o1 : Ref09Cup := ⟨0, 5, 3, [⟨0, [], false⟩]⟩
def o2 : Ref09Cup := ⟨0, 5, 3, [⟨0, [4], false⟩, ⟨0, [4], false⟩]⟩
def o3 : Ref09Cup := ⟨0, 5, 3, [⟨1, [0], false⟩]⟩
def o4 : Ref09Cup := ⟨0, 5, 3, [⟨0, [4, 4, 3], false⟩]⟩
def o5 : Ref09Cup := ⟨0, 5, 3, [⟨0, [2], false⟩]⟩
def o6 : Ref09Cup := ⟨0, 5, 3, [⟨4, [2], false⟩]⟩
theorem f_dn : flt dn = 0 := by decide +kernel
theorem w_dn : winner dn = (2, 0) := by decide +kernel
theorem w_n0 : winner n0 = (0, 7) := by decide +kernel
theorem w_late : winner late = (0, 8) := by decide +kernel
theorem u_w1 : ups w1 2 = (2, 0) := by decide +kernel
theorem u_dn : ups dn 5 = (0, 2) := by decide +kernel
theorem u_dn1 : ups dn 1 = (0, 9) := by decide +kernel
theorem m_w2 : mays w2 = [0, 1, 2, 3, 4] := by decide +kernel
theorem p_dn : (isCb dn [4, 0, 2, 2] && decide (upR dn [4, 0, 2, 2] ≤ 0)) = true := by decide +kernel
theorem q_dn : (isCb dn [4, 4, 2, 2] && decide (upR dn [4, 4, 2, 2] ≤ 9)) = false := by decide +kernel
theorem f_nm : flt nm = 3 := by decide +kernel
theorem f_o1 : flt o1 = 1 := by decide +kernel
theorem f_o2 : flt o2 = 6 := by decide +kernel
theorem f_o3 : flt o3 = 10 := by decide +kernel
theorem f_o4 : flt o4 = 10 := by decide +kernel
theorem f_o5 : flt o5 = 10 := by decide +kernel
theorem f_o6 : flt o6 = 1 := by decide +kernel
theorem t_n0 : (if form n0 then ((T n0).map cpr, (0 : Int)) else ([], 1)) = ([⟨⟨3, -1⟩, ⟨4, -1⟩⟩, ⟨⟨0, -1⟩, ⟨-1, 0⟩⟩, ⟨⟨1, -1⟩, ⟨2, -1⟩⟩, ⟨⟨-1, 1⟩, ⟨-1, 2⟩⟩], 0) := by decide +kernel
theorem t_nl : (if form nl then ((T nl).map cpr, (0 : Int)) else ([], 1)) = ([⟨⟨1, -1⟩, ⟨2, -1⟩⟩, ⟨⟨0, -1⟩, ⟨-1, 0⟩⟩], 0) := by decide +kernel
theorem t_nb : (if form nb then ((T nb).map cpr, (0 : Int)) else ([], 1)) = ([], 1) := by decide +kernel
theorem names_true {N : Nat} (hN : 4000 ≤ N) : law09LadderNames N (fun b => b = true) := by
  have e0 : (⟨0, 5, 3, []⟩ : LadderCup) = cc n0 := rfl
  have el : (⟨1, 3, 1, []⟩ : LadderCup) = cc nl := rfl
  have e1 : (⟨0, 5, 3, [⟨0, [4, 3, 4], false⟩, ⟨2, [1], false⟩]⟩ : LadderCup) = cc w1 := rfl
  have e2 : (⟨0, 5, 3, [⟨0, [4, 3, 4], true⟩, ⟨1, [4, 4], false⟩]⟩ : LadderCup) = cc w2 := rfl
  have ed : (⟨0, 5, 3, [⟨0, [4, 4], false⟩, ⟨1, [0, 0], false⟩, ⟨2, [2, 1, 2], false⟩, ⟨3, [2, 2], false⟩]⟩ : LadderCup) = cc dn := rfl
  have hk2 : law09LadderNames_k2 N (cc dn) false (fun b => b = true) := by
    unfold law09LadderNames_k2 law09LadderNames_k1 law09Five law09Result
    rw [if_neg (by decide), app_ok (by simp [cc, dn]; omega), bindO_some]
    have hi : idx ([] ++ (cc dn).fResults) 0 = some ⟨0, [4, 4], false⟩ := rfl
    rw [hi]
    simp only [bindO_some]
    have ela : (LadderCup.mk (cc dn).fForm (cc dn).fPlayers (cc dn).fGames (List.set ([] ++ (cc dn).fResults) (Int.toNat 0) (LadderResult.mk 0 [4, 4] true))) = cc late := rfl
    rw [e0, winner_eq hN n0 (by decide), w_n0, bindO_some, ela, winner_eq hN late (by decide), w_late, bindO_some, upsets_eq hN dn (by decide), u_dn, bindO_some]
    show (Go.Kp.bindW (ladderWay N (cc dn) 1) _) _
    refine way_wp hN dn (by decide) 1 _ (fun _ => ?_) (fun h => ?_)
    · rw [u_dn1]
      have em : mkl N 16 (LadderResult.mk 0 [] false) = some (List.replicate 16 (LadderResult.mk 0 [] false)) := by unfold mkl; rw [if_pos (by omega)]; rfl
      have eb : (⟨0, 5, 2, []⟩ : LadderCup) = cc nb := rfl
      have enm : (⟨(cc n0).fForm, (cc n0).fPlayers, (cc n0).fGames, List.replicate 16 (LadderResult.mk 0 [] false)⟩ : LadderCup) = cc nm := rfl
      have enm2 : (⟨0, 5, 3, List.replicate 16 (LadderResult.mk 0 [] false)⟩ : LadderCup) = cc nm := rfl
      have eo1 : (⟨0, 5, 3, [⟨0, [], false⟩]⟩ : LadderCup) = cc o1 := rfl
      have eo2 : (⟨0, 5, 3, [⟨0, [4], false⟩, ⟨0, [4], false⟩]⟩ : LadderCup) = cc o2 := rfl
      have eo3 : (⟨0, 5, 3, [⟨1, [0], false⟩]⟩ : LadderCup) = cc o3 := rfl
      have eo4 : (⟨0, 5, 3, [⟨0, [4, 4, 3], false⟩]⟩ : LadderCup) = cc o4 := rfl
      have eo5 : (⟨0, 5, 3, [⟨0, [2], false⟩]⟩ : LadderCup) = cc o5 := rfl
      have eo6 : (⟨0, 5, 3, [⟨4, [2], false⟩]⟩ : LadderCup) = cc o6 := rfl
      simp only [em, bindO_some, eb, tree_eq hN nb, t_nb]
      simp only [decide_true, if_true, enm, enm2, eo1, eo2, eo3, eo4, eo5, eo6, checkCup_eq hN nm (by decide), checkCup_eq hN o1 (by decide), checkCup_eq hN o2 (by decide), checkCup_eq hN o3 (by decide), checkCup_eq hN o4 (by decide), checkCup_eq hN o5 (by decide), checkCup_eq hN o6 (by decide), f_nm, f_o1, f_o2, f_o3, f_o4, f_o5, f_o6, bindO_some, wakes_ok hN]
      rfl
    · rw [u_dn1] at h; exact absurd h (by decide)
  have hrest : ∀ r24, r24 = cc dn → True := fun _ _ => trivial
  unfold law09LadderNames law09Five law09Result
  simp only [bindO_some]
  rw [e0, el, e1, e2, ed, tree_eq hN n0, t_n0, bindO_some, tree_eq hN nl, t_nl, bindO_some, upsets_eq hN w1 (by decide), u_w1, bindO_some, mayWin_eq hN w2 (by decide), w2_flt, m_w2, if_pos rfl, bindO_some, winner_eq hN dn (by decide), w_dn, bindO_some]
  have i0 : idx ([⟨⟨3, -1⟩, ⟨4, -1⟩⟩, ⟨⟨0, -1⟩, ⟨-1, 0⟩⟩, ⟨⟨1, -1⟩, ⟨2, -1⟩⟩, ⟨⟨-1, 1⟩, ⟨-1, 2⟩⟩] : List LadderPair) 0 = some ⟨⟨3, -1⟩, ⟨4, -1⟩⟩ := rfl
  have i1 : idx ([⟨⟨3, -1⟩, ⟨4, -1⟩⟩, ⟨⟨0, -1⟩, ⟨-1, 0⟩⟩, ⟨⟨1, -1⟩, ⟨2, -1⟩⟩, ⟨⟨-1, 1⟩, ⟨-1, 2⟩⟩] : List LadderPair) 1 = some ⟨⟨0, -1⟩, ⟨-1, 0⟩⟩ := rfl
  have i3 : idx ([⟨⟨3, -1⟩, ⟨4, -1⟩⟩, ⟨⟨0, -1⟩, ⟨-1, 0⟩⟩, ⟨⟨1, -1⟩, ⟨2, -1⟩⟩, ⟨⟨-1, 1⟩, ⟨-1, 2⟩⟩] : List LadderPair) 3 = some ⟨⟨-1, 1⟩, ⟨-1, 2⟩⟩ := rfl
  have j1 : idx ([⟨⟨1, -1⟩, ⟨2, -1⟩⟩, ⟨⟨0, -1⟩, ⟨-1, 0⟩⟩] : List LadderPair) 1 = some ⟨⟨0, -1⟩, ⟨-1, 0⟩⟩ := rfl
  have l4 : ((([⟨⟨3, -1⟩, ⟨4, -1⟩⟩, ⟨⟨0, -1⟩, ⟨-1, 0⟩⟩, ⟨⟨1, -1⟩, ⟨2, -1⟩⟩, ⟨⟨-1, 1⟩, ⟨-1, 2⟩⟩] : List LadderPair).length : Nat) : Int) = 4 := rfl
  have l2 : ((([⟨⟨1, -1⟩, ⟨2, -1⟩⟩, ⟨⟨0, -1⟩, ⟨-1, 0⟩⟩] : List LadderPair).length : Nat) : Int) = 2 := rfl
  simp only [i0, i1, i3, j1, l4, l2, decide_true, Bool.not_true, Bool.false_eq_true, if_false, bindO_some, ints_eq hN ([0, 1, 2, 3, 4]) ([0, 1, 2, 3, 4]) (by simp), proveWay_eq hN dn (by decide), f_dn, Bool.true_and, p_dn, q_dn]
  exact hk2
end Go.Proofs.Ytbceakhnnnfiaaa
