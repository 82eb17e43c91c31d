/-
  The law LadderUpsets.
-/
import Derived.Test.YtbceakhnnnfiaaaPS
import Derived.Test.YtbceakhnnnfiaaaDLadderUpsets
set_option linter.all false
namespace Go.Proofs.Ytbceakhnnnfiaaa
open Go.Kp
theorem upsets_true {N : Nat} (hN : 4000 ≤ N) (c : Ref09Cup) (p : Int) : law09LadderUpsets N c p (fun b => b = true) := by
  unfold law09LadderUpsets
  rw [few_eq hN, bindO_some, wakes_ok hN]
  by_cases h : few c = true
  rotate_left
  · simp [h, bindO_some, retW]
  obtain ⟨ht, h9⟩ := few_iff.1 h
  have hs := thin_sz ht
  simp only [h, Bool.not_true, Bool.false_eq_true, if_false]
  rw [cup_eq hN c hs, bindO_some, upsets_eq hN c hs.r, bindO_some]
  simp only [bindO_some]
  have bad : ∀ (wnt : Int), wnt ≠ 0 → (ups c p) = (0, wnt) → law09LadderUpsets_k3 N c p (ups c p).1 (ups c p).2 [] wnt wnt 0 (fun b => b = true) := by
    intro wnt hw hu
    rw [hu]
    unfold law09LadderUpsets_k3 law09LadderUpsets_k1
    simp only [hw, decide_false, Bool.not_false, if_true, decide_true, wakes_ok hN, bindO_some]
    rfl
  show (Go.Kp.bindW (ladderWay N (cc c) p) _) _
  refine way_wp hN c hs.r p _ (fun hne => ?_) (fun h0 w hw hwp hup => ?_)
  · -- refused
    show (bindO (law09Fault N c) _) _
    rw [fault'_eq hN, bindO_some]
    by_cases q : flt c = 0
    · have hv := val_iff.1 q
      have ff := hv.ff
      rw [if_pos (decide_eq_true q), in_eq, bindO_some, w64_id (by omega) (by omega)]
      unfold law09LadderUpsets_k5 law09LadderUpsets_k4
      by_cases e : inr p 0 (c.fPlayers - 1) = true
      · have hi := inr_iff.1 e
        simp only [e, Bool.not_true, Bool.false_eq_true, if_false, q, decide_true, if_true]
        rw [leastR_eq hN hv (h9 q), bindO_some]
        have hidx : idx (leasts c) p = some (leastv c p) := by
          refine idx_int hi.1 ?_
          have : p.toNat < c.fPlayers.toNat := by omega
          have hpl : (players c.fPlayers.toNat)[p.toNat]? = some p := by simp [players, this]; omega
          unfold leasts
          rw [List.getElem?_map, hpl]; rfl
        rw [hidx, bindO_some]
        cases hx : cst (bmap c) (lst c : Int) p with
        | some x =>
          exfalso
          have : ups c p = (x, 0) := by unfold ups; rw [if_pos q, if_pos e, hx]
          rw [this] at hne; exact hne rfl
        | none =>
          have hu : ups c p = (0, 9) := by unfold ups; rw [if_pos q, if_pos e, hx]
          have hlv : leastv c p = -1 := by unfold leastv; rw [hx]; rfl
          rw [hlv, if_pos (by decide)]
          have := bad 9 (by decide) hu
          rw [hu] at this ⊢
          exact this
      · have hu : ups c p = (0, 2) := by unfold ups; rw [if_pos q, if_neg e]
        simp only [e, Bool.not_false, if_true]
        rw [if_neg (by decide)]
        have := bad 2 (by decide) hu
        rw [hu] at this ⊢
        exact this
    · have hu : ups c p = (0, flt c) := by unfold ups; rw [if_neg q]
      rw [if_neg (by simpa using q)]
      unfold law09LadderUpsets_k5 law09LadderUpsets_k4
      simp only [Bool.false_eq_true, if_false, q, decide_false]
      have := bad (flt c) q hu
      rw [hu] at this ⊢
      exact this
  · show (bindO (law09Fault N c) _) _
    rw [fault'_eq hN, bindO_some]
    have q : flt c = 0 := by
      refine Classical.byContradiction fun q => ?_
      unfold ups at h0; rw [if_neg q] at h0; exact q h0
    have hv := val_iff.1 q
    have ff := hv.ff
    have hl := hv.len
    have e : inr p 0 (c.fPlayers - 1) = true := by
      refine Classical.byContradiction fun e => ?_
      unfold ups at h0; rw [if_pos q, if_neg e] at h0; exact absurd h0 (by decide)
    have hi := inr_iff.1 e
    cases hx : cst (bmap c) (lst c : Int) p with
    | none => unfold ups at h0; rw [if_pos q, if_pos e, hx] at h0; exact absurd h0 (by decide)
    | some x =>
      have hu : ups c p = (x, 0) := by unfold ups; rw [if_pos q, if_pos e, hx]
      have hx0 := (cst_nn (bmap_good hv.ok) hx).1
      rw [if_pos (decide_eq_true q), in_eq, bindO_some, w64_id (by omega) (by omega)]
      unfold law09LadderUpsets_k5 law09LadderUpsets_k4
      simp only [e, Bool.not_true, Bool.false_eq_true, if_false, q, decide_true, if_true]
      rw [leastR_eq hN hv (h9 q), bindO_some]
      have hidx : idx (leasts c) p = some (leastv c p) := by
        refine idx_int hi.1 ?_
        have : p.toNat < c.fPlayers.toNat := by omega
        have hpl : (players c.fPlayers.toNat)[p.toNat]? = some p := by simp [players, this]; omega
        unfold leasts
        rw [List.getElem?_map, hpl]; rfl
      have hlv : leastv c p = x := by unfold leastv; rw [hx]; rfl
      have hwl := hw.len
      have hlast : idx w (w64 ((w.length : Int) - 1)) = some p := by
        rw [w64_id (by omega) (by omega), ← hwp]
        refine idx_int (by omega) ?_
        rw [show ((w.length : Int) - 1).toNat = lst c from by unfold lst; omega, List.getD_eq_getElem?_getD, List.getElem?_eq_getElem (by unfold lst; omega)]; rfl
      have hupx : upR c w = x := by rw [hup, hu]
      rw [hidx, bindO_some, hlv, hu, if_neg (by simp; omega)]
      unfold law09LadderUpsets_k3 law09LadderUpsets_k2
      simp only [decide_true, Bool.not_true, Bool.false_eq_true, if_false, if_true, isCourse_eq hN hv, isCb_iff.2 hw, bindO_some, hlast, upsetsR_eq hN hv.form hs hwl, hupx, wakes_ok hN]
      rfl
end Go.Proofs.Ytbceakhnnnfiaaa
