/-
  The law LadderHangs.
-/
import Derived.Test.YtbceakhnnnfiaaaPMays
import Derived.Test.YtbceakhnnnfiaaaDLadderHangs
set_option linter.all false
namespace Go.Proofs.Ytbceakhnnnfiaaa
open Go.Kp
theorem hangl_len (c : Ref09Cup) (m : BM) (j : Nat) : (hangl c m j).length ≤ j := by
  unfold hangl; exact Nat.le_trans (List.length_filterMap_le _ _) (by simp)
theorem hangsR_eq {N : Nat} (hN : 4000 ≤ N) {c : Ref09Cup} (hv : Val c) (h9 : c.fPlayers ≤ 9) : ref09Hangs N c = some (hangs c) := by
  have ff := hv.ff
  have hl := hv.len
  have hg := bmap_good hv.ok
  have hclen := crs_len c (T c).length []
  have hpk : 2 ^ (T c).length ≤ 256 := Nat.le_trans (Nat.pow_le_pow_right (by omega) (show (T c).length ≤ 8 by omega)) (by decide)
  unfold ref09Hangs
  rw [rT_eq hN hv.form, Option.bind_some, all_courses hN hv.form hv.sz h9, Option.bind_some]
  have key := loop_list (N := N) (B := fun rec23 x => ref09Hangs_b2 N c (T c) (crs c (T c).length []) rec23 x.1 x.2) (T c) (fun i (a : List Int) => ((i : Int), a)) (fun _ _ => some (hangs c)) (fun i a => a = hangl c (bmap c) i)
    (fun a rec hok => by
      subst hok
      show ref09Hangs_b2 N c _ _ rec _ _ = _
      rw [ref09Hangs_b2, if_neg (by simp)]; rfl)
    (fun i x a rec hx hok hh => by
      have hlt := len_lt hx
      subst hok
      have hll := hangl_len c (bmap c) i
      have hsucc : hangl c (bmap c) (i + 1) = hangl c (bmap c) i ++ (if won c (i : Int) ≠ -1 ∧ prot c i = false ∧ sure c (bmap c) i = false then some (i : Int) else none).toList := fmap_succ _ i
      show ref09Hangs_b2 N c _ _ rec (i : Int) _ = _
      rw [ref09Hangs_b2, if_pos (decide_eq_true (by omega)), find_eq hN c hv.sz.r, won_eq hN c hv.sz, w64_succ (i := i) (by omega)]
      simp only [Option.bind_some]
      have hno : ¬ (won c (i : Int) ≠ -1 ∧ prot c i = false ∧ sure c (bmap c) i = false) → rec (((i + 1 : Nat) : Int), hangl c (bmap c) i) = some (hangs c) := by
        intro hn
        rw [if_neg hn] at hsucc
        exact hh _ (by simpa using hsucc.symm)
      cases e : res c (i : Int) with
      | none =>
        rw [fix_none e]
        simp only [show ((-1 : Int) < 0) from by omega, decide_true, if_true, Option.bind_some]
        refine hno fun h => h.1 ?_
        unfold won; rw [e]
      | some r =>
        have hf := fix_some e
        have : ¬ fix c (i : Int) < 0 := by omega
        have hp : prot c i = r.fProtested := by unfold prot; rw [e]
        simp only [this, decide_false, Bool.false_eq_true, if_false, hf.2.1, Option.bind_some]
        cases hpr : r.fProtested with
        | true =>
          simp only [if_true, Option.bind_some]
          exact hno fun h => by rw [hp, hpr] at h; exact absurd h.2.1 (by simp)
        | false =>
          simp only [Bool.false_eq_true, if_false, Option.bind_some]
          rcases hv.won i with hw | hw
          · simp only [hw, show ((-1 : Int) < 0) from by omega, decide_true, if_true, Option.bind_some]
            exact hno fun h => h.1 hw
          · have hw' : ¬ won c (i : Int) < 0 := by omega
            simp only [hw', decide_false, Bool.false_eq_true, if_false, Option.bind_some]
            have hin := loop_list (N := N) (B := fun rec27 x => ref09Hangs_b1 N c (T c) (crs c (T c).length []) (i : Int) rec27 x.1 x.2) (crs c (T c).length []) (fun k (a : Bool) => (a, (k : Int))) (fun l a => some (a || l.any fun w => !hlds c i w)) (fun _ _ => True)
              (fun a rec' _ => by
                show ref09Hangs_b1 N c _ _ _ rec' _ _ = _
                rw [ref09Hangs_b1, if_neg (by simp)]; simp)
              (fun k w a rec' hw _ hh' => by
                have hlt' := len_lt hw
                have hwm : IsC c w := (mem_all hv.ok w).1 (List.mem_of_getElem? hw)
                show ref09Hangs_b1 N c _ _ _ rec' a (k : Int) = _
                rw [ref09Hangs_b1, if_pos (decide_eq_true (by omega)), idx_at hw, w64_succ (i := k) (by omega)]
                simp only [Option.bind_some, holds_eq hN hv.form hv.sz hlt (w := w) (by rw [hwm.len]; omega)]
                cases a with
                | true => simp only [if_true, Option.bind_some]; rw [hh' true trivial]; simp
                | false => simp only [Bool.false_eq_true, if_false, Option.bind_some]; rw [hh' _ trivial]; simp) (by omega) false trivial
            have hin' : loopN (fun rec27 x => ref09Hangs_b1 N c (T c) (crs c (T c).length []) (i : Int) rec27 x.1 x.2) N (false, (0 : Int)) = some ((crs c (T c).length []).any fun w => !hlds c i w) := by
              have := hin; simp only [Bool.false_or] at this; exact this
            rw [hin', Option.bind_some]
            have hsu := sure_iff hv hg hlt (by omega)
            by_cases ha : ((crs c (T c).length []).any fun w => !hlds c i w) = true
            · have hsf : sure c (bmap c) i = false := by
                rw [← Bool.not_eq_true]
                intro hsq
                obtain ⟨w, hw1, hw2⟩ := List.any_eq_true.1 ha
                have := hsu.1 hsq w ((mem_all hv.ok w).1 hw1)
                rw [this] at hw2; simp at hw2
              rw [if_pos ⟨by omega, by rw [hp, hpr], hsf⟩] at hsucc
              rw [if_pos ha, app_ok (by simp; omega)]
              simp only [Option.bind_some]
              exact hh _ hsucc.symm
            · have hst : sure c (bmap c) i = true := by
                refine hsu.2 fun w hw => ?_
                rw [List.any_eq_true] at ha
                cases hq : hlds c i w with
                | true => rfl
                | false => exact absurd ⟨w, (mem_all hv.ok w).2 hw, by rw [hq]; rfl⟩ ha
              rw [if_neg ha]
              simp only [Option.bind_some]
              exact hno fun h => by rw [hst] at h; exact absurd h.2.2 (by simp)) (by omega) [] rfl
  have key' : loopN (fun rec23 x => ref09Hangs_b2 N c (T c) (crs c (T c).length []) rec23 x.1 x.2) N ((0 : Int), ([] : List Int)) = some (hangs c) := key
  rw [key', Option.bind_some]
theorem hangs_true {N : Nat} (hN : 4000 ≤ N) (c : Ref09Cup) : law09LadderHangs N c = some true := by
  unfold law09LadderHangs
  rw [few_eq hN, Option.bind_some, wakes_ok hN]
  by_cases h : few c = true
  rotate_left
  · simp [h]
  obtain ⟨ht, h9⟩ := few_iff.1 h
  have hs := thin_sz ht
  simp only [h, Bool.not_true, Bool.false_eq_true, if_false]
  rw [cup_eq hN c hs, Option.bind_some, hangs_eq hN c hs.r, fault'_eq hN]
  by_cases q : flt c = 0
  rotate_left
  · simp [q]
  have hv := val_iff.1 q
  have ff := hv.ff
  have hl := hv.len
  simp only [q, if_true, Option.bind_some, decide_true, Bool.not_true, Bool.false_eq_true, if_false]
  have hhl := hangl_len c (bmap c) (T c).length
  rw [hangsR_eq hN hv (h9 q), Option.bind_some, ints_eq hN _ _ (by show (hangl c (bmap c) (T c).length).length ≤ 3000; omega)]
  simp
end Go.Proofs.Ytbceakhnnnfiaaa
