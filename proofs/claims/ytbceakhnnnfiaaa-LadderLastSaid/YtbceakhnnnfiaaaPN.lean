/-
  The open matches, by the document; who may win, by its members.
-/
import Derived.Test.YtbceakhnnnfiaaaPX
set_option linter.all false
namespace Go.Proofs.Ytbceakhnnnfiaaa
open Go.Kp
theorem nextl_len (c : Ref09Cup) (j : Nat) : (nextl c j).length ≤ j := by
  unfold nextl; exact Nat.le_trans (List.length_filterMap_le _ _) (by simp)
theorem mem_mays {c : Ref09Cup} {p : Int} : p ∈ mays c ↔ 0 ≤ p ∧ p < c.fPlayers ∧ (cst (bmap c) (lst c) p).isSome = true := by
  unfold mays mayl
  rw [List.mem_filterMap]
  constructor
  · rintro ⟨n, hn, h⟩
    have := List.mem_range.1 hn
    split at h
    · rename_i q; cases h; rw [isSome_cst] at q; exact ⟨by omega, by omega, q⟩
    · cases h
  · rintro ⟨h0, h1, h2⟩
    refine ⟨p.toNat, List.mem_range.2 (by omega), ?_⟩
    rw [show ((p.toNat : Nat) : Int) = p from by omega, isSome_cst, if_pos h2]
theorem mem_mays' {c : Ref09Cup} (hv : Val c) {p : Int} : p ∈ mays c ↔ (cst (bmap c) (lst c) p).isSome = true := by
  rw [mem_mays]
  constructor
  · exact fun h => h.2.2
  · intro h
    cases e : cst (bmap c) (lst c) p with
    | none => rw [e] at h; cases h
    | some x => have := cst_nn (bmap_good hv.ok) e; exact ⟨this.2.1, this.2.2, rfl⟩
theorem may_iff {c : Ref09Cup} (hv : Val c) {p : Int} : p ∈ mays c ↔ ∃ w, IsC c w ∧ w.getD (lst c) 0 = p := by
  rw [mem_mays' hv]
  constructor
  · intro h
    cases e : cst (bmap c) (lst c) p with
    | none => rw [e] at h; cases h
    | some x => obtain ⟨w, h1, h2, _⟩ := ex_up hv (bmap_good hv.ok) e; exact ⟨w, h1, h2⟩
  · rintro ⟨w, hw, rfl⟩
    obtain ⟨x, hx, _⟩ := course_up hv (bmap_good hv.ok) hw
    rw [hx]; rfl
theorem mays_pw (c : Ref09Cup) : (mays c).Pairwise (· < ·) := by
  unfold mays mayl
  refine List.Pairwise.filterMap (R := fun a b : Nat => a < b) (S := (· < ·)) _ ?_ List.pairwise_lt_range
  intro a a' hlt b hb b' hb'
  split at hb
  · split at hb'
    · cases hb; cases hb'; exact Int.ofNat_lt.2 hlt
    · cases hb'
  · cases hb
theorem mays_nodup (c : Ref09Cup) : (mays c).Nodup := (mays_pw c).imp fun h => by omega
section
variable {N : Nat} (hN : 4000 ≤ N)
include hN
theorem nextR_eq {c : Ref09Cup} (hv : Val c) : ref09Next N c = some ((nexts c).map cmt) := by
  have ff := hv.ff
  have hl := hv.len
  unfold ref09Next
  rw [rT_eq hN hv.form, Option.bind_some]
  have key := loop_list (N := N) (B := fun rec3 x => ref09Next_b1 N c (T c) rec3 x.1 x.2) (T c) (fun i (a : List Ref09Match) => ((i : Int), a)) (fun _ _ => some ((nexts c).map cmt)) (fun i a => a = (nextl c i).map cmt)
    (fun a rec hok => by
      subst hok
      show ref09Next_b1 N c _ rec _ _ = _
      rw [ref09Next_b1, if_neg (by simp)]; rfl)
    (fun i x a rec hx hok hh => by
      have hlt := len_lt hx
      subst hok
      have hll := nextl_len c i
      have hkn := hv.known hlt
      have hs : nextl c (i + 1) = nextl c i ++ (if opn c i then some (LadderMatch.mk (i : Int) (known c (fs (T c) i)) (known c (sn (T c) i)) (cnt (known c (fs (T c) i)) (gm c i)) (cnt (known c (sn (T c) i)) (gm c i))) else none).toList := fmap_succ _ i
      show ref09Next_b1 N c _ rec (i : Int) _ = _
      rw [ref09Next_b1, if_pos (decide_eq_true (by omega)), idxn hN hlt]
      simp only [Option.bind_some, known_eq hN c hv.sz, won_eq hN c hv.sz, find_eq hN c hv.sz.r, w64_succ (i := i) (by omega)]
      rw [show ((T c).getD i dP).fFirst = fs (T c) i from rfl, show ((T c).getD i dP).fSecond = sn (T c) i from rfl]
      have hno : opn c i = false → rec (((i + 1 : Nat) : Int), (nextl c i).map cmt) = some ((nexts c).map cmt) := by
        intro ho
        rw [ho] at hs
        refine hh _ ?_
        rw [hs]; simp
      by_cases w1 : known c (fs (T c) i) = -1
      · simp only [w1, show ((-1 : Int) < 0) from by omega, decide_true, if_true, Option.bind_some]
        exact hno (by unfold opn; simp [w1])
      · by_cases w2 : known c (sn (T c) i) = -1
        · simp only [show ¬ known c (fs (T c) i) < 0 from by omega, w2, show ((-1 : Int) < 0) from by omega, decide_true, decide_false, Bool.false_eq_true, if_false, if_true, Option.bind_some]
          exact hno (by unfold opn; simp [w2])
        · have hw := hv.won i
          by_cases w3 : won c (i : Int) = -1
          · have ho : opn c i = true := by unfold opn; simp [w1, w2, w3]
            simp only [show ¬ known c (fs (T c) i) < 0 from by omega, show ¬ known c (sn (T c) i) < 0 from by omega, w3, show ¬ ((0 : Int) ≤ -1) from by omega, decide_false, Bool.false_eq_true, if_false, Option.bind_some]
            have hm : (if decide (0 ≤ fix c (i : Int)) then
                Option.bind (idx c.fResults (fix c (i : Int))) fun x48 => Option.bind (ref09Wins N x48.fGames (known c (fs (T c) i))) fun r193 => Option.bind (ref09Wins N x48.fGames (known c (sn (T c) i))) fun r194 => some (Ref09Match.mk (i : Int) (known c (fs (T c) i)) (known c (sn (T c) i)) r193 r194)
              else some (Ref09Match.mk (i : Int) (known c (fs (T c) i)) (known c (sn (T c) i)) 0 0)) = some (Ref09Match.mk (i : Int) (known c (fs (T c) i)) (known c (sn (T c) i)) (cnt (known c (fs (T c) i)) (gm c i)) (cnt (known c (sn (T c) i)) (gm c i))) := by
              unfold gm
              cases e : res c (i : Int) with
              | none => rw [fix_none e]; rfl
              | some r =>
                have hf := fix_some e
                have hg := hv.sz.g r (res_mem e).1
                simp only [hf.1, decide_true, if_true, hf.2.1, Option.bind_some, wins_eq hN _ _ hg]
            rw [hm, Option.bind_some, app_ok (by simp; omega)]
            simp only [Option.bind_some]
            refine hh _ ?_
            rw [hs, ho, List.map_append]; rfl
          · simp only [show ¬ known c (fs (T c) i) < 0 from by omega, show ¬ known c (sn (T c) i) < 0 from by omega, show (0 : Int) ≤ won c (i : Int) from by omega, decide_false, decide_true, Bool.false_eq_true, if_false, if_true, Option.bind_some]
            exact hno (by unfold opn; simp [w3])) (by omega) [] rfl
  have key' : loopN (fun rec3 x => ref09Next_b1 N c (T c) rec3 x.1 x.2) N ((0 : Int), ([] : List Ref09Match)) = some ((nexts c).map cmt) := key
  rw [key', Option.bind_some]
end
end Go.Proofs.Ytbceakhnnnfiaaa
