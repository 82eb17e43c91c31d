/-
  The law LadderMore.
-/
import Derived.Test.YtbceakhnnnfiaaaPOn
import Derived.Test.YtbceakhnnnfiaaaDLadderMore
set_option linter.all false
namespace Go.Proofs.Ytbceakhnnnfiaaa
open Go.Kp
theorem mays_len {c : Ref09Cup} (hv : Val c) : (mays c).length ≤ 3000 := by
  have := hv.ff; unfold mays mayl; exact Nat.le_trans (List.length_filterMap_le _ _) (by simp; omega)
section
variable {N : Nat} (hN : 4000 ≤ N)
include hN
theorem more_loop (a b : List Int) (ha : a.length ≤ 3000) (hb : b.length ≤ 3000) (hb0 : b ≠ []) (h : ∀ x ∈ b, x ∈ a) : loopN (fun rec3 x => law09LadderMore_b2 N a b rec3 x) N 0 = some true := by
  have hpos : 0 < b.length := Nat.pos_of_ne_zero fun h => hb0 (List.eq_nil_of_length_eq_zero h)
  exact loop_list0 (N := N) (B := fun rec3 x => law09LadderMore_b2 N a b rec3 x) b (fun i => (i : Int)) (fun _ => some true)
    (fun rec => by
      show law09LadderMore_b2 N _ _ rec _ = _
      rw [law09LadderMore_b2, if_neg (by simp)]
      unfold law09LadderMore_k1
      rw [if_pos (decide_eq_true (by omega)), wakes_ok hN]; rfl)
    (fun i x rec hx hh => by
      have hlt := len_lt hx
      show law09LadderMore_b2 N _ _ rec (i : Int) = _
      rw [law09LadderMore_b2, if_pos (decide_eq_true (by omega)), idx_at hx, w64_succ (i := i) (by omega), hh]
      simp [has_eq hN _ _ ha, h x (List.mem_of_getElem? hx)]) (by omega)
theorem more_k3 {c x : Ref09Cup} (hv : Val c) (hvx : Val x) (a : Int) (hxe : x = ⟨c.fForm, c.fPlayers, c.fGames, x.fResults⟩) (h1 : Int.tmod a 2 = 1 → ∀ p ∈ mays c, p ∈ mays x) (h2 : ¬ Int.tmod a 2 = 1 → ∀ p ∈ mays x, p ∈ mays c) :
    law09LadderMore_k3 N c a (mays c) 0 x.fResults = some true := by
  have hm := mays_len hv
  have hmx := mays_len hvx
  unfold law09LadderMore_k3
  rw [← hxe, cup_eq hN x hvx.sz, Option.bind_some, mayWin_eq hN x hvx.sz.r, val_iff.2 hvx]
  simp only [if_true, Option.bind_some, decide_true, Bool.not_true, Bool.false_eq_true, if_false]
  by_cases e : Int.tmod a 2 = 1
  · simp only [e, decide_true, if_true, Option.bind_some]
    exact more_loop hN _ _ hmx hm (mays_sound (m := bmap c) hv) (h1 e)
  · simp only [e, decide_false, Bool.false_eq_true, if_false, Option.bind_some]
    exact more_loop hN _ _ hm hmx (mays_sound (m := bmap x) hvx) (h2 e)
theorem more_true (c : Ref09Cup) (a b : Int) (ha : 0 ≤ a ∧ a ≤ 255) (hb : 0 ≤ b ∧ b ≤ 255) : law09LadderMore N c a b = some true := by
  unfold law09LadderMore
  rw [ready_eq hN, Option.bind_some, wakes_ok hN]
  by_cases h : ready c = true
  rotate_left
  · simp [h]
  obtain ⟨ht, hv⟩ := ready_iff.1 h
  have hs := thin_sz ht
  have hs2 := hs.r
  have ff := hv.ff
  have hl := hv.len
  have q := val_iff.2 hv
  have hnl : (nexts c).length ≤ (T c).length := nextl_len c (T c).length
  have ea : Int.tdiv a 2 = a / 2 := Int.tdiv_eq_ediv_of_nonneg ha.1
  have et : Int.tmod a 2 = a % 2 := Int.tmod_eq_emod_of_nonneg ha.1
  simp only [h, Bool.not_true, Bool.false_eq_true, if_false, cup_eq hN c hs, Option.bind_some, mayWin_eq hN c hs.r, q, if_true, w64_id (n := a) (by omega) (by omega), ea, w64_id (n := a / 2) (by omega) (by omega)]
  rw [app_ok (by simp; omega), Option.bind_some, List.nil_append]
  by_cases e0 : Int.tmod a 2 = 0
  · rw [if_pos (decide_eq_true e0), nextR_eq hN hv, Option.bind_some, List.length_map]
    by_cases e : nexts c = []
    · simp [e]
    have hpos : 0 < (nexts c).length := Nat.pos_of_ne_zero fun h => e (List.eq_nil_of_length_eq_zero h)
    have hne : ¬ ((nexts c).length : Int) = 0 := by omega
    have h0 := Int.emod_nonneg (a / 2) hne
    have h1 := Int.emod_lt_of_pos (a / 2) (show (0 : Int) < ((nexts c).length : Int) from by omega)
    simp only [hne, decide_false, Bool.false_eq_true, if_false, nz_ok hne, Option.bind_some, Int.tmod_eq_emod_of_nonneg (show 0 ≤ a / 2 from by omega)]
    obtain ⟨x, hx⟩ : ∃ x, (nexts c)[((a / 2) % ((nexts c).length : Int)).toNat]? = some x := ⟨_, List.getElem?_eq_getElem (by omega)⟩
    have hx' : ((nexts c).map cmt)[((a / 2) % ((nexts c).length : Int)).toNat]? = some (cmt x) := by rw [List.getElem?_map, hx]; rfl
    rw [idx_int h0 hx', Option.bind_some]
    obtain ⟨n, hn, ho, rfl⟩ := mem_next (List.mem_of_getElem? hx)
    simp only [cmt]
    obtain ⟨p, hp, hpp⟩ : ∃ p, (if decide (Int.tmod b 2 = 1) then some (known c (sn (T c) n)) else some (known c (fs (T c) n))) = some p ∧ (p = known c (fs (T c) n) ∨ p = known c (sn (T c) n)) := by
      by_cases e : Int.tmod b 2 = 1
      · exact ⟨_, by rw [if_pos (by simpa using e)], .inr rfl⟩
      · exact ⟨_, by rw [if_neg (by simpa using e)], .inl rfl⟩
    have hgl : (gm c n).length ≤ 4 := open_len hv (by simp only [opn, Bool.and_eq_true, decide_eq_true_eq] at ho; exact ho.2.2)
    rw [hp, Option.bind_some, find_eq hN c hs.r, Option.bind_some]
    have fin : ∀ x, Upd c ⟨c.fForm, c.fPlayers, c.fGames, x⟩ n p → law09LadderMore_k3 N c a (mays c) 0 x = some true := by
      intro x hu
      have hvx := upd_val hv hn ho hpp hu
      refine more_k3 hN (x := ⟨c.fForm, c.fPlayers, c.fGames, x⟩) hv hvx a rfl (fun e => by omega) fun _ p hp => ?_
      obtain ⟨w, hw, hwp⟩ := (may_iff hvx).1 hp
      exact (may_iff hv).2 ⟨w, upd_course hv ho hu hw, hwp⟩
    cases er : res c (n : Int) with
    | none =>
      rw [fix_none er]
      simp only [show ¬ ((0 : Int) ≤ -1) from by omega, decide_false, Bool.false_eq_true, if_false]
      rw [app_ok (by simp; omega), Option.bind_some]
      exact fin _ (upd_new hv hn er)
    | some r =>
      have hf := fix_some er
      have hg : gm c n = r.fGames := by unfold gm; rw [er]
      have hrl := hs.g r (res_mem er).1
      simp only [hf.1, decide_true, if_true, hf.2.1, Option.bind_some, list_eq hN hrl]
      rw [app_ok (by rw [← hg]; simp; omega), Option.bind_some]
      exact fin _ (upd_set hv er hf.2.2)
  · rw [if_neg (by simpa using e0)]
    by_cases e : c.fResults = []
    · simp [e]
    have hpos : 0 < c.fResults.length := Nat.pos_of_ne_zero fun h => e (List.eq_nil_of_length_eq_zero h)
    have hne : ¬ (c.fResults.length : Int) = 0 := by omega
    have h0 := Int.emod_nonneg (a / 2) hne
    have h1 := Int.emod_lt_of_pos (a / 2) (show (0 : Int) < (c.fResults.length : Int) from by omega)
    simp only [hne, decide_false, Bool.false_eq_true, if_false, nz_ok hne, Option.bind_some, Int.tmod_eq_emod_of_nonneg (show 0 ≤ a / 2 from by omega)]
    obtain ⟨i, hi⟩ : ∃ i : Nat, (a / 2) % (c.fResults.length : Int) = (i : Int) := ⟨((a / 2) % (c.fResults.length : Int)).toNat, by omega⟩
    rw [hi] at h0 h1 ⊢
    have hil : i < c.fResults.length := by omega
    have hx : c.fResults[i]? = some c.fResults[i] := List.getElem?_eq_getElem hil
    generalize c.fResults[i] = r at hx
    rw [idx_at hx, Option.bind_some, Int.toNat_natCast]
    have hmap : (c.fResults.set i ⟨r.fMatch, r.fGames, true⟩).map mg = c.fResults.map mg := by
      rw [List.map_set]
      refine List.ext_getElem? fun k => ?_
      rw [List.getElem?_set]
      by_cases e : i = k
      · subst e; rw [if_pos rfl, if_pos (by simpa using hil), List.getElem?_map, hx]; rfl
      · rw [if_neg e]
    have hvx : Val ⟨c.fForm, c.fPlayers, c.fGames, c.fResults.set i ⟨r.fMatch, r.fGames, true⟩⟩ := mg_val hv hmap rfl rfl rfl
    have hk : Kin c ⟨c.fForm, c.fPlayers, c.fGames, c.fResults.set i ⟨r.fMatch, r.fGames, true⟩⟩ := mg_kin hmap rfl rfl rfl
    refine more_k3 hN (x := ⟨c.fForm, c.fPlayers, c.fGames, c.fResults.set i ⟨r.fMatch, r.fGames, true⟩⟩) hv hvx a rfl (fun _ p hp => ?_) (fun e => by omega)
    obtain ⟨w, hw, hwp⟩ := (may_iff hv).1 hp
    refine (may_iff hvx).2 ⟨w, prot_course hv hk (fun n hn => ?_) hw, by rw [hk.lst]; exact hwp⟩
    -- a protest stays
    unfold prot at hn ⊢
    have hmr := mg_res (x := ⟨c.fForm, c.fPlayers, c.fGames, c.fResults.set i ⟨r.fMatch, r.fGames, true⟩⟩) hmap (n : Int)
    cases e1 : res c (n : Int) with
    | none => rw [e1] at hn; cases hn
    | some q1 =>
      rw [e1] at hmr hn
      cases e2 : res ⟨c.fForm, c.fPlayers, c.fGames, c.fResults.set i ⟨r.fMatch, r.fGames, true⟩⟩ (n : Int) with
      | none => rw [e2] at hmr; cases hmr
      | some q2 =>
        simp only
        have hq1 := res_mem e1
        have hq2 := res_mem e2
        rcases List.mem_or_eq_of_mem_set hq2.1 with h | h
        · have := res_of_mem hv.dup h
          rw [hq2.2, e1] at this
          cases this; exact hn
        · rw [h]
end
end Go.Proofs.Ytbceakhnnnfiaaa
