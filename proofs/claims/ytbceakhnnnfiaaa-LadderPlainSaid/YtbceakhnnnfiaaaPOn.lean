/-
  The law LadderOn.
-/
import Derived.Test.YtbceakhnnnfiaaaPR
import Derived.Test.YtbceakhnnnfiaaaDLadderOn
set_option linter.all false
namespace Go.Proofs.Ytbceakhnnnfiaaa
open Go.Kp
/-- each match but the last one has one behind it -/
theorem ex_par {c : Ref09Cup} (hv : Val c) {m : Nat} (hm : m + 1 < (T c).length) : ∃ n, m < n ∧ n < (T c).length ∧ ((fs (T c) n).fMatch = m ∨ (sn (T c) n).fMatch = m) := by
  have ht := hv.ok
  have hp : (kids (T c)).Perm (List.range ((T c).length - 1)) := List.isPerm_iff.1 ht.kids
  have hk : m ∈ kids (T c) := hp.mem_iff.2 (List.mem_range.2 (by omega))
  unfold kids at hk
  obtain ⟨p, hpT, hmm⟩ := List.mem_flatMap.1 hk
  obtain ⟨n, hn⟩ := List.mem_iff_getElem?.1 hpT
  have hlt := len_lt hn
  have hg := getT hlt
  rw [hn] at hg
  have e : p = (T c).getD n dP := Option.some.inj hg
  have e1 : p.fFirst = fs (T c) n := by rw [e]; rfl
  have e2 : p.fSecond = sn (T c) n := by rw [e]; rfl
  rw [e1, e2] at hmm
  have hs := ht.side n hlt
  unfold sok at hs
  have hms : ∀ s, m ∈ ms s → s.fMatch = (m : Int) := by
    intro s h
    unfold ms at h
    split at h
    · cases h
    · have := List.mem_singleton.1 h; omega
  rcases List.mem_append.1 hmm with h | h
  · have := hms _ h; exact ⟨n, by omega, hlt, .inl this⟩
  · have := hms _ h; exact ⟨n, by omega, hlt, .inr this⟩
theorem won_res {c : Ref09Cup} (hv : Val c) {n : Nat} (h : won c (n : Int) ≠ -1) : 0 ≤ known c (fs (T c) n) ∧ 0 ≤ known c (sn (T c) n) := by
  have hres : ∃ r, res c (n : Int) = some r := by
    cases e : res c (n : Int) with
    | none => unfold won at h; rw [e] at h; simp at h
    | some r => exact ⟨r, rfl⟩
  obtain ⟨r, hr⟩ := hres
  obtain ⟨ha, hb, _⟩ := hv.res n hr
  exact ⟨ha, hb⟩
theorem all_won {c : Ref09Cup} (hv : Val c) (h : won c (lst c : Int) ≠ -1) : ∀ (d m : Nat), (T c).length - m ≤ d → m < (T c).length → won c (m : Int) ≠ -1 := by
  intro d
  induction d with
  | zero => intro m h1 h2; omega
  | succ d ih =>
    intro m h1 h2
    rcases Nat.lt_or_ge (m + 1) (T c).length with hh | hh
    · obtain ⟨n, hn1, hn2, hn3⟩ := ex_par hv hh
      have hw := won_res hv (ih n (by omega) hn2)
      unfold known at hw
      rcases hn3 with e | e
      · rw [e, if_neg (by omega)] at hw; omega
      · rw [e, if_neg (show ¬ ((m : Int) < 0) from by omega)] at hw; omega
    · have : m = lst c := by unfold lst; omega
      subst this; exact h
/-- a match is open as long as the last one is not decided -/
theorem next_nil {c : Ref09Cup} (hv : Val c) : nexts c = [] ↔ won c (lst c : Int) ≠ -1 := by
  have ff := hv.ff
  have hl := hv.len
  unfold nexts nextl
  rw [List.filterMap_eq_nil_iff]
  constructor
  · intro h hw
    -- the first that is not decided
    have : ∃ n, n < (T c).length ∧ won c (n : Int) = -1 ∧ ∀ k, k < n → won c (k : Int) ≠ -1 := by
      have key : ∀ n, n < (T c).length → won c (n : Int) = -1 → ∃ m, m < (T c).length ∧ won c (m : Int) = -1 ∧ ∀ k, k < m → won c (k : Int) ≠ -1 := by
        intro n
        induction n using Nat.strongRecOn with
        | ind n ih =>
          intro hn hw
          by_cases hex : ∃ k, k < n ∧ won c (k : Int) = -1
          · obtain ⟨k, hk, hkw⟩ := hex
            exact ih k hk (by omega) hkw
          · exact ⟨n, hn, hw, fun k hk e => hex ⟨k, hk, e⟩⟩
      exact key (lst c) (by unfold lst; omega) hw
    obtain ⟨n, hn, hwn, hk⟩ := this
    have hs := hv.ok.side n hn
    have side : ∀ s, sok c.fPlayers.toNat n s → known c s ≠ -1 := by
      intro s hs
      unfold known
      rcases hs with ⟨h1, h2, _⟩ | ⟨_, h2, h3⟩
      · rw [if_pos (by omega)]; omega
      · rw [if_neg (by omega)]
        have := hk s.fMatch.toNat (by omega)
        rwa [show ((s.fMatch.toNat : Nat) : Int) = s.fMatch from by omega] at this
    have := h n (List.mem_range.2 hn)
    have ho : opn c n = true := by unfold opn; simp [side _ hs.1, side _ hs.2, hwn]
    rw [if_pos ho] at this
    cases this
  · intro h n hn
    have := all_won hv h _ n (Nat.le_refl _) (List.mem_range.1 hn)
    rw [if_neg]
    unfold opn
    simp [this]
theorem mem_next {c : Ref09Cup} {x : LadderMatch} (h : x ∈ nexts c) : ∃ n : Nat, n < (T c).length ∧ opn c n = true ∧ x = ⟨(n : Int), known c (fs (T c) n), known c (sn (T c) n), cnt (known c (fs (T c) n)) (gm c n), cnt (known c (sn (T c) n)) (gm c n)⟩ := by
  unfold nexts nextl at h
  obtain ⟨n, hn, h⟩ := List.mem_filterMap.1 h
  split at h
  · rename_i ho; exact ⟨n, List.mem_range.1 hn, ho, (Option.some.inj h).symm⟩
  · cases h
theorem open_half {c : Ref09Cup} (hv : Val c) {n : Nat} (ho : opn c n = true) (p : Int) : 2 * cnt p (gm c n) ≤ c.fGames := by
  have ff := hv.ff
  simp only [opn, Bool.and_eq_true, decide_eq_true_eq] at ho
  have hw := ho.2.2
  unfold won at hw
  unfold gm
  cases e : res c (n : Int) with
  | none => simp [cnt]; omega
  | some r =>
    rw [e] at hw
    simp only at hw ⊢
    obtain ⟨ha, hb, hl⟩ := hv.res n e
    obtain ⟨h1, _⟩ := lg_iff.1 hl
    rcases find_dec (G := c.fGames) (l := r.fGames) with ⟨x, _, hx, _, hd⟩ | ⟨hn, _⟩
    · exfalso
      rcases h1 x hx with rfl | rfl <;> omega
    · refine Int.not_lt.1 fun hlt => ?_
      exact hn _ (mem_of_cnt (by omega) hlt) hlt
theorem on_true {N : Nat} (hN : 4000 ≤ N) (c : Ref09Cup) (a b : Int) (ha : 0 ≤ a ∧ a ≤ 255) (hb : 0 ≤ b ∧ b ≤ 255) : law09LadderOn N c a b = some true := by
  unfold law09LadderOn
  rw [ready_eq hN, Option.bind_some, wakes_ok hN]
  by_cases h : ready c = true
  rotate_left
  · simp [h]
  obtain ⟨ht, hv⟩ := ready_iff.1 h
  have hs := thin_sz ht
  have hs2 := hs.r
  have ff := hv.ff
  have hl := hv.len
  have q := val_iff.2 hv
  have el : (c.fPlayers - 2 : Int) = (lst c : Int) := by unfold lst; omega
  have hnl : (nexts c).length ≤ (T c).length := nextl_len c (T c).length
  simp only [h, Bool.not_true, Bool.false_eq_true, if_false, cup_eq hN c hs, Option.bind_some, next_eq hN c hs.r, q, if_true, decide_true, won_eq hN c hs, el, w64_id (n := (lst c : Int)) (by omega) (by omega)]
  have hiff := next_nil hv
  have hwb := hv.won (lst c)
  have hv2 : (decide (((nexts c).length : Int) = 0) != decide (0 ≤ won c (lst c : Int))) = false := by
    by_cases e : nexts c = []
    · have := hiff.1 e
      simp [e, show 0 ≤ won c (lst c : Int) from by omega]
    · have h1 : ¬ won c (lst c : Int) ≠ -1 := fun h => e (hiff.2 h)
      have h2 : ¬ 0 ≤ won c (lst c : Int) := by omega
      simp [e, h2]
  rw [hv2]
  simp only [Bool.false_eq_true, if_false]
  by_cases e : nexts c = []
  · simp [e]
  have hpos : 0 < (nexts c).length := Nat.pos_of_ne_zero fun h => e (List.eq_nil_of_length_eq_zero h)
  have hne : ¬ ((nexts c).length : Int) = 0 := by omega
  have h0 := Int.emod_nonneg a hne
  have h1 := Int.emod_lt_of_pos a (show (0 : Int) < ((nexts c).length : Int) from by omega)
  simp only [hne, decide_false, Bool.false_eq_true, if_false, nz_ok hne, Option.bind_some, w64_id (n := a) (by omega) (by omega), Int.tmod_eq_emod_of_nonneg ha.1]
  obtain ⟨x, hx⟩ : ∃ x, (nexts c)[(a % ((nexts c).length : Int)).toNat]? = some x := ⟨_, List.getElem?_eq_getElem (by omega)⟩
  rw [idx_int h0 hx, Option.bind_some]
  obtain ⟨n, hn, ho, rfl⟩ := mem_next (List.mem_of_getElem? hx)
  have hh1 := open_half hv ho (known c (fs (T c) n))
  have hh2 := open_half hv ho (known c (sn (T c) n))
  have hc1 := cnt_bd (known c (fs (T c) n)) (gm c n)
  have hc2 := cnt_bd (known c (sn (T c) n)) (gm c n)
  have hgl : (gm c n).length ≤ 4 := open_len hv (by simp only [opn, Bool.and_eq_true, decide_eq_true_eq] at ho; exact ho.2.2)
  simp only [show ¬ ((n : Int) < 0) from by omega, show ¬ ((lst c : Int) < (n : Int)) from by unfold lst; omega, w64_id (n := (lst c : Int)) (by omega) (by omega), w64_id (n := 2 * cnt (known c (fs (T c) n)) (gm c n)) (by omega) (by omega), w64_id (n := 2 * cnt (known c (sn (T c) n)) (gm c n)) (by omega) (by omega), show ¬ (c.fGames < 2 * cnt (known c (fs (T c) n)) (gm c n)) from by omega, show ¬ (c.fGames < 2 * cnt (known c (sn (T c) n)) (gm c n)) from by omega, decide_false, Bool.false_eq_true, if_false, Option.bind_some]
  obtain ⟨p, hp, hpp⟩ : ∃ p, (if decide (Int.tmod b 2 = 1) then some (known c (sn (T c) n)) else some (known c (fs (T c) n))) = some p ∧ (p = known c (fs (T c) n) ∨ p = known c (sn (T c) n)) := by
    by_cases e : Int.tmod b 2 = 1
    · exact ⟨_, by rw [if_pos (by simpa using e)], .inr rfl⟩
    · exact ⟨_, by rw [if_neg (by simpa using e)], .inl rfl⟩
  rw [hp, Option.bind_some, app_ok (by simp; omega), Option.bind_some, List.nil_append, find_eq hN c hs.r, Option.bind_some]
  have fin : ∀ x, Upd c ⟨c.fForm, c.fPlayers, c.fGames, x⟩ n p → law09LadderOn_k1 N c x = some true := by
    intro x hu
    have hvx := upd_val hv hn ho hpp hu
    unfold law09LadderOn_k1
    rw [cup_eq hN _ hvx.sz, Option.bind_some, checkCup_eq hN _ hvx.sz.r, val_iff.2 hvx, wakes_ok hN]
    rfl
  cases er : res c (n : Int) with
  | none =>
    rw [fix_none er]
    simp only [show ¬ ((0 : Int) ≤ -1) from by omega, decide_false, Bool.false_eq_true, if_false]
    rw [app_ok (by simp; omega), Option.bind_some]
    exact fin _ (upd_new hv hn er)
  | some r =>
    have hf := fix_some er
    have hg : gm c n = r.fGames := by unfold gm; rw [er]
    have hrl := hs.g r (res_mem er).1
    simp only [hf.1, decide_true, if_true, hf.2.1, Option.bind_some, wins_eq hN _ _ hrl, hg, Bool.not_true, Bool.false_eq_true, if_false, list_eq hN hrl]
    rw [app_ok (by simp; omega), Option.bind_some]
    exact fin _ (upd_set hv er hf.2.2)
end Go.Proofs.Ytbceakhnnnfiaaa
