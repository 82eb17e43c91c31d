/-
  The law LadderLast.
-/
import Derived.Test.YtbceakhnnnfiaaaPS
import Derived.Test.YtbceakhnnnfiaaaPP
import Derived.Test.YtbceakhnnnfiaaaDLadderLast
set_option linter.all false
namespace Go.Proofs.Ytbceakhnnnfiaaa
open Go.Kp
theorem findX (N : Nat) (f p g m : Int) (l : List Ref09Result) : ref09FindX N f p g m l = ref09Find N ⟨f, p, g, l⟩ m := rfl
theorem wonX (N : Nat) (f p g m : Int) (l : List Ref09Result) : ref09WonX N f p g m l = ref09Won N ⟨f, p, g, l⟩ m := rfl
theorem cupX (N : Nat) (f p g : Int) (l : List Ref09Result) : law09CupX N f p g l = law09Cup N ⟨f, p, g, l⟩ := rfl
theorem nextX (N : Nat) (f p g : Int) (l : List Ref09Result) : ref09NextX N f p g l = ref09Next N ⟨f, p, g, l⟩ := rfl
def tot (l : List Ref09Result) : Nat := (l.map fun r => r.fGames.length).sum
theorem tot_le {c : Ref09Cup} (hv : Val c) : tot c.fResults ≤ 75 := by
  have h := hv.lim
  simp only [lims, Bool.and_eq_true, decide_eq_true_eq, List.all_eq_true] at h
  have key : ∀ l : List Ref09Result, (∀ r ∈ l, r.fGames.length ≤ 5) → tot l ≤ 5 * l.length := by
    intro l
    induction l with
    | nil => intro _; simp [tot]
    | cons r l ih =>
      intro h
      have h1 := h r (by simp)
      have h2 := ih fun q hq => h q (by simp [hq])
      unfold tot at *
      rw [List.map_cons, List.sum_cons, List.length_cons]
      omega
  have := key _ h.2
  omega
theorem tot_set : ∀ {l : List Ref09Result} {i : Nat} {r q : Ref09Result}, l[i]? = some r → q.fGames.length = r.fGames.length + 1 → tot (l.set i q) = tot l + 1
  | [], i, r, q, h, _ => by simp at h
  | x :: l, 0, r, q, h, hq => by
    simp only [List.getElem?_cons_zero, Option.some.injEq] at h
    subst h
    unfold tot
    simp only [List.set_cons_zero, List.map_cons, List.sum_cons]
    omega
  | x :: l, i + 1, r, q, h, hq => by
    have := tot_set (l := l) (i := i) (by simpa using h) hq
    unfold tot at *
    simp only [List.set_cons_succ, List.map_cons, List.sum_cons]
    omega
theorem tot_app (l : List Ref09Result) (q : Ref09Result) : tot (l ++ [q]) = tot l + q.fGames.length := by
  unfold tot; simp
theorem prot_all {c : Ref09Cup} (h : ∀ r ∈ c.fResults, r.fProtested = false) (n : Nat) : prot c n = false := by
  unfold prot
  cases e : res c (n : Int) with
  | none => rfl
  | some r => exact h r (res_mem e).1
section
variable {N : Nat} (hN : 4000 ≤ N)
include hN
theorem last_end {c x : Ref09Cup} (hx : x = ⟨c.fForm, c.fPlayers, c.fGames, x.fResults⟩) (hv : Val x) (hp : ∀ n, prot x n = false) (he : nexts x = []) : law09LadderLast_k5 N c x.fResults (fun b => b = true) := by
  have ff := hv.ff
  have hl := hv.len
  have hpc : x.fPlayers = c.fPlayers := by rw [hx]
  have hs := hv.sz
  have q := val_iff.2 hv
  have hlst : lst x < (T x).length := by unfold lst; omega
  have hw := (next_nil hv).1 he
  have hall : ∀ n : Nat, n < (T x).length → won x (n : Int) ≠ -1 := fun n hn => all_won hv hw _ n (Nat.le_refl _) hn
  obtain ⟨act, hact, _⟩ := ex_act hv
  have hcw : ∀ w, IsC x w → w.getD (lst x) 0 = won x (lst x : Int) := fun w hw' => (plain_won hv hp hw' _ hlst (hall _ hlst)).2.2
  have hmem : won x (lst x : Int) ∈ mays x := (may_iff hv).2 ⟨act, hact, hcw act hact⟩
  have hone : (mays x).length = 1 := (len_one (mays_nodup x) hmem).2 fun y hy => by
    obtain ⟨w, hw', hwy⟩ := (may_iff hv).1 hy
    rw [← hwy, hcw w hw']
  have hmays : mays x = [won x (lst x : Int)] := by
    obtain ⟨y, hy⟩ := List.length_eq_one_iff.1 hone
    rw [hy] at hmem ⊢
    rw [List.mem_singleton.1 hmem]
  have hwin : winner x = (won x (lst x : Int), 0) := by
    unfold winner
    rw [if_pos q, if_neg hw, if_neg (by omega)]
  have hsw : ∀ w, IsC x w → ∀ n, n < (T x).length → sw x n w = won x (n : Int) := by
    intro w hw' n hn
    obtain ⟨ea, eb, _⟩ := plain_won hv hp hw' n hn (hall n hn)
    unfold sw sett ply
    rw [if_pos ⟨by rw [ea, eb], hp n⟩]
  have hup0 : ∀ w, IsC x w → upR x w = 0 := by
    intro w hw'
    unfold upR
    have : (List.range (T x).length).map (uR x w) = (List.range (T x).length).map fun _ => (0 : Int) := by
      refine List.map_congr_left fun n hn => ?_
      have hn := List.mem_range.1 hn
      have := hv.won n
      have := hall n hn
      unfold uR
      rw [hsw w hw' n hn, if_neg (fun h => by omega)]
    rw [this]
    have : ∀ n : Nat, ((List.range n).map fun _ => (0 : Int)).sum = 0 := by
      intro n
      induction n with
      | zero => rfl
      | succ n ih => rw [List.range_succ, List.map_append, List.sum_append, ih]; rfl
    exact this _
  have hups : ups x (won x (lst x : Int)) = (0, 0) := by
    have hm := (mem_mays (c := x)).1 hmem
    unfold ups
    rw [if_pos q, if_pos (inr_iff.2 ⟨hm.1, by omega⟩)]
    cases e : cst (bmap x) (lst x : Int) (won x (lst x : Int)) with
    | none => rw [e] at hm; cases hm.2.2
    | some z =>
      obtain ⟨w, hw', _, hu⟩ := ex_up hv (bmap_good hv.ok) e
      have := hup0 w hw'
      show (z, (0 : Int)) = (0, 0)
      rw [← hu, this]
  have el : (c.fPlayers - 2 : Int) = (lst x : Int) := by unfold lst; omega
  have elw : w64 (c.fPlayers - 2) = (lst x : Int) := by rw [w64_id (by omega) (by omega), el]
  have hcup : law09CupX N c.fForm c.fPlayers c.fGames x.fResults = some (cc x) := by
    rw [cupX, ← hx, cup_eq hN x hs]
  have hwon : ∀ m, ref09WonX N c.fForm c.fPlayers c.fGames m x.fResults = some (won x m) := by
    intro m; rw [wonX, ← hx, won_eq hN x hs]
  unfold law09LadderLast_k5
  simp only [hcup, bindO_some, winner_eq hN x hs.r, hwin, mayWin_eq hN x hs.r, q, if_true, decide_true, Bool.not_true, Bool.false_eq_true, if_false]
  rw [hmays, ints_eq hN _ _ (by simp), bindO_some]
  simp only [decide_true, Bool.not_true, Bool.false_eq_true, if_false]
  rw [elw, hwon, bindO_some]
  simp only [decide_true, Bool.not_true]
  unfold law09LadderLast_k4
  rw [if_neg (by decide)]
  simp only [hcup, bindO_some, upsets_eq hN x hs.r, hups]
  show (Go.Kp.bindW (ladderWay N (cc x) _) _) _
  refine way_wp hN x hs.r _ _ (fun h => by rw [hups] at h; exact absurd rfl h) (fun _ w hw' _ _ => ?_)
  have hwl := hw'.len
  simp only [decide_true, Bool.not_true, Bool.false_eq_true, if_false]
  rw [w64_id (n := c.fPlayers - 1) (by omega) (by omega)]
  have hd : (!decide ((w.length : Int) = c.fPlayers - 1)) = false := by
    have : (w.length : Int) = c.fPlayers - 1 := by omega
    simp [this]
  rw [hd]
  unfold law09LadderLast_k3
  rw [if_neg (by decide)]
  have key : ∀ (fuel i : Nat), i ≤ w.length → w.length - i < fuel → loopW (fun rec5 y => law09LadderLast_b2 N c x.fResults w rec5 y) fuel (i : Int) (fun b => b = true) := by
    intro fuel
    induction fuel with
    | zero => intro i _ h; omega
    | succ fuel ih =>
      intro i hi hf
      show law09LadderLast_b2 N c x.fResults w (loopW _ fuel) (i : Int) _
      rw [law09LadderLast_b2]
      rcases Nat.lt_or_ge i w.length with hlt | hge
      · have hwi : idx w (i : Int) = some (w.getD i 0) := idx_at (by rw [List.getD_eq_getElem?_getD, List.getElem?_eq_getElem hlt]; rfl)
        have hwe := (plain_won hv hp hw' i (by omega) (hall i (by omega))).2.2
        rw [if_pos (decide_eq_true (by omega)), hwi, bindO_some, hwon, bindO_some, hwe]
        simp only [decide_true, Bool.not_true, Bool.false_eq_true, if_false]
        rw [w64_succ (by omega)]
        exact ih (i + 1) (by omega) (by omega)
      · rw [if_neg (by simp; omega)]
        unfold law09LadderLast_k1
        rw [wakes_ok hN, bindO_some]
        exact rfl
  exact key N 0 (by omega) (by omega)
theorem last_play {c : Ref09Cup} (words : List Int) : ∀ (fuel k : Nat) (x : Ref09Cup), x = ⟨c.fForm, c.fPlayers, c.fGames, x.fResults⟩ → Val x → (∀ r ∈ x.fResults, r.fProtested = false) → k ≤ tot x.fResults → 76 - tot x.fResults < fuel →
    loopW (fun rec6 y => law09LadderLast_b9 N c words rec6 y.1 y.2) fuel ((k : Int), x.fResults) (fun b => b = true) := by
  intro fuel
  induction fuel with
  | zero => intro k x _ _ _ _ h; omega
  | succ fuel ih =>
    intro k x hx hv hpr hk hf
    have ff := hv.ff
    have hl := hv.len
    have hs := hv.sz
    have htl := tot_le hv
    have hs2 := hs.r
    show law09LadderLast_b9 N c words (loopW _ fuel) (k : Int) x.fResults _
    rw [law09LadderLast_b9]
    rw [if_pos (decide_eq_true (by omega)), nextX, ← hx, nextR_eq hN hv, bindO_some, List.length_map]
    by_cases e : nexts x = []
    · rw [if_pos (by rw [e]; rfl)]
      exact last_end hN hx hv (prot_all hpr) e
    have hpos : 0 < (nexts x).length := Nat.pos_of_ne_zero fun h => e (List.eq_nil_of_length_eq_zero h)
    rw [if_neg (by simp; exact e)]
    obtain ⟨y, hy⟩ : ∃ y, (nexts x)[0]? = some y := ⟨_, List.getElem?_eq_getElem hpos⟩
    have hyi : idx ((nexts x).map cmt) 0 = some (cmt y) := idx_int (Int.le_refl _) (by show ((nexts x).map cmt)[0]? = _; rw [List.getElem?_map, hy]; rfl)
    obtain ⟨n, hn, ho, rfl⟩ := mem_next (List.mem_of_getElem? hy)
    rw [hyi, bindO_some]
    have hgl : (gm x n).length ≤ 4 := open_len hv (by simp only [opn, Bool.and_eq_true, decide_eq_true_eq] at ho; exact ho.2.2)
    -- with a game more
    have go : ∀ p, (p = known x (fs (T x) n) ∨ p = known x (sn (T x) n)) → law09LadderLast_k7 N c (k : Int) x.fResults (loopW (fun rec6 y => law09LadderLast_b9 N c words rec6 y.1 y.2) fuel) ((nexts x).map cmt) p (fun b => b = true) := by
      intro p hpp
      unfold law09LadderLast_k7
      rw [hyi, bindO_some, findX, ← hx]
      simp only [cmt]
      rw [find_eq hN x hs.r, bindO_some]
      have fin : ∀ l, Upd x ⟨x.fForm, x.fPlayers, x.fGames, l⟩ n p → (∀ r ∈ l, r.fProtested = false) → tot l = tot x.fResults + 1 → law09LadderLast_k6 N (k : Int) (loopW (fun rec6 y => law09LadderLast_b9 N c words rec6 y.1 y.2) fuel) l (fun b => b = true) := by
        intro l hu hpl ht
        have hvx := upd_val hv hn ho hpp hu
        have hxx : (⟨x.fForm, x.fPlayers, x.fGames, l⟩ : Ref09Cup) = ⟨c.fForm, c.fPlayers, c.fGames, l⟩ := by rw [hx]
        unfold law09LadderLast_k6
        rw [w64_succ (by omega)]
        exact ih (k + 1) ⟨x.fForm, x.fPlayers, x.fGames, l⟩ hxx hvx hpl (by show k + 1 ≤ tot l; omega) (by show 76 - tot l < fuel; omega)
      cases er : res x (n : Int) with
      | none =>
        rw [fix_none er, if_neg (by decide), app_ok (by simp; omega), bindO_some]
        refine fin _ (upd_new hv hn er) (fun r hr => ?_) (by rw [tot_app]; rfl)
        rcases List.mem_append.1 hr with h | h
        · exact hpr r h
        · rw [List.mem_singleton.1 h]
      | some r =>
        have hf := fix_some er
        have hg : gm x n = r.fGames := by unfold gm; rw [er]
        have hrl := hs.g r (res_mem er).1
        rw [if_pos (decide_eq_true hf.1), hf.2.1, bindO_some, list_eq hN hrl, bindO_some, app_ok (by rw [← hg]; simp; omega), bindO_some]
        refine fin _ (upd_set hv er hf.2.2) (fun q hq => ?_) (tot_set hf.2.2 (by simp))
        rcases List.mem_or_eq_of_mem_set hq with h | h
        · exact hpr q h
        · rw [h]; exact hpr r (res_mem er).1
    have k8 : ∀ b, law09LadderLast_k8 N c (k : Int) x.fResults (loopW (fun rec6 y => law09LadderLast_b9 N c words rec6 y.1 y.2) fuel) ((nexts x).map cmt) (cmt ⟨(n : Int), known x (fs (T x) n), known x (sn (T x) n), cnt (known x (fs (T x) n)) (gm x n), cnt (known x (sn (T x) n)) (gm x n)⟩) b (fun b => b = true) := by
      intro b
      unfold law09LadderLast_k8
      cases b with
      | true =>
        rw [if_pos rfl, hyi, bindO_some]
        exact go _ (.inr rfl)
      | false =>
        rw [if_neg (by decide)]
        exact go _ (.inl rfl)
    by_cases ew : 0 < words.length
    · have e2 : ¬ (words.length : Int) = 0 := by omega
      have e3 : (0 : Int) < (words.length : Int) := by omega
      have e4 : k % words.length < words.length := Nat.mod_lt _ ew
      have e5 : Int.tmod (k : Int) (words.length : Int) = ((k % words.length : Nat) : Int) := by rw [Int.tmod_eq_emod_of_nonneg (by omega)]; rfl
      rw [if_pos (decide_eq_true e3), nz_ok e2, bindO_some, e5, idx_at (x := words.getD (k % words.length) 0) (by rw [List.getD_eq_getElem?_getD, List.getElem?_eq_getElem e4]; rfl), bindO_some]
      exact k8 _
    · rw [if_neg (by simpa using (show ¬ (0 : Int) < (words.length : Int) from by omega))]
      exact k8 _
theorem last_true (c : Ref09Cup) (words : List Int) (hwd : ∀ x ∈ words, 0 ≤ x ∧ x ≤ 255) : law09LadderLast N c words (fun b => b = true) := by
  unfold law09LadderLast
  rw [ready_eq hN, bindO_some, wakes_ok hN]
  by_cases h : ready c = true
  rotate_left
  · simp [h, bindO_some, retW]
  obtain ⟨ht, hv⟩ := ready_iff.1 h
  have hs := thin_sz ht
  have hs2 := hs.r
  simp only [h, Bool.not_true, Bool.false_eq_true, if_false]
  have hvx : Val (unp c) := mg_val hv (unp_map c) rfl rfl rfl
  have key : ∀ (fuel i : Nat), i ≤ c.fResults.length → c.fResults.length - i < fuel → loopW (fun rec7 y => law09LadderLast_b11 N c words rec7 y.1 y.2) fuel ((i : Int), (c.fResults.take i).map pf) (fun b => b = true) := by
    intro fuel
    induction fuel with
    | zero => intro i _ h; omega
    | succ fuel ih =>
      intro i hi hf
      show law09LadderLast_b11 N c words (loopW _ fuel) (i : Int) _ _
      rw [law09LadderLast_b11]
      rcases Nat.lt_or_ge i c.fResults.length with hlt | hge
      · have hx : c.fResults[i]? = some c.fResults[i] := List.getElem?_eq_getElem hlt
        have hta : c.fResults.take (i + 1) = c.fResults.take i ++ [c.fResults[i]] := by rw [List.take_add_one, hx]; rfl
        rw [if_pos (decide_eq_true (by omega)), idx_at hx, bindO_some, app_ok (by simp; omega), bindO_some, w64_succ (by omega)]
        have := ih (i + 1) (by omega) (by omega)
        rw [hta, List.map_append] at this
        exact this
      · have : i = c.fResults.length := by omega
        subst this
        rw [if_neg (by simp), List.take_length]
        unfold law09LadderLast_k10
        refine last_play hN words N 0 (unp c) rfl hvx (fun r hr => ?_) (by omega) (by omega)
        obtain ⟨q, _, rfl⟩ := List.mem_map.1 hr
        rfl
  exact key N 0 (by omega) (by omega)
end
end Go.Proofs.Ytbceakhnnnfiaaa
