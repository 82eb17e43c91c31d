/-
 The law TopDueled: the matches of a knock-out are those of averages and handicaps.
-/
import Derived.Test.YtignpdbcgjllkaaGreatPX
import Derived.Test.YtignpdbcgjllkaaGreatDTopDueled
set_option linter.all false
namespace Go.Proofs.YtignpdbcgjllkaaGreat
open Go.Kp
set_option maxRecDepth 100000
theorem rank_ok : leagueRank 2097152 ⟨2, [⟨0, 1, 5, 6, false⟩]⟩ [1] = some ([2, 1], 0) := by decide +kernel
def duB : Ref07Book := ⟨⟨0, 0, 0, 1, 0⟩, [70, 60], [], []⟩
theorem du_m : (if R.mer duB 1 [0] [1] = 0 then ((R.mtch duB 1 [0] [1]).1, (R.mtch duB 1 [0] [1]).2, (0 : Int)) else (0, 0, R.mer duB 1 [0] [1])) = (8, 0, 0) := by decide +kernel
def duC : Ref09Cup := ⟨0, 2, 1, [⟨0, [1], false⟩]⟩
theorem du_w : L.winner duC = (1, 0) := by decide +kernel
theorem dueled_true : kingpintopDueled 2097152 = some true := by
 unfold kingpintopDueled
 have h1 := R.match_eq (N := 2097152) (by omega) duB (by decide) 1 [0] [1]
 have h2 := L.winner_eq (N := 2097152) (by omega) duC (by decide)
 rw [du_m] at h1
 rw [du_w] at h2
 rw [show (⟨⟨0, 0, 0, 1, 0⟩, [70, 60], [], []⟩ : RateBook) = R.cb duB from rfl, show (⟨0, 2, 1, [⟨0, [1], false⟩]⟩ : LadderCup) = L.cc duC from rfl]
 simp -implicitDefEqProofs only [h1, rank_ok, h2, Option.bind_some]
 rfl
namespace L
theorem tre_rng : ∀ b : Bool, ∀ P, P < 17 → 2 ≤ P → ∀ n, n < (tre b P).length → ∀ p ∈ bel (tre b P) n, 0 ≤ p ∧ p < (P : Int) := by decide +kernel
theorem open_two {c : Ref09Cup} (hv : Val c) (hp : ∀ n, prot c n = false) {n : Nat} (hn : n < (T c).length) (ho : opn c n = true) :
  known c (fs (T c) n) ≠ known c (sn (T c) n) ∧ (0 ≤ known c (fs (T c) n) ∧ known c (fs (T c) n) < c.fPlayers) ∧ (0 ≤ known c (sn (T c) n) ∧ known c (sn (T c) n) < c.fPlayers) := by
 simp only [opn, Bool.and_eq_true, decide_eq_true_eq] at ho
 have ff := hv.ff
 obtain ⟨w, hw, _⟩ := ex_act hv
 have hs := hv.ok.side n hn
 have hk := hv.known hn
 have side : ∀ s, sok c.fPlayers.toNat n s → 0 ≤ known c s → comes s w = known c s := by
  intro s hs hk
  unfold comes known at *
  rcases hs with ⟨h1, _, _⟩ | ⟨_, h2, h3⟩
  ·rw [if_pos (by omega), if_pos (by omega)]
  ·rw [if_neg (by omega)] at hk ⊢
   rw [if_neg (by omega)]
   have em : ((s.fMatch.toNat : Nat) : Int) = s.fMatch := by omega
   have := (plain_won hv hp hw s.fMatch.toNat (by omega) (by rw [em]; omega)).2.2
   rw [em] at this; exact this
 have ka : 0 ≤ known c (fs (T c) n) := by omega
 have kb : 0 ≤ known c (sn (T c) n) := by omega
 have ea : ca c n w = _ := side _ hs.1 ka
 have eb : cb c n w = _ := side _ hs.2 kb
 have hne := ca_ne hv hw hn
 have hb := comes_bs hv hw hn
 rw [ea, eb] at hne hb
 have r1 := tre_rng (decide (c.fForm = 1)) c.fPlayers.toNat (by omega) (by omega) n hn _ ((bs_first hv.ok hn).2 (.inl hb.1))
 have r2 := tre_rng (decide (c.fForm = 1)) c.fPlayers.toNat (by omega) (by omega) n hn _ ((bs_first hv.ok hn).2 (.inr hb.2))
 exact ⟨hne, ⟨ka, by omega⟩, ⟨kb, by omega⟩⟩
theorem fin_end {x : Ref09Cup} (hv : Val x) (hp : ∀ n, prot x n = false) (he : nexts x = []) :
  winner x = (won x (lst x : Int), 0) ∧ mays x = [won x (lst x : Int)] ∧ ups x (won x (lst x : Int)) = (0, 0) := by
 have ff := hv.ff
 have hl := hv.len
 have q := val_iff.2 hv
 have hlst : lst x < (T x).length := by unfold lst; omega
 have hw := (next_nil hv).1 he
 have hall : ∀ n : Nat, n < (T x).length → won x (n : Int) ≠ -1 := fun n hn => all_won hv hw _ n (Nat.le_refl _) hn
 obtain ⟨act, hact, _⟩ := ex_act hv
 have hcw : ∀ w, IsC x w → w.getD (lst x) 0 = won x (lst x : Int) := fun w hw' => (plain_won hv hp hw' _ hlst (hall _ hlst)).2.2
 have hmem : won x (lst x : Int) ∈ mays x := (may_iff hv).2 ⟨act, hact, hcw act hact⟩
 have hone : (mays x).length = 1 := (len_one (mays_nodup x) hmem).2 fun y hy => by
  obtain ⟨w, hw', hwy⟩ := (may_iff hv).1 hy
  rw [← hwy, hcw w hw']
 have hmays : mays x = [won x (lst x : Int)] := by
  obtain ⟨y, hy⟩ := List.length_eq_one_iff.1 hone
  rw [hy] at hmem ⊢
  rw [List.mem_singleton.1 hmem]
 have hwin : winner x = (won x (lst x : Int), 0) := by
  unfold winner
  rw [if_pos q, if_neg hw, if_neg (by omega)]
 have hsw : ∀ w, IsC x w → ∀ n, n < (T x).length → sw x n w = won x (n : Int) := by
  intro w hw' n hn
  obtain ⟨ea, eb, _⟩ := plain_won hv hp hw' n hn (hall n hn)
  unfold sw sett ply
  rw [if_pos ⟨by rw [ea, eb], hp n⟩]
 have hup0 : ∀ w, IsC x w → upR x w = 0 := by
  intro w hw'
  unfold upR
  have : (List.range (T x).length).map (uR x w) = (List.range (T x).length).map fun _ => (0 : Int) := by
   refine List.map_congr_left fun n hn => ?_
   have hn := List.mem_range.1 hn
   have := hv.won n
   have := hall n hn
   unfold uR
   rw [hsw w hw' n hn, if_neg (fun h => by omega)]
  rw [this]
  have : ∀ n : Nat, ((List.range n).map fun _ => (0 : Int)).sum = 0 := by
   intro n
   induction n with
   | zero => rfl
   | succ n ih => rw [List.range_succ, List.map_append, List.sum_append, ih]; rfl
  exact this _
 refine ⟨hwin, hmays, ?_⟩
 have hm := (mem_mays (c := x)).1 hmem
 unfold ups
 rw [if_pos q, if_pos (inr_iff.2 ⟨hm.1, by omega⟩)]
 cases e : cst (bmap x) (lst x : Int) (won x (lst x : Int)) with
 | none => rw [e] at hm; cases hm.2.2
 | some z =>
  obtain ⟨w, hw', _, hu⟩ := ex_up hv (bmap_good hv.ok) e
  have := hup0 w hw'
  show (z, (0 : Int)) = (0, 0)
  rw [← hu, this]
def und (c : Ref09Cup) : Nat := ((List.range (T c).length).filter fun (n : Nat) => decide (won c (n : Int) = -1)).length
theorem filt_one {f g : Nat → Bool} {n : Nat} (hf : f n = true) (hg : g n = false) (h : ∀ k, k ≠ n → g k = f k) : ∀ L, n < L → ((List.range L).filter f).length = ((List.range L).filter g).length + 1
 | 0, hn => by omega
 | L + 1, hn => by
  rw [List.range_succ, List.filter_append, List.filter_append, List.length_append, List.length_append]
  by_cases e : n = L
  ·subst e
   have : (List.range n).filter f = (List.range n).filter g := List.filter_congr fun k hk => (h k (by have := List.mem_range.1 hk; omega)).symm
   rw [this]; simp [hf, hg]
  ·have := filt_one hf hg h L (by omega)
   have e2 : [L].filter f = [L].filter g := List.filter_congr fun k hk => (h k (by rw [List.mem_singleton.1 hk]; omega)).symm
   rw [e2]; omega
theorem und_zero {c : Ref09Cup} (h : und c = 0) : ∀ n : Nat, n < (T c).length → won c (n : Int) ≠ -1 := by
 intro n hn e
 have h := List.filter_eq_nil_iff.1 (List.eq_nil_of_length_eq_zero h) n (List.mem_range.2 hn)
 exact h (decide_eq_true e)
theorem und_pos {c : Ref09Cup} (h : 0 < und c) : ∃ n : Nat, n < (T c).length ∧ won c (n : Int) = -1 := by
 obtain ⟨n, hn⟩ := List.exists_mem_of_length_pos h
 have := List.mem_filter.1 hn
 exact ⟨n, List.mem_range.1 this.1, of_decide_eq_true this.2⟩
end L
open L in
theorem loop_true {N : Nat} (hN : 4000 ≤ N) (hd : kingpintopDueled N = some true) (b : Ref07Book) (vb : R.Val b) (h2 : 2 ≤ b.fBowlers.length) (f : Int) :
  ∀ (fuel k : Nat) (l : List Ref09Result), Val ⟨f, (b.fBowlers.length : Int), 1, l⟩ → (∀ r ∈ l, r.fProtested = false) → (∀ r ∈ l, ∃ p, r.fGames = [p]) → und ⟨f, (b.fBowlers.length : Int), 1, l⟩ + k = (T ⟨f, (b.fBowlers.length : Int), 1, l⟩).length → und ⟨f, (b.fBowlers.length : Int), 1, l⟩ < fuel →
  loopN (fun rec3 x => kingpintopTopDueled_b2 N b (b.fBowlers.length : Int) rec3 x.1 x.2.1 x.2.2) fuel ((k : Int), f, l) = some true := by
 intro fuel
 induction fuel with
 | zero => intro k l _ _ _ _ h; omega
 | succ fuel ih =>
  intro k l hv hpr hga hu hfu
  obtain ⟨c, hc⟩ : ∃ c : Ref09Cup, c = ⟨f, (b.fBowlers.length : Int), 1, l⟩ := ⟨_, rfl⟩
  have hcf : c.fForm = f := by rw [hc]
  have hcp : c.fPlayers = (b.fBowlers.length : Int) := by rw [hc]
  have hcg : c.fGames = 1 := by rw [hc]
  have hcr : c.fResults = l := by rw [hc]
  rw [← hc] at hv hu hfu
  have hnb := vb.nb
  have ff := hv.ff
  have hl := hv.len
  have hs := hv.sz
  have q := val_iff.2 hv
  have hp : ∀ n, prot c n = false := prot_all (by rw [hcr]; exact hpr)
  have hlim : l.length ≤ 15 := by
   have h := hv.lim
   simp only [lims, Bool.and_eq_true, decide_eq_true_eq, hcr] at h
   exact h.1
  show kingpintopTopDueled_b2 N b _ (loopN _ fuel) (k : Int) f l = some true
  rw [kingpintopTopDueled_b2]
  rw [← hc, cup_eq hN c hs, w64_id (n := (b.fBowlers.length : Int) - 1) (by omega) (by omega)]
  by_cases hk : k < (T c).length
  ·rw [if_pos (decide_eq_true (by omega)), Option.bind_some, next_eq hN c hs.r, if_pos q, Option.bind_some]
   have hne : nexts c ≠ [] := by
    intro e
    obtain ⟨n, hn, hw⟩ := und_pos (c := c) (by omega)
    exact all_won hv ((next_nil hv).1 e) _ n (Nat.le_refl _) hn hw
   have hpos : 0 < (nexts c).length := Nat.pos_of_ne_zero fun h => hne (List.eq_nil_of_length_eq_zero h)
   have hd0 : decide (((nexts c).length : Int) = 0) = false := decide_eq_false (by omega)
   simp only [decide_true, Bool.not_true, Bool.false_eq_true, if_false, hd0, Option.bind_some]
   obtain ⟨y, hy⟩ : ∃ y, (nexts c)[0]? = some y := ⟨_, List.getElem?_eq_getElem hpos⟩
   rw [idx_int (Int.le_refl _) hy, Option.bind_some]
   obtain ⟨n, hn, ho, rfl⟩ := mem_next (List.mem_of_getElem? hy)
   obtain ⟨hab, ha, hb⟩ := open_two hv hp hn ho
   have how : won c (n : Int) = -1 := by simp only [opn, Bool.and_eq_true, decide_eq_true_eq] at ho; exact ho.2.2
   have hno : res c (n : Int) = none := by
    cases e : res c (n : Int) with
    | none => rfl
    | some r =>
     exfalso
     obtain ⟨p, hpg⟩ := hga r (by have := (res_mem e).1; rwa [hcr] at this)
     obtain ⟨_, _, hlg⟩ := hv.res n e
     have := (lg_iff.1 hlg).1 p (by rw [hpg]; simp)
     unfold won at how
     rw [e] at how
     have hde : dec c.fGames r.fGames = p := by rw [hpg, hcg]; unfold dec; simp [cnt]
     simp only [hde] at how
     rcases this with e | e <;> omega
   have mt : R.mer b (1 + (n : Int)) [known c (fs (T c) n)] [known c (sn (T c) n)] = 0 := by
    unfold R.mer
    rw [if_pos (R.flt_zero.2 vb), if_pos (R.inr_iff.2 ⟨by omega, by omega⟩)]
    unfold R.tf
    rw [if_neg (by simp), if_neg]
    rintro (h | h | h | h)
    ·cases h
    ·cases h
    ·refine h (List.all_eq_true.2 fun z hz => R.inr_iff.2 ?_)
     rcases List.mem_append.1 hz with hz | hz <;> rw [List.mem_singleton.1 hz] <;> omega
    ·exact h (by simpa using hab)
   have msum := R.mtch_sum b (1 + (n : Int)) [known c (fs (T c) n)] [known c (sn (T c) n)]
   rw [R.book_eq hN b (by omega) (by have := vb.ns; omega) (by have := vb.nw; omega), Option.bind_some, w64_id (n := 1 + (n : Int)) (by omega) (by omega), R.match_eq hN b (by omega), if_pos mt, Option.bind_some]
   generalize (R.mtch b (1 + (n : Int)) [known c (fs (T c) n)] [known c (sn (T c) n)]).1 = p at *
   generalize (R.mtch b (1 + (n : Int)) [known c (fs (T c) n)] [known c (sn (T c) n)]).2 = r at *
   simp only [Option.bind_some, decide_true, Bool.not_true, Bool.false_eq_true, if_false, msum]
   rw [show (!decide (w64 8 = 8)) = false from rfl]
   simp only [Bool.false_eq_true, if_false]
   obtain ⟨w, hw, hww⟩ : ∃ w, (if decide (r < p) then some (known c (fs (T c) n)) else if decide (p < r) then some (known c (sn (T c) n)) else some (min (known c (fs (T c) n)) (known c (sn (T c) n)))) = some w ∧ (w = known c (fs (T c) n) ∨ w = known c (sn (T c) n)) := by
    by_cases e1 : r < p
    ·exact ⟨_, by rw [if_pos (decide_eq_true e1)], .inl rfl⟩
    ·by_cases e2 : p < r
     ·exact ⟨_, by rw [if_neg (by simpa using e1), if_pos (decide_eq_true e2)], .inr rfl⟩
     ·refine ⟨_, by rw [if_neg (by simpa using e1), if_neg (by simpa using e2)], ?_⟩
      by_cases e3 : known c (fs (T c) n) ≤ known c (sn (T c) n)
      ·exact .inl (Int.min_eq_left e3)
      ·exact .inr (Int.min_eq_right (by omega))
   rw [hw, Option.bind_some, app_ok (by simp; omega), Option.bind_some, w64_succ (by omega)]
   have hup := upd_new (p := w) hv hn hno
   rw [hcf, hcp, hcg, hcr] at hup
   have hvx := upd_val hv hn ho hww hup
   have hT : T ⟨f, (b.fBowlers.length : Int), 1, l ++ [⟨(n : Int), [w], false⟩]⟩ = T c := by unfold T; rw [hcf, hcp]
   have hone : und c = und ⟨f, (b.fBowlers.length : Int), 1, l ++ [⟨(n : Int), [w], false⟩]⟩ + 1 := by
    unfold und
    rw [hT]
    refine filt_one (decide_eq_true how) (decide_eq_false ?_) (fun k hk => ?_) _ hn
    ·obtain ⟨r, hr, hrg⟩ := hup.mine
     have hgm : gm c n = [] := by unfold gm; rw [hno]
     rw [hgm, List.nil_append] at hrg
     unfold won
     rw [hr]
     have hde : dec (1 : Int) r.fGames = w := by rw [hrg]; unfold dec; simp [cnt]
     show ¬ dec 1 r.fGames = -1
     rw [hde]
     rcases hww with e | e <;> omega
    ·unfold won
     rw [hup.res k (by omega), hcg]
   refine ih (k + 1) _ hvx (fun r hr => ?_) (fun r hr => ?_) (by rw [hT]; omega) (by omega)
   ·rcases List.mem_append.1 hr with h | h
    ·exact hpr r h
    ·rw [List.mem_singleton.1 h]
   ·rcases List.mem_append.1 hr with h | h
    ·exact hga r h
    ·rw [List.mem_singleton.1 h]; exact ⟨w, rfl⟩
  ·rw [if_neg (by simpa using (show ¬ (k : Int) < (b.fBowlers.length : Int) - 1 from by omega))]
   have hall := und_zero (c := c) (by omega)
   have he : nexts c = [] := (next_nil hv).2 (hall (lst c) (by unfold lst; omega))
   obtain ⟨e1, e2, e3⟩ := fin_end hv hp he
   have hwl := hall (lst c) (by unfold lst; omega)
   unfold kingpintopTopDueled_k1
   rw [← hc]
   simp -implicitDefEqProofs only [cup_eq hN c hs, Option.bind_some, next_eq hN c hs.r, winner_eq hN c hs.r, mayWin_eq hN c hs.r, upsets_eq hN c hs.r, if_pos q, he, e1, e2, e3, hd]
   rw [show idx [won c (lst c : Int)] 0 = some (won c (lst c : Int)) from rfl]
   simp
theorem top_true {N : Nat} (hN : N = 2097152) (b : Ref07Book) (form : Int) (hf : 0 ≤ form ∧ form ≤ 255) : kingpintopTopDueled N b form = some true := by
 have hd : kingpintopDueled N = some true := by rw [hN]; exact dueled_true
 replace hN : 4000 ≤ N := by omega
 unfold kingpintopTopDueled
 rw [R.thin_eq hN, Option.bind_some, R.fault_eq hN, Option.bind_some, hd]
 by_cases h1 : (b.fBowlers.length ≤ 12 ∧ b.fSheets.length ≤ 45 ∧ b.fWithdrawn.length ≤ 45)
 rotate_left
 ·rw [decide_eq_false h1]; rfl
 rw [decide_eq_true h1]
 by_cases h2 : R.flt b = 0
 rotate_left
 ·simp [h2]
 by_cases h3 : (b.fBowlers.length : Int) < 2
 ·simp [h2, h3]
 have vb := R.flt_zero.1 h2
 have hnb := vb.nb
 simp only [h2, h3, decide_true, decide_false, Bool.not_true, Bool.false_eq_true, if_false, Option.bind_some]
 have hm : 0 ≤ Int.tmod form 2 ∧ Int.tmod form 2 ≤ 1 := by rw [Int.tmod_eq_emod_of_nonneg hf.1]; omega
 generalize Int.tmod form 2 = f at *
 obtain ⟨c, hc⟩ : ∃ c : Ref09Cup, c = ⟨f, (b.fBowlers.length : Int), 1, []⟩ := ⟨_, rfl⟩
 have hv : L.Val c := by
  refine ⟨?_, ?_, ?_, ?_, ?_⟩
  ·unfold L.lims; rw [hc]; rfl
  ·rw [hc]; exact L.form_iff.2 ⟨hm.2, by show (2 : Int) ≤ (b.fBowlers.length : Int); omega, by show (b.fBowlers.length : Int) ≤ 16; omega, .inl rfl⟩
  ·unfold L.rght; rw [hc]; rfl
  ·rw [hc]; rfl
  ·unfold L.lawf; rw [hc]; rfl
 have hl := hv.len
 have hu : L.und c = (L.T c).length := by
  unfold L.und
  rw [List.filter_eq_self.2 fun n _ => decide_eq_true (by unfold L.won L.res; rw [hc]; rfl), List.length_range]
 have hcp : c.fPlayers = (b.fBowlers.length : Int) := by rw [hc]
 rw [hc] at hv hu
 exact loop_true hN hd b vb (by omega) f N 0 [] hv (fun r hr => by cases hr) (fun r hr => by cases hr) hu (by rw [hu, ← hc]; omega)
end Go.Proofs.YtignpdbcgjllkaaGreat
