/-
  The law LadderPlain.
-/
import Derived.Test.YtbceakhnnnfiaaaPOn
import Derived.Test.YtbceakhnnnfiaaaDLadderPlain
set_option linter.all false
namespace Go.Proofs.Ytbceakhnnnfiaaa
open Go.Kp
def K7 (T : Tr) : Prop := ∀ m, m < T.length → ∀ n, n < m → ∀ p ∈ bel T n, p ∈ bel T m → ((n : Int) ≤ (fs T m).fMatch ∧ p ∈ bs T (fs T m)) ∨ ((n : Int) ≤ (sn T m).fMatch ∧ p ∈ bs T (sn T m))
def k7b (T : Tr) : Bool := (List.range T.length).all fun m => (List.range m).all fun n => (bel T n).all fun p => !decide (p ∈ bel T m) || ((decide ((n : Int) ≤ (fs T m).fMatch) && decide (p ∈ bs T (fs T m))) || (decide ((n : Int) ≤ (sn T m).fMatch) && decide (p ∈ bs T (sn T m))))
theorem k7b_ok : ∀ b : Bool, ∀ P, P < 17 → 2 ≤ P → k7b (tre b P) = true := by decide +kernel
theorem k7_ok (b : Bool) (P : Nat) (h1 : P < 17) (h2 : 2 ≤ P) : K7 (tre b P) := by
  have h := k7b_ok b P h1 h2
  simp only [k7b, List.all_eq_true, List.mem_range] at h
  intro m hm n hn p hp hpm
  have := h m hm n hn p hp
  simpa [hpm] using this
theorem T_k7 {c : Ref09Cup} (hv : Val c) : K7 (T c) := by
  have ff := hv.ff
  exact k7_ok _ _ (by omega) (by omega)
/-- who wins a match has won all before it -/
theorem won_down {c : Ref09Cup} (hv : Val c) {w : List Int} (hw : IsC c w) {p : Int} : ∀ m, m < (T c).length → w.getD m 0 = p → ∀ n, n ≤ m → p ∈ bel (T c) n → w.getD n 0 = p := by
  intro m
  induction m using Nat.strongRecOn with
  | ind m ih =>
    intro hm hmp n hn hp
    rcases Nat.lt_or_ge n m with hlt | hge
    · have hpm : p ∈ bel (T c) m := by rw [← hmp]; exact course_bel hv hw m hm
      have hs := hv.ok.side m hm
      unfold sok at hs
      have hps := (hw.ok m hm).1
      have hcb := comes_bs hv hw hm
      rcases T_k7 hv m hm n hlt p hp hpm with ⟨h1, h2⟩ | ⟨h1, h2⟩
      · have e : ca c m w = p := by
          rcases hps with h | h
          · rw [← h]; exact hmp
          · exact absurd (h.symm.trans hmp) (fun e => bs_disj hv.ok hm h2 hcb.2 e.symm)
        unfold ca comes at e
        rw [if_neg (by omega)] at e
        exact ih _ (by omega) (by omega) e n (by omega) hp
      · have e : cb c m w = p := by
          rcases hps with h | h
          · exact absurd (h.symm.trans hmp) (bs_disj hv.ok hm hcb.1 h2)
          · rw [← h]; exact hmp
        unfold cb comes at e
        rw [if_neg (by omega)] at e
        exact ih _ (by omega) (by omega) e n (by omega) hp
    · rw [show n = m by omega]; exact hmp
/-- without protests all courses keep to the results -/
theorem plain_won {c : Ref09Cup} (hv : Val c) (hp : ∀ n, prot c n = false) {w : List Int} (hw : IsC c w) : ∀ n : Nat, n < (T c).length → won c (n : Int) ≠ -1 → ca c n w = known c (fs (T c) n) ∧ cb c n w = known c (sn (T c) n) ∧ w.getD n 0 = won c (n : Int) := by
  intro n
  induction n using Nat.strongRecOn with
  | ind n ih =>
    intro hn hwn
    have hk := won_res hv hwn
    have hs := hv.ok.side n hn
    have side : ∀ s, sok c.fPlayers.toNat n s → 0 ≤ known c s → comes s w = known c s := by
      intro s hs hk
      unfold comes known at *
      rcases hs with ⟨h1, _, _⟩ | ⟨_, h2, h3⟩
      · rw [if_pos (by omega), if_pos (by omega)]
      · rw [if_neg (by omega)] at hk ⊢
        rw [if_neg (by omega)]
        have em : ((s.fMatch.toNat : Nat) : Int) = s.fMatch := by omega
        have := (ih s.fMatch.toNat (by omega) (by omega) (by rw [em]; omega)).2.2
        rw [em] at this; exact this
    have ea := side _ hs.1 hk.1
    have eb := side _ hs.2 hk.2
    refine ⟨ea, eb, ?_⟩
    have hsw : sw c n w = won c (n : Int) := by
      unfold sw sett ply
      rw [if_pos ⟨by rw [show ca c n w = _ from ea, show cb c n w = _ from eb], hp n⟩]
    have hwb := hv.won n
    rcases (hw.ok n hn).2 with h | h
    · omega
    · rw [← h, hsw]
def loser (c : Ref09Cup) (m : Int) : Int := known c (fs (T c) m.toNat) + known c (sn (T c) m.toNat) - won c m
def lostl (c : Ref09Cup) (l : List Ref09Result) : List Int := l.filterMap fun r => if 0 ≤ won c r.fMatch then some (loser c r.fMatch) else none
theorem won_of {c : Ref09Cup} (hv : Val c) {n : Nat} (h : won c (n : Int) ≠ -1) : won c (n : Int) = known c (fs (T c) n) ∨ won c (n : Int) = known c (sn (T c) n) := by
  unfold won at h ⊢
  cases e : res c (n : Int) with
  | none => rw [e] at h; simp at h
  | some r =>
    rw [e] at h
    simp only at h ⊢
    obtain ⟨_, _, hl⟩ := hv.res n e
    rcases find_dec (G := c.fGames) (l := r.fGames) with ⟨x, _, hx, _, hd⟩ | ⟨_, hd⟩
    · rw [hd]; exact (lg_iff.1 hl).1 x hx
    · exact absurd hd h
theorem loser_of {c : Ref09Cup} (hv : Val c) {n : Nat} (h : won c (n : Int) ≠ -1) : (won c (n : Int) = known c (fs (T c) n) ∧ loser c n = known c (sn (T c) n)) ∨ (won c (n : Int) = known c (sn (T c) n) ∧ loser c n = known c (fs (T c) n)) := by
  unfold loser
  rw [Int.toNat_natCast]
  rcases won_of hv h with e | e
  · exact .inl ⟨e, by omega⟩
  · exact .inr ⟨e, by omega⟩
/-- who loses a match lies below it, and has not won it -/
theorem loser_bel {c : Ref09Cup} (hv : Val c) (hp : ∀ n, prot c n = false) {n : Nat} (hn : n < (T c).length) (h : won c (n : Int) ≠ -1) : loser c n ∈ bel (T c) n ∧ loser c n ≠ won c (n : Int) := by
  obtain ⟨w, hw, _⟩ := ex_act hv
  obtain ⟨ea, eb, _⟩ := plain_won hv hp hw n hn h
  have hb := comes_bs hv hw hn
  rw [ea, eb] at hb
  have hd := bs_disj hv.ok hn hb.1 hb.2
  rw [bs_first hv.ok hn]
  rcases loser_of hv h with ⟨e1, e2⟩ | ⟨e1, e2⟩
  · rw [e1, e2]; exact ⟨.inr hb.2, fun e => hd e.symm⟩
  · rw [e1, e2]; exact ⟨.inl hb.1, hd⟩
theorem loser_once {c : Ref09Cup} (hv : Val c) (hp : ∀ n, prot c n = false) {n m : Nat} (hnm : n < m) (hm : m < (T c).length) (h1 : won c (n : Int) ≠ -1) (h2 : won c (m : Int) ≠ -1) : loser c n ≠ loser c m := by
  intro e
  obtain ⟨w, hw, _⟩ := ex_act hv
  have hl1 := loser_bel hv hp (by omega) h1
  have hl2 := loser_bel hv hp hm h2
  obtain ⟨_, _, hwn⟩ := plain_won hv hp hw n (by omega) h1
  obtain ⟨ea, eb, _⟩ := plain_won hv hp hw m hm h2
  have hcb := comes_bs hv hw hm
  have hs := hv.ok.side m hm
  unfold sok at hs
  -- the side that it comes from
  have hside : loser c m = ca c m w ∨ loser c m = cb c m w := by
    rw [ea, eb]
    rcases loser_of hv h2 with ⟨_, e2⟩ | ⟨_, e2⟩
    · exact .inr e2
    · exact .inl e2
  rw [e] at hl1
  rcases T_k7 hv m hm n hnm _ hl1.1 hl2.1 with ⟨k1, k2⟩ | ⟨k1, k2⟩
  · have ec : ca c m w = loser c m := by
      rcases hside with h | h
      · exact h.symm
      · exact absurd h.symm (fun e' => bs_disj hv.ok hm k2 hcb.2 e'.symm)
    unfold ca comes at ec
    rw [if_neg (by omega)] at ec
    have := won_down hv hw _ (by omega) ec n (by omega) hl1.1
    rw [hwn] at this
    exact hl1.2 this.symm
  · have ec : cb c m w = loser c m := by
      rcases hside with h | h
      · exact absurd h.symm (bs_disj hv.ok hm hcb.1 k2)
      · exact h.symm
    unfold cb comes at ec
    rw [if_neg (by omega)] at ec
    have := won_down hv hw _ (by omega) ec n (by omega) hl1.1
    rw [hwn] at this
    exact hl1.2 this.symm
/-- who has not lost has won all matches below which they lie, as far as these are decided -/
theorem unlost {c : Ref09Cup} (hv : Val c) {p : Int} (h : ∀ n : Nat, n < (T c).length → won c (n : Int) ≠ -1 → loser c n ≠ p) : ∀ n : Nat, n < (T c).length → won c (n : Int) ≠ -1 → p ∈ bel (T c) n → won c (n : Int) = p := by
  intro n
  induction n using Nat.strongRecOn with
  | ind n ih =>
    intro hn hwn hpb
    have hk := won_res hv hwn
    have hs := hv.ok.side n hn
    have side : ∀ s, sok c.fPlayers.toNat n s → 0 ≤ known c s → p ∈ bs (T c) s → known c s = p := by
      intro s hs hk hps
      unfold known bs at *
      rcases hs with ⟨h1, _, _⟩ | ⟨_, h2, h3⟩
      · rw [if_pos (by omega)] at hps ⊢; exact (List.mem_singleton.1 hps).symm
      · rw [if_neg (by omega)] at hk hps ⊢
        have em : ((s.fMatch.toNat : Nat) : Int) = s.fMatch := by omega
        have := ih s.fMatch.toNat (by omega) (by omega) (by rw [em]; omega) hps
        rwa [em] at this
    have hl := h n hn hwn
    rcases (bs_first hv.ok hn).1 hpb with q | q
    · have := side _ hs.1 hk.1 q
      rcases loser_of hv hwn with ⟨e1, e2⟩ | ⟨e1, e2⟩
      · rw [e1]; exact this
      · exact absurd (e2.trans this) hl
    · have := side _ hs.2 hk.2 q
      rcases loser_of hv hwn with ⟨e1, e2⟩ | ⟨e1, e2⟩
      · exact absurd (e2.trans this) hl
      · rw [e1]; exact this
theorem plain_may {c : Ref09Cup} (hv : Val c) (hp : ∀ n, prot c n = false) {p : Int} : p ∈ mays c ↔ (0 ≤ p ∧ p < c.fPlayers) ∧ ∀ n : Nat, n < (T c).length → won c (n : Int) ≠ -1 → loser c n ≠ p := by
  have ff := hv.ff
  have hl := hv.len
  have hlst : lst c < (T c).length := by unfold lst; omega
  have hall : ∀ p, p ∈ bel (T c) (lst c) ↔ 0 ≤ p ∧ p < c.fPlayers := by
    intro p
    have hp : (bel (T c) ((T c).length - 1)).Perm (players c.fPlayers.toNat) := List.isPerm_iff.1 hv.ok.all
    unfold lst
    rw [hp.mem_iff]
    unfold players
    rw [List.mem_map]
    constructor
    · rintro ⟨k, hk, rfl⟩; have := List.mem_range.1 hk; omega
    · rintro ⟨h1, h2⟩; exact ⟨p.toNat, List.mem_range.2 (by omega), by omega⟩
  rw [may_iff hv]
  constructor
  · rintro ⟨w, hw, hwp⟩
    refine ⟨(hall p).1 (by rw [← hwp]; exact course_bel hv hw _ hlst), fun n hn hwn hlo => ?_⟩
    have hb := loser_bel hv hp hn hwn
    rw [hlo] at hb
    have h1 := won_down hv hw (lst c) hlst hwp n (by unfold lst; omega) hb.1
    have h2 := (plain_won hv hp hw n hn hwn).2.2
    exact hb.2 (h1.symm.trans h2)
  · rintro ⟨hpr, hno⟩
    have hun := unlost hv hno
    obtain ⟨h1, h2⟩ := ext_ok hv (fun n => if won c (n : Int) ≠ -1 then some (won c (n : Int)) else if p ∈ bel (T c) n then some p else none) (by
      intro n hn w hw q hq
      have hs := hv.ok.side n hn
      by_cases hwn : won c (n : Int) = -1
      · rw [if_neg (by simpa using hwn)] at hq
        split at hq
        · rename_i hpb
          cases hq
          have side : ∀ s, sok c.fPlayers.toNat n s → p ∈ bs (T c) s → comes s w = p := by
            intro s hs hps
            unfold comes bs at *
            rcases hs with ⟨h1, _, _⟩ | ⟨_, h2, h3⟩
            · rw [if_pos (by omega)] at hps ⊢; exact (List.mem_singleton.1 hps).symm
            · rw [if_neg (by omega)] at hps ⊢
              refine hw s.fMatch.toNat (by omega) p ?_
              by_cases e : won c ((s.fMatch.toNat : Nat) : Int) = -1
              · rw [if_neg (by simpa using e), if_pos hps]
              · rw [if_pos e, hun _ (by omega) e hps]
          refine ⟨?_, ?_⟩
          · rcases (bs_first hv.ok hn).1 hpb with q | q
            · exact .inl (side _ hs.1 q).symm
            · exact .inr (side _ hs.2 q).symm
          · left
            unfold sw sett
            split <;> omega
        · cases hq
      · rw [if_pos hwn] at hq
        cases hq
        have hk := won_res hv hwn
        have side : ∀ s, sok c.fPlayers.toNat n s → 0 ≤ known c s → comes s w = known c s := by
          intro s hs hk
          unfold comes known at *
          rcases hs with ⟨h1, _, _⟩ | ⟨_, h2, h3⟩
          · rw [if_pos (by omega), if_pos (by omega)]
          · rw [if_neg (by omega)] at hk ⊢
            rw [if_neg (by omega)]
            refine hw s.fMatch.toNat (by omega) _ ?_
            rw [show ((s.fMatch.toNat : Nat) : Int) = s.fMatch from by omega, if_pos (by omega)]
        refine ⟨?_, ?_⟩
        · rw [show ca c n w = _ from side _ hs.1 hk.1, show cb c n w = _ from side _ hs.2 hk.2]; exact won_of hv hwn
        · unfold sw sett
          by_cases q2 : ply c n = ⟨ca c n w, cb c n w⟩ ∧ prot c n = false
          · rw [if_pos q2]; exact .inr rfl
          · rw [if_neg q2]; exact .inl (by omega))
    refine ⟨_, h1, h2 (lst c) hlst p ?_⟩
    have hpb := (hall p).2 hpr
    by_cases e : won c (lst c : Int) = -1
    · show (if won c (lst c : Int) ≠ -1 then some (won c (lst c : Int)) else if p ∈ bel (T c) (lst c) then some p else none) = some p
      rw [if_neg (by simpa using e), if_pos hpb]
    · show (if won c (lst c : Int) ≠ -1 then some (won c (lst c : Int)) else if p ∈ bel (T c) (lst c) then some p else none) = some p
      rw [if_pos e, hun _ hlst e hpb]
theorem len_less {s l : List Int} (hs : s.Nodup) (hl : l.Nodup) (h : ∀ x ∈ l, x ∈ s) : (s.filter fun x => !decide (x ∈ l)).length + l.length = s.length := by
  have h1 : (s.filter fun x => decide (x ∈ l)).Perm l := by
    refine (List.perm_ext_iff_of_nodup (hs.filter _) hl).2 fun x => ?_
    rw [List.mem_filter]
    exact ⟨fun q => by simpa using q.2, fun q => ⟨h x q, by simpa using q⟩⟩
  have h2 : ∀ s : List Int, (s.filter fun x => decide (x ∈ l)).length + (s.filter fun x => !decide (x ∈ l)).length = s.length := by
    intro s
    induction s with
    | nil => rfl
    | cons x s ih =>
      simp only [List.filter_cons]
      by_cases e : x ∈ l
      · simp only [e, decide_true, if_true, Bool.not_true, Bool.false_eq_true, if_false, List.length_cons]; omega
      · simp only [e, decide_false, Bool.not_false, if_true, Bool.false_eq_true, if_false, List.length_cons]; omega
  have h3 := h2 s
  rw [h1.length_eq] at h3
  omega
theorem lost_mem {c : Ref09Cup} (hv : Val c) {p : Int} : p ∈ lostl c c.fResults ↔ ∃ n : Nat, n < (T c).length ∧ won c (n : Int) ≠ -1 ∧ loser c n = p := by
  have hl := hv.len
  unfold lostl
  rw [List.mem_filterMap]
  constructor
  · rintro ⟨r, hr, h⟩
    split at h
    · rename_i q
      have hq := List.all_eq_true.1 hv.rght r hr
      simp only [rghtR, Bool.and_eq_true, inr_iff] at hq
      refine ⟨r.fMatch.toNat, by omega, ?_, ?_⟩
      · rw [show ((r.fMatch.toNat : Nat) : Int) = r.fMatch from by omega]; omega
      · rw [show ((r.fMatch.toNat : Nat) : Int) = r.fMatch from by omega]; exact Option.some.inj h
    · cases h
  · rintro ⟨n, hn, hw, hp⟩
    cases e : res c (n : Int) with
    | none => unfold won at hw; rw [e] at hw; simp at hw
    | some r =>
      have hm := res_mem e
      refine ⟨r, hm.1, ?_⟩
      have := hv.won n
      rw [hm.2, if_pos (by omega), hp]
theorem lost_nodup {c : Ref09Cup} (hv : Val c) (hp : ∀ n, prot c n = false) : (lostl c c.fResults).Nodup := by
  have hl := hv.len
  have hd := hv.dup
  rw [dup_iff] at hd
  have hm : c.fResults.Pairwise fun a b => a.fMatch ≠ b.fMatch ∧ (0 ≤ a.fMatch ∧ a.fMatch ≤ c.fPlayers - 2) ∧ (0 ≤ b.fMatch ∧ b.fMatch ≤ c.fPlayers - 2) := by
    refine hd.2.imp_of_mem ?_
    intro a b ha hb hne
    have h1 := List.all_eq_true.1 hv.rght a ha
    have h2 := List.all_eq_true.1 hv.rght b hb
    simp only [rghtR, Bool.and_eq_true, inr_iff] at h1 h2
    exact ⟨hne, h1.1, h2.1⟩
  unfold lostl
  refine List.Pairwise.filterMap _ ?_ hm
  rintro a b ⟨hne, ha, hb⟩ x hx y hy
  split at hx
  · split at hy
    · rename_i qa qb
      have ex := Option.some.inj hx
      have ey := Option.some.inj hy
      intro e
      have ea : ((a.fMatch.toNat : Nat) : Int) = a.fMatch := by omega
      have eb : ((b.fMatch.toNat : Nat) : Int) = b.fMatch := by omega
      have e2 : loser c ((a.fMatch.toNat : Nat) : Int) = loser c ((b.fMatch.toNat : Nat) : Int) := by rw [ea, eb, ex, ey, e]
      rcases Nat.lt_or_ge a.fMatch.toNat b.fMatch.toNat with h | h
      · exact loser_once hv hp h (by omega) (by rw [ea]; omega) (by rw [eb]; omega) e2
      · exact loser_once hv hp (show b.fMatch.toNat < a.fMatch.toNat by omega) (by omega) (by rw [eb]; omega) (by rw [ea]; omega) e2.symm
    · cases hy
  · cases hx
theorem players_mem {P : Nat} {p : Int} : p ∈ players P ↔ 0 ≤ p ∧ p < (P : Int) := by
  unfold players
  rw [List.mem_map]
  constructor
  · rintro ⟨k, hk, rfl⟩; have := List.mem_range.1 hk; omega
  · rintro ⟨h1, h2⟩; exact ⟨p.toNat, List.mem_range.2 (by omega), by omega⟩
theorem players_nodup (P : Nat) : (players P).Nodup := by
  unfold players
  unfold List.Nodup
  rw [List.pairwise_map]
  exact (List.nodup_range (n := P)).imp fun h e => h (Int.ofNat_inj.1 e)
theorem plain_len {c : Ref09Cup} (hv : Val c) (hp : ∀ n, prot c n = false) : ((mays c).length : Int) = c.fPlayers - ((lostl c c.fResults).length : Int) := by
  have ff := hv.ff
  have hsub : ∀ x ∈ lostl c c.fResults, x ∈ players c.fPlayers.toNat := by
    intro x hx
    obtain ⟨n, hn, hw, hpn⟩ := (lost_mem hv).1 hx
    have hb := (loser_bel hv hp hn hw).1
    rw [hpn] at hb
    -- below the last match, too
    obtain ⟨h1, h2⟩ := won_res hv hw
    rw [players_mem]
    have hs := hv.ok.side n hn
    have side : ∀ s, sok c.fPlayers.toNat n s → ∀ x ∈ bs (T c) s, 0 ≤ x ∧ x < c.fPlayers := by
      have key : ∀ k, k < (T c).length → ∀ x ∈ bel (T c) k, 0 ≤ x ∧ x < c.fPlayers := by
        intro k
        induction k using Nat.strongRecOn with
        | ind k ih =>
          intro hk x hx
          have hs := hv.ok.side k hk
          have sd : ∀ s, sok c.fPlayers.toNat k s → x ∈ bs (T c) s → 0 ≤ x ∧ x < c.fPlayers := by
            intro s hs hx
            unfold bs at hx
            rcases hs with ⟨h1, h2, h3⟩ | ⟨_, h2, h3⟩
            · rw [if_pos (by omega)] at hx; rw [List.mem_singleton.1 hx]; omega
            · rw [if_neg (by omega)] at hx; exact ih _ (by omega) (by omega) x hx
          rcases (bs_first hv.ok hk).1 hx with q | q
          · exact sd _ hs.1 q
          · exact sd _ hs.2 q
      intro s hs x hx
      unfold bs at hx
      rcases hs with ⟨h1, h2, h3⟩ | ⟨_, h2, h3⟩
      · rw [if_pos (by omega)] at hx; rw [List.mem_singleton.1 hx]; omega
      · rw [if_neg (by omega)] at hx; exact key _ (by omega) x hx
    rcases (bs_first hv.ok hn).1 hb with q | q
    · have := side _ hs.1 x q; omega
    · have := side _ hs.2 x q; omega
  have h1 := len_less (players_nodup c.fPlayers.toNat) (lost_nodup hv hp) hsub
  have h2 : (mays c).Perm ((players c.fPlayers.toNat).filter fun x => !decide (x ∈ lostl c c.fResults)) := by
    refine (List.perm_ext_iff_of_nodup (mays_nodup c) ((players_nodup _).filter _)).2 fun p => ?_
    rw [plain_may hv hp, List.mem_filter, players_mem]
    simp only [Bool.not_eq_true', decide_eq_false_iff_not, lost_mem hv]
    constructor
    · rintro ⟨h1, h2⟩
      exact ⟨by omega, fun ⟨n, hn, hw, hp'⟩ => h2 n hn hw hp'⟩
    · rintro ⟨h1, h2⟩
      exact ⟨by omega, fun n hn hw hp' => h2 ⟨n, hn, hw, hp'⟩⟩
  rw [h2.length_eq]
  have hpl : (players c.fPlayers.toNat).length = c.fPlayers.toNat := by simp [players]
  omega
theorem plain_hangs {c : Ref09Cup} (hv : Val c) (hp : ∀ n, prot c n = false) : hangs c = [] := by
  unfold hangs hangl
  rw [List.filterMap_eq_nil_iff]
  intro n hn
  have hn := List.mem_range.1 hn
  rw [if_neg]
  rintro ⟨h1, _, h3⟩
  have := (sure_iff hv (bmap_good hv.ok) hn h1).2 fun w hw => by
    obtain ⟨ea, eb, _⟩ := plain_won hv hp hw n hn h1
    unfold hlds
    cases e : res c (n : Int) with
    | none => unfold won at h1; rw [e] at h1; simp at h1
    | some r => simp [ea, eb]
  rw [this] at h3; cases h3
def pf (r : Ref09Result) : Ref09Result := ⟨r.fMatch, r.fGames, false⟩
def unp (c : Ref09Cup) : Ref09Cup := ⟨c.fForm, c.fPlayers, c.fGames, c.fResults.map pf⟩
theorem unp_map (c : Ref09Cup) : (unp c).fResults.map mg = c.fResults.map mg := by
  unfold unp; rw [List.map_map]; rfl
theorem unp_prot (c : Ref09Cup) (n : Nat) : prot (unp c) n = false := by
  unfold prot
  cases e : res (unp c) (n : Int) with
  | none => rfl
  | some r =>
    obtain ⟨q, _, rfl⟩ := List.mem_map.1 (res_mem e).1
    rfl
theorem plain_true {N : Nat} (hN : 4000 ≤ N) (c : Ref09Cup) : law09LadderPlain N c = some true := by
  unfold law09LadderPlain
  rw [ready_eq hN, Option.bind_some, wakes_ok hN]
  by_cases h : ready c = true
  rotate_left
  · simp [h]
  obtain ⟨ht, hv⟩ := ready_iff.1 h
  have hs := thin_sz ht
  have hs2 := hs.r
  have ff := hv.ff
  have hl := hv.len
  have hvx : Val (unp c) := mg_val hv (unp_map c) rfl rfl rfl
  have hk : Kin c (unp c) := mg_kin (unp_map c) rfl rfl rfl
  have hpx := unp_prot c
  simp only [h, Bool.not_true, Bool.false_eq_true, if_false]
  rw [app_ok (by simp; omega), Option.bind_some, List.nil_append, rT_eq hN hv.form, Option.bind_some]
  have key := loop_list (N := N) (B := fun rec3 x => law09LadderPlain_b1 N c (T c) rec3 x.1 x.2.1 x.2.2.1 x.2.2.2) c.fResults (fun i (a : List Int × List Ref09Result) => ((a.1.length : Int), (i : Int), a.1, a.2)) (fun _ _ => some (((lostl c c.fResults).length : Int), lostl c c.fResults, c.fResults.map pf)) (fun i a => a = (lostl c (c.fResults.take i), (c.fResults.take i).map pf ++ c.fResults.drop i))
    (fun a rec hok => by
      subst hok
      show law09LadderPlain_b1 N c _ rec _ _ _ _ = _
      rw [law09LadderPlain_b1, if_neg (by simp)]
      simp)
    (fun i r a rec hx hok hh => by
      have hlt := len_lt hx
      subst hok
      have hrm := List.mem_of_getElem? hx
      have hq := List.all_eq_true.1 hv.rght r hrm
      simp only [rghtR, Bool.and_eq_true, inr_iff] at hq
      have hd : c.fResults.drop i = r :: c.fResults.drop (i + 1) := by
        rw [List.drop_eq_getElem_cons hlt, (List.getElem?_eq_some_iff.1 hx).2]
      have hta : c.fResults.take (i + 1) = c.fResults.take i ++ [r] := by rw [List.take_add_one, hx]; rfl
      have hil : ((c.fResults.take i).map pf).length = i := by simp; omega
      have hget : ((c.fResults.take i).map pf ++ c.fResults.drop i)[i]? = some r := by
        rw [List.getElem?_append_right (by omega), hil, Nat.sub_self, hd]; rfl
      have hset : ((c.fResults.take i).map pf ++ c.fResults.drop i).set i (pf r) = (c.fResults.take (i + 1)).map pf ++ c.fResults.drop (i + 1) := by
        rw [List.set_append_right _ _ (by omega), hil, Nat.sub_self, hd, hta]; simp
      have hlen : ((c.fResults.take i).map pf ++ c.fResults.drop i).length = c.fResults.length := by simp; omega
      have hgs : ((c.fResults.take (i + 1)).map pf ++ c.fResults.drop (i + 1))[i]? = some (pf r) := by
        rw [List.getElem?_append_left (by simp; omega), List.getElem?_map, List.getElem?_take_of_lt (by omega), hx]; rfl
      have hll : (lostl c (c.fResults.take i)).length ≤ i := by unfold lostl; exact Nat.le_trans (List.length_filterMap_le _ _) (by simp; omega)
      have hsucc : lostl c (c.fResults.take (i + 1)) = lostl c (c.fResults.take i) ++ (if 0 ≤ won c r.fMatch then some (loser c r.fMatch) else none).toList := by
        unfold lostl; rw [hta, List.filterMap_append]; congr 1
      show law09LadderPlain_b1 N c (T c) rec ((lostl c (c.fResults.take i)).length : Int) (i : Int) (lostl c (c.fResults.take i)) ((c.fResults.take i).map pf ++ c.fResults.drop i) = _
      rw [law09LadderPlain_b1, if_pos (decide_eq_true (show (i : Int) < (((c.fResults.take i).map pf ++ c.fResults.drop i).length : Int) from by rw [hlen]; omega)), idx_at hget]
      simp only [Option.bind_some, Int.toNat_natCast]
      rw [show (⟨r.fMatch, r.fGames, false⟩ : Ref09Result) = pf r from rfl, hset, idx_at hgs]
      simp only [Option.bind_some, won_eq hN c hs, known_eq hN c hs, w64_succ (i := i) (by omega), show (pf r).fMatch = r.fMatch from rfl]
      by_cases e : 0 ≤ won c r.fMatch
      · have em : ((r.fMatch.toNat : Nat) : Int) = r.fMatch := by omega
        have hidx : idx (T c) r.fMatch = some ((T c).getD r.fMatch.toNat dP) := idx_T hq.1.1 (by omega)
        have hwn : won c ((r.fMatch.toNat : Nat) : Int) ≠ -1 := by rw [em]; omega
        have hlt' : r.fMatch.toNat < (T c).length := by omega
        obtain ⟨act, hact, hactw⟩ := ex_act hv
        have hko := won_res hv hwn
        have hkb : ∀ s, sok c.fPlayers.toNat r.fMatch.toNat s → 0 ≤ known c s → known c s < 100 := by
          intro s hs hk0
          unfold known at hk0 ⊢
          rcases hs with ⟨h1, h2, h3⟩ | ⟨_, h2, h3⟩
          · rw [if_pos (by omega)]; omega
          · rw [if_neg (by omega)] at hk0 ⊢
            have em2 : ((s.fMatch.toNat : Nat) : Int) = s.fMatch := by omega
            have hw2 := hactw s.fMatch.toNat (by omega) (by rw [em2]; omega)
            obtain ⟨x, hx⟩ := course_win hv (bmap_good hv.ok) hact (n := s.fMatch.toNat) (by omega)
            have := cst_nn (bmap_good hv.ok) hx
            rw [hw2, em2] at this
            omega
        have hsd := hv.ok.side _ hlt'
        have k1 := hkb _ hsd.1 hko.1
        have k2 := hkb _ hsd.2 hko.2
        have hwo := won_of hv hwn
        rw [em] at hwo
        rw [if_pos e] at hsucc
        rw [if_pos (decide_eq_true e), hidx]
        simp only [Option.bind_some]
        rw [show ((T c).getD r.fMatch.toNat dP).fFirst = fs (T c) r.fMatch.toNat from rfl, show ((T c).getD r.fMatch.toNat dP).fSecond = sn (T c) r.fMatch.toNat from rfl, w64_id (n := known c (fs (T c) r.fMatch.toNat) + known c (sn (T c) r.fMatch.toNat)) (by omega) (by omega), w64_id (by omega) (by omega), app_ok (by simp; omega)]
        simp only [Option.bind_some]
        have := hh (lostl c (c.fResults.take (i + 1)), (c.fResults.take (i + 1)).map pf ++ c.fResults.drop (i + 1)) rfl
        simp only at this
        rw [hsucc] at this
        rw [w64_id (by omega) (by omega)]
        simp only [Option.toList_some, List.length_append, List.length_singleton, Int.natCast_add] at this
        exact this
      · rw [if_neg e] at hsucc
        rw [if_neg (by simpa using e)]
        simp only [Option.bind_some]
        have := hh (lostl c (c.fResults.take (i + 1)), (c.fResults.take (i + 1)).map pf ++ c.fResults.drop (i + 1)) rfl
        simp only at this
        rw [hsucc] at this
        simpa using this) (by omega) ([], c.fResults) (by simp [lostl])
  have key' : loopN (fun rec3 x => law09LadderPlain_b1 N c (T c) rec3 x.1 x.2.1 x.2.2.1 x.2.2.2) N ((0 : Int), (0 : Int), ([] : List Int), c.fResults) = some (((lostl c c.fResults).length : Int), lostl c c.fResults, c.fResults.map pf) := key
  rw [key', Option.bind_some]
  have hlost : lostl c c.fResults = lostl (unp c) (unp c).fResults := by
    unfold lostl
    show _ = (c.fResults.map pf).filterMap _
    rw [List.filterMap_map]
    congr 1; funext r
    show _ = (if 0 ≤ won (unp c) r.fMatch then some (loser (unp c) r.fMatch) else none)
    unfold loser; rw [hk.T, hk.known, hk.known, hk.won]
  have hpl := plain_len hvx hpx
  rw [← hlost] at hpl
  have hpl' : ((mays (unp c)).length : Int) = c.fPlayers - ((lostl c c.fResults).length : Int) := hpl
  have hll : (lostl c c.fResults).length ≤ 1000 := by unfold lostl; exact Nat.le_trans (List.length_filterMap_le _ _) hs2
  simp only [show (⟨c.fForm, c.fPlayers, c.fGames, c.fResults.map pf⟩ : Ref09Cup) = unp c from rfl, cup_eq hN _ hvx.sz, Option.bind_some, hangs_eq hN _ hvx.sz.r, mayWin_eq hN _ hvx.sz.r, val_iff.2 hvx, if_true, plain_hangs hvx hpx, w64_id (n := c.fPlayers - ((lostl c c.fResults).length : Int)) (by omega) (by omega), hpl']
  have hmem : ∀ x ∈ mays (unp c), x ∉ lostl c c.fResults := by
    intro x hx hxl
    rw [hlost, lost_mem hvx] at hxl
    obtain ⟨n, hn, hw, hpn⟩ := hxl
    exact ((plain_may hvx hpx).1 hx).2 n hn hw hpn
  have fin := loop_list0 (N := N) (B := fun rec5 x => law09LadderPlain_b3 N (mays (unp c)) rec5 x.1 x.2) (mays (unp c)) (fun i => ((i : Int), lostl c c.fResults)) (fun _ => some true)
    (fun rec => by
      show law09LadderPlain_b3 N _ rec _ _ = _
      rw [law09LadderPlain_b3, if_neg (by simp)]
      unfold law09LadderPlain_k2
      rw [wakes_ok hN]; rfl)
    (fun i x rec hx hh => by
      have hlt := len_lt hx
      have := hmem x (List.mem_of_getElem? hx)
      show law09LadderPlain_b3 N _ rec (i : Int) _ = _
      rw [law09LadderPlain_b3, if_pos (decide_eq_true (by omega)), idx_at hx, w64_succ (i := i) (by omega), hh]
      simp [has_eq hN _ x (show (lostl c c.fResults).length ≤ 3000 by omega), this]) (by omega)
  have h0 : ((([] : List Int).length : Int) = 0) := rfl
  simp only [h0, decide_true, Bool.not_true, Bool.false_eq_true, if_false, Option.bind_some]
  exact fin
end Go.Proofs.Ytbceakhnnnfiaaa
