/-
  Way: a course that the player wins by as few upsets as can be.
-/
import Derived.Test.YtbceakhnnnfiaaaPO
set_option linter.all false
namespace Go.Proofs.Ytbceakhnnnfiaaa
open Go.Kp
/-! the matches below a match -/
def sbA (acc : List (List Nat)) (s : Ref09Side) : List Nat := if s.fMatch < 0 then [] else acc.getD s.fMatch.toNat []
def subT (T : Tr) : List (List Nat) := T.foldl (fun acc p => acc ++ [acc.length :: (sbA acc p.fFirst ++ sbA acc p.fSecond)]) []
def sub (T : Tr) (n : Nat) : List Nat := (subT T).getD n []
def sbs (T : Tr) (s : Ref09Side) : List Nat := if s.fMatch < 0 then [] else sub T s.fMatch.toNat
structure SOK (T : Tr) : Prop where
  eq : ∀ n, n < T.length → sub T n = n :: (sbs T (fs T n) ++ sbs T (sn T n))
  nodup : ∀ n, n < T.length → (sub T n).Nodup
  lt : ∀ n, n < T.length → ∀ k ∈ sub T n, k < T.length
  all : ∀ n, n < T.length → n ∈ sub T (T.length - 1)
def SOKd (T : Tr) : Prop := (∀ n, n < T.length → sub T n = n :: (sbs T (fs T n) ++ sbs T (sn T n))) ∧ (∀ n, n < T.length → (sub T n).Nodup) ∧ (∀ n, n < T.length → ∀ k ∈ sub T n, k < T.length) ∧ (∀ n, n < T.length → n ∈ sub T (T.length - 1))
instance (T : Tr) : Decidable (SOKd T) := by unfold SOKd; infer_instance
theorem sub_okd : ∀ b : Bool, ∀ P, P < 17 → 2 ≤ P → SOKd (tre b P) := by decide +kernel
theorem T_sub {c : Ref09Cup} (hv : Val c) : SOK (T c) := by
  have ff := hv.ff
  obtain ⟨a, b, d, e⟩ := sub_okd (decide (c.fForm = 1)) c.fPlayers.toNat (by omega) (by omega)
  exact ⟨a, b, d, e⟩
structure Pt (c : Ref09Cup) (m : BM) (n : Nat) (p : Int) (w : List Int) : Prop where
  top : w.getD n 0 = p
  ok : ∀ k ∈ sub (T c) n, poss c k w (w.getD k 0)
  bel : ∀ k ∈ sub (T c) n, ca c k w ∈ bs (T c) (fs (T c) k) ∧ cb c k w ∈ bs (T c) (sn (T c) k)
  cost : ∀ C : Nat → Int, (∀ k, k < (T c).length → C k = Cs C (fs (T c) k) + Cs C (sn (T c) k) + uR c w k) → cst m n p = some (C n)
theorem sub_kid {c : Ref09Cup} (hv : Val c) {n : Nat} (hn : n < (T c).length) : ∀ k ∈ sub (T c) n, (0 ≤ (fs (T c) k).fMatch → (fs (T c) k).fMatch.toNat ∈ sub (T c) n) ∧ (0 ≤ (sn (T c) k).fMatch → (sn (T c) k).fMatch.toNat ∈ sub (T c) n) := by
  have hS := T_sub hv
  induction n using Nat.strongRecOn with
  | ind n ih =>
    intro k hk
    have hs := hv.ok.side n hn
    unfold sok at hs
    have self : ∀ j, j < (T c).length → j ∈ sub (T c) j := fun j hj => by rw [hS.eq j hj]; simp
    rw [hS.eq n hn] at hk ⊢
    rcases List.mem_cons.1 hk with rfl | hk
    · refine ⟨fun h => ?_, fun h => ?_⟩
      · have : (fs (T c) k).fMatch.toNat ∈ sbs (T c) (fs (T c) k) := by unfold sbs; rw [if_neg (by omega)]; exact self _ (by omega)
        simp [this]
      · have : (sn (T c) k).fMatch.toNat ∈ sbs (T c) (sn (T c) k) := by unfold sbs; rw [if_neg (by omega)]; exact self _ (by omega)
        simp [this]
    · rcases List.mem_append.1 hk with h | h
      · by_cases e : (fs (T c) n).fMatch < 0
        · unfold sbs at h; rw [if_pos e] at h; cases h
        · have hx : sbs (T c) (fs (T c) n) = sub (T c) (fs (T c) n).fMatch.toNat := by unfold sbs; rw [if_neg e]
          rw [hx] at h ⊢
          have := ih (fs (T c) n).fMatch.toNat (by omega) (by omega) k h
          exact ⟨fun q => by simp [this.1 q], fun q => by simp [this.2 q]⟩
      · by_cases e : (sn (T c) n).fMatch < 0
        · unfold sbs at h; rw [if_pos e] at h; cases h
        · have hx : sbs (T c) (sn (T c) n) = sub (T c) (sn (T c) n).fMatch.toNat := by unfold sbs; rw [if_neg e]
          rw [hx] at h ⊢
          have := ih (sn (T c) n).fMatch.toNat (by omega) (by omega) k h
          exact ⟨fun q => by simp [this.1 q], fun q => by simp [this.2 q]⟩
theorem cm_congr {s : Ref09Side} {w u : List Int} (h : 0 ≤ s.fMatch → w.getD s.fMatch.toNat 0 = u.getD s.fMatch.toNat 0) : comes s w = comes s u := by
  unfold comes
  split
  · rfl
  · exact h (by omega)
theorem uR_congr {c : Ref09Cup} {k : Nat} {w u : List Int} (h1 : ca c k w = ca c k u) (h2 : cb c k w = cb c k u) (h3 : w.getD k 0 = u.getD k 0) : uR c w k = uR c u k := by
  unfold uR sw; rw [h1, h2, h3]
theorem Pt.congr {c : Ref09Cup} (hv : Val c) {m : BM} {n : Nat} (hn : n < (T c).length) {p : Int} {w u : List Int} (h : Pt c m n p w) (he : ∀ k ∈ sub (T c) n, u.getD k 0 = w.getD k 0) : Pt c m n p u := by
  have hS := T_sub hv
  have hself : n ∈ sub (T c) n := by rw [hS.eq n hn]; simp
  have hc : ∀ k ∈ sub (T c) n, ca c k u = ca c k w ∧ cb c k u = cb c k w := fun k hk =>
    ⟨cm_congr fun h0 => he _ ((sub_kid hv hn k hk).1 h0), cm_congr fun h0 => he _ ((sub_kid hv hn k hk).2 h0)⟩
  refine ⟨by rw [he n hself]; exact h.top, fun k hk => ?_, fun k hk => ?_, fun C hC => ?_⟩
  · have := h.ok k hk
    unfold poss sw at *
    rw [(hc k hk).1, (hc k hk).2, he k hk]; exact this
  · rw [(hc k hk).1, (hc k hk).2]; exact h.bel k hk
  · -- costs below n alone
    obtain ⟨D, hD⟩ := ex_C c hv.ok (uR c w)
    have key : ∀ k, k < (T c).length → k ∈ sub (T c) n → C k = D k := by
      intro k
      induction k using Nat.strongRecOn with
      | ind k ih =>
        intro hk hks
        have hs := hv.ok.side k hk
        have sd : ∀ s, sok c.fPlayers.toNat k s → (0 ≤ s.fMatch → s.fMatch.toNat ∈ sub (T c) n) → Cs C s = Cs D s := by
          intro s hs hm
          unfold Cs
          rcases hs with ⟨h1, _, _⟩ | ⟨_, h2, h3⟩
          · rw [if_pos (by omega), if_pos (by omega)]
          · rw [if_neg (by omega), if_neg (by omega)]; exact ih _ (by omega) (by omega) (hm h2)
        rw [hC k hk, hD k hk, sd _ hs.1 (sub_kid hv hn k hks).1, sd _ hs.2 (sub_kid hv hn k hks).2, uR_congr (hc k hks).1 (hc k hks).2 (he k hks)]
    rw [key n hn hself]
    exact h.cost D hD
section
variable {N : Nat} (hN : 4000 ≤ N)
include hN
theorem comesP_eq {c : Ref09Cup} (hv : Val c) {p : Int} (c1 c2 c3 : Int) (c4 : List LadderResult) (m1 : List (Int × LadderResult)) (l1 : List (Ar2 Int)) : ∀ (fuel n : Nat), n < fuel → n < (T c).length →
    loopN (fun rr x => ladderDrawComes_f N rr x.1 x.2.1 x.2.2.1 x.2.2.2.1 x.2.2.2.2.1 x.2.2.2.2.2.1 x.2.2.2.2.2.2.1 x.2.2.2.2.2.2.2.1 x.2.2.2.2.2.2.2.2) fuel (p, (n : Int), c1, c2, c3, c4, (T c).map cpr, m1, l1) = some (decide (p ∈ bel (T c) n)) := by
  intro fuel
  induction fuel with
  | zero => intro n h; omega
  | succ fuel ih =>
    intro n hf hn
    have hs := hv.ok.side n hn
    show ladderDrawComes_f N (loopN _ fuel) p (n : Int) c1 c2 c3 c4 ((T c).map cpr) m1 l1 = _
    have hxi : ((T c).map cpr)[n]? = some (cpr ((T c).getD n dP)) := by rw [List.getElem?_map, getT hn]; rfl
    have sd : ∀ s, sok c.fPlayers.toNat n s → (if decide (csd s = ⟨p, -1⟩) then some true else if !decide ((csd s).fMatch = -1) then Option.bind (loopN (fun rr x => ladderDrawComes_f N rr x.1 x.2.1 x.2.2.1 x.2.2.2.1 x.2.2.2.2.1 x.2.2.2.2.2.1 x.2.2.2.2.2.2.1 x.2.2.2.2.2.2.2.1 x.2.2.2.2.2.2.2.2) fuel (p, (csd s).fMatch, c1, c2, c3, c4, (T c).map cpr, m1, l1)) fun r => some r else some false) = some (decide (p ∈ bs (T c) s)) := by
      intro s hs
      unfold bs csd
      rcases hs with ⟨h1, h2, h3⟩ | ⟨h0, h2, h3⟩
      · have h5 : s.fMatch < 0 := by omega
        by_cases e : s.fPlayer = p
        · simp [e, h1]
        · have e' : ¬ p = s.fPlayer := fun h => e h.symm
          simp [e, e', h1]
      · have h4 : ¬ s.fMatch = -1 := by omega
        have h5 : ¬ s.fMatch < 0 := by omega
        simp only [LadderSide.mk.injEq, h4, h5, and_false, decide_false, Bool.false_eq_true, if_false, Bool.not_false, if_true]
        have := ih s.fMatch.toNat (by omega) (by omega)
        rw [show ((s.fMatch.toNat : Nat) : Int) = s.fMatch from by omega] at this
        rw [this]; rfl
    rw [ladderDrawComes_f, idx_at hxi]
    simp only [ladderSides, ladderPairFirst, ladderPairSecond, ladderPlayer, Option.bind_some, show (cpr ((T c).getD n dP)).fFirst = csd (fs (T c) n) from rfl, show (cpr ((T c).getD n dP)).fSecond = csd (sn (T c) n) from rfl]
    rw [sd _ hs.1, sd _ hs.2, bs_mem hv hn]
    by_cases e1 : p ∈ bs (T c) (fs (T c) n)
    · simp [e1]
    · by_cases e2 : p ∈ bs (T c) (sn (T c) n) <;> simp [e1, e2]
where
  bs_mem {c : Ref09Cup} (hv : Val c) {n : Nat} (hn : n < (T c).length) {p : Int} : decide (p ∈ bel (T c) n) = (decide (p ∈ bs (T c) (fs (T c) n)) || decide (p ∈ bs (T c) (sn (T c) n))) := by
    rw [Bool.eq_iff_iff]
    simp [bs_first hv.ok hn]
theorem way1_eq {c : Ref09Cup} (hv : Val c) {m : BM} (hg : GB c (T c).length m) (c1 c2 c3 : Int) (c4 : List LadderResult) (m2 : List (Int × LadderResult)) (l2 : List (Ar2 Int)) : ∀ (fuel n : Nat), n < fuel → ∀ (p x : Int) (l : List Int), n < (T c).length → cst m n p = some x → l.length = (T c).length →
    ∃ w, loopN (fun rr x => ladderWay1_f N rr x.1 x.2.1 x.2.2.1 x.2.2.2.1 x.2.2.2.2.1 x.2.2.2.2.2.1 x.2.2.2.2.2.2.1 x.2.2.2.2.2.2.2.1 x.2.2.2.2.2.2.2.2.1 x.2.2.2.2.2.2.2.2.2.1 x.2.2.2.2.2.2.2.2.2.2) fuel ((n : Int), p, l, m, c1, c2, c3, c4, (T c).map cpr, m2, l2) = some w ∧ w.length = (T c).length ∧ (∀ k, k ∉ sub (T c) n → w.getD k 0 = l.getD k 0) ∧ Pt c m n p w := by
  intro fuel
  induction fuel with
  | zero => intro n h; omega
  | succ fuel ih =>
    intro n hf p x l hn hx hl
    have ff := hv.ff
    have hlen := hv.len
    have hS := T_sub hv
    have hs := hv.ok.side n hn
    have hs' := hs
    unfold sok at hs'
    show ∃ w, ladderWay1_f N (loopN _ fuel) (n : Int) p l m c1 c2 c3 c4 ((T c).map cpr) m2 l2 = some w ∧ _
    have hxi : ((T c).map cpr)[n]? = some (cpr ((T c).getD n dP)) := by rw [List.getElem?_map, getT hn]; rfl
    -- what the map says
    have hx2 := hx
    unfold cst at hx2
    rw [Option.map_eq_some_iff] at hx2
    obtain ⟨v, hv1, hv2⟩ := hx2
    obtain ⟨e, he, f, hf', hc⟩ := (hg.row n hn).sound p v hv1
    have heb := frm_bs hv hg hs.1 he
    have hfb := frm_bs hv hg hs.2 hf'
    have hne := bs_disj hv.ok hn heb hfb
    -- to whom the sides go
    have pick : (if p ∈ bs (T c) (fs (T c) n) then p else v.fOther) = e.1 ∧ (if p ∈ bs (T c) (sn (T c) n) then p else v.fOther) = f.1 := by
      rcases hc.1 with ⟨h1, h2⟩ | ⟨h1, h2⟩
      · rw [if_pos (by rw [h1]; exact heb), if_neg (fun h => bs_disj hv.ok hn (by rw [h1]; exact heb) h rfl)]
        exact ⟨h1, h2⟩
      · rw [if_neg (fun h => bs_disj hv.ok hn h (by rw [h1]; exact hfb) rfl), if_pos (by rw [h1]; exact hfb)]
        exact ⟨h2, h1⟩
    have kid : ∀ (s : Ref09Side) (e : Int × Int), sok c.fPlayers.toNat n s → e ∈ frm c m s → 0 ≤ s.fMatch → cst m s.fMatch.toNat e.1 = some e.2 := by
      intro s e hs he h0
      unfold frm at he
      rw [if_neg (by omega), mem_frl] at he
      obtain ⟨_, _, y, hy, hyu⟩ := he
      unfold cst
      rw [show ((s.fMatch.toNat : Nat) : Int) = s.fMatch from by omega, hy, ← hyu]; rfl
    -- one side
    have step : ∀ (s : Ref09Side) (e : Int × Int) (l : List Int), sok c.fPlayers.toNat n s → e ∈ frm c m s → (if p ∈ bs (T c) s then p else v.fOther) = e.1 → l.length = (T c).length →
        ∃ w, (if decide ((csd s).fMatch = -1) then some l else Option.bind (ladderDrawComes N p (csd s).fMatch c1 c2 c3 c4 ((T c).map cpr) m2 l2) fun r10 =>
          if r10 then Option.bind (loopN (fun rr x => ladderWay1_f N rr x.1 x.2.1 x.2.2.1 x.2.2.2.1 x.2.2.2.2.1 x.2.2.2.2.2.1 x.2.2.2.2.2.2.1 x.2.2.2.2.2.2.2.1 x.2.2.2.2.2.2.2.2.1 x.2.2.2.2.2.2.2.2.2.1 x.2.2.2.2.2.2.2.2.2.2) fuel ((csd s).fMatch, p, l, m, c1, c2, c3, c4, (T c).map cpr, m2, l2)) fun r11 => some r11
          else Option.bind (loopN (fun rr x => ladderWay1_f N rr x.1 x.2.1 x.2.2.1 x.2.2.2.1 x.2.2.2.2.1 x.2.2.2.2.2.1 x.2.2.2.2.2.2.1 x.2.2.2.2.2.2.2.1 x.2.2.2.2.2.2.2.2.1 x.2.2.2.2.2.2.2.2.2.1 x.2.2.2.2.2.2.2.2.2.2) fuel ((csd s).fMatch, v.fOther, l, m, c1, c2, c3, c4, (T c).map cpr, m2, l2)) fun r12 => some r12) = some w ∧
        w.length = (T c).length ∧ (∀ k, k ∉ sbs (T c) s → w.getD k 0 = l.getD k 0) ∧ (0 ≤ s.fMatch → Pt c m s.fMatch.toNat e.1 w) := by
      intro s e l hs he hp hl
      by_cases h0 : s.fMatch = -1
      · refine ⟨l, ?_, hl, fun _ _ => rfl, fun h => by omega⟩
        rw [if_pos (decide_eq_true (show (csd s).fMatch = -1 from h0))]
      · have hs2 := hs
        unfold sok at hs2
        have em : ((s.fMatch.toNat : Nat) : Int) = s.fMatch := by omega
        have hlt : s.fMatch.toNat < (T c).length := by omega
        obtain ⟨w, h1, h2, h3, h4⟩ := ih s.fMatch.toNat (by omega) e.1 e.2 l hlt (kid s e hs he (by omega)) hl
        refine ⟨w, ?_, h2, fun k hk => h3 k (by unfold sbs at hk; rwa [if_neg (by omega)] at hk), fun _ => h4⟩
        have hcm : ladderDrawComes N p s.fMatch c1 c2 c3 c4 ((T c).map cpr) m2 l2 = some (decide (p ∈ bs (T c) s)) := by
          have := comesP_eq hN hv (p := p) c1 c2 c3 c4 m2 l2 N s.fMatch.toNat (by omega) hlt
          rw [em] at this
          unfold bs
          rw [if_neg (by omega)]
          exact this
        rw [if_neg (by simpa using (show ¬ (csd s).fMatch = -1 from h0)), show (csd s).fMatch = s.fMatch from rfl, hcm, Option.bind_some]
        rw [em] at h1
        by_cases q : p ∈ bs (T c) s
        · rw [if_pos q] at hp
          rw [if_pos (decide_eq_true q), hp, h1]; rfl
        · rw [if_neg q] at hp
          rw [if_neg (by simpa using q), hp, h1]; rfl
    have hl1 : (l.set n p).length = (T c).length := by simpa using hl
    obtain ⟨w1, a1, a2, a3, a4⟩ := step (fs (T c) n) e (l.set n p) hs.1 he pick.1 hl1
    obtain ⟨w2, b1, b2, b3, b4⟩ := step (sn (T c) n) f w1 hs.2 hf' pick.2 a2
    have hnd := hS.nodup n hn
    rw [hS.eq n hn, List.nodup_cons, List.nodup_append] at hnd
    have hn1 : n ∉ sbs (T c) (fs (T c) n) := fun h => hnd.1 (by simp [h])
    have hn2 : n ∉ sbs (T c) (sn (T c) n) := fun h => hnd.1 (by simp [h])
    have htop : w2.getD n 0 = p := by
      rw [b3 n hn2, a3 n hn1, List.getD_eq_getElem?_getD, List.getElem?_set_self (by omega)]; rfl
    have p1 : 0 ≤ (fs (T c) n).fMatch → Pt c m (fs (T c) n).fMatch.toNat e.1 w2 := fun h0 => by
      refine (a4 h0).congr hv (by omega) fun k hk => b3 k fun hk2 => ?_
      have hx : sbs (T c) (fs (T c) n) = sub (T c) (fs (T c) n).fMatch.toNat := by unfold sbs; rw [if_neg (by omega)]
      exact hnd.2.2.2 k (by rw [hx]; exact hk) k hk2 rfl
    have p2 := b4
    have hca : ca c n w2 = e.1 := by
      unfold ca comes
      unfold frm at he
      by_cases h0 : (fs (T c) n).fMatch = -1
      · rw [if_pos h0, List.mem_singleton] at he
        rw [if_pos (by omega), he]
      · rw [if_neg (by omega)]; exact (p1 (by omega)).top
    have hcb : cb c n w2 = f.1 := by
      unfold cb comes
      unfold frm at hf'
      by_cases h0 : (sn (T c) n).fMatch = -1
      · rw [if_pos h0, List.mem_singleton] at hf'
        rw [if_pos (by omega), hf']
      · rw [if_neg (by omega)]; exact (p2 (by omega)).top
    have es : sett c n e.1 f.1 = sw c n w2 := by unfold sw; rw [hca, hcb]
    refine ⟨w2, ?_, b2, fun k hk => ?_, ⟨htop, fun k hk => ?_, fun k hk => ?_, fun C hC => ?_⟩⟩
    · rw [ladderWay1_f]
      have hli : idx l (n : Int) = some (l.getD n 0) := idx_at (by rw [List.getD_eq_getElem?_getD, List.getElem?_eq_getElem (by omega)]; rfl)
      rw [hli, Option.bind_some]
      unfold mgt
      rw [hv1, Option.bind_some]
      simp only [ladderSides, Option.bind_some, idx_at hxi, ladderPairFirst, ladderPairSecond, Int.toNat_natCast, show (cpr ((T c).getD n dP)).fFirst = csd (fs (T c) n) from rfl, show (cpr ((T c).getD n dP)).fSecond = csd (sn (T c) n) from rfl, Option.getD_some]
      rw [a1, Option.bind_some, b1]; rfl
    · rw [hS.eq n hn] at hk
      simp only [List.mem_cons, List.mem_append, not_or] at hk
      rw [b3 k hk.2.2, a3 k hk.2.1, List.getD_eq_getElem?_getD, List.getElem?_set_ne (fun e => hk.1 e.symm), ← List.getD_eq_getElem?_getD]
    · rw [hS.eq n hn] at hk
      rcases List.mem_cons.1 hk with rfl | hk
      · rw [htop]
        refine ⟨?_, ?_⟩
        · rw [hca, hcb]; rcases hc.1 with ⟨h, _⟩ | ⟨h, _⟩
          · exact .inl h
          · exact .inr h
        · rw [← es]; rcases hc.2.1 with h | h
          · exact .inl (by omega)
          · exact .inr h
      · rcases List.mem_append.1 hk with h | h
        · have h0 : 0 ≤ (fs (T c) n).fMatch := by
            refine Int.not_lt.1 fun h0 => ?_
            unfold sbs at h; rw [if_pos h0] at h; cases h
          refine (p1 h0).ok k ?_
          unfold sbs at h; rwa [if_neg (by omega)] at h
        · have h0 : 0 ≤ (sn (T c) n).fMatch := by
            refine Int.not_lt.1 fun h0 => ?_
            unfold sbs at h; rw [if_pos h0] at h; cases h
          refine (p2 h0).ok k ?_
          unfold sbs at h; rwa [if_neg (by omega)] at h
    · rw [hS.eq n hn] at hk
      rcases List.mem_cons.1 hk with rfl | hk
      · rw [hca, hcb]; exact ⟨heb, hfb⟩
      · rcases List.mem_append.1 hk with h | h
        · have h0 : 0 ≤ (fs (T c) n).fMatch := by
            refine Int.not_lt.1 fun h0 => ?_
            unfold sbs at h; rw [if_pos h0] at h; cases h
          refine (p1 h0).bel k ?_
          unfold sbs at h; rwa [if_neg (by omega)] at h
        · have h0 : 0 ≤ (sn (T c) n).fMatch := by
            refine Int.not_lt.1 fun h0 => ?_
            unfold sbs at h; rw [if_pos h0] at h; cases h
          refine (p2 h0).bel k ?_
          unfold sbs at h; rwa [if_neg (by omega)] at h
    · have cost : ∀ (s : Ref09Side) (e : Int × Int), sok c.fPlayers.toNat n s → e ∈ frm c m s → (0 ≤ s.fMatch → Pt c m s.fMatch.toNat e.1 w2) → e.2 = Cs C s := by
        intro s e hs he hk
        unfold Cs
        rcases hs with ⟨h1, h2', h3'⟩ | ⟨h0, q2, q3⟩
        · unfold frm at he
          rw [if_pos h1, List.mem_singleton] at he
          rw [if_pos (by omega), he]
        · rw [if_neg (by omega)]
          have h1 := kid s e (.inr ⟨h0, q2, q3⟩) he q2
          rw [(hk q2).cost C hC] at h1
          exact (Option.some.inj h1).symm
      have k1 := cost _ _ hs.1 he p1
      have k2 := cost _ _ hs.2 hf' p2
      have hsm := sw_mem hv (n := n) (w := w2)
      have hu := uR_up (c := c) (w := w2) (n := n) (o := v.fOther) (by rw [hca, hcb]; exact hne) (by omega) (by rw [htop, hca, hcb]; exact hc.1)
      rw [hx, hC n hn, hu, htop, ← es]
      have := hc.2.2
      congr 1
      omega
theorem way_wp (c : Ref09Cup) (h : c.fResults.length ≤ 1000) (p : Int) (Q : List Int × Int → Prop)
    (h1 : (ups c p).2 ≠ 0 → Q ([], (ups c p).2))
    (h2 : (ups c p).2 = 0 → ∀ w, IsC c w → w.getD (lst c) 0 = p → upR c w = (ups c p).1 → Q (w, 0)) : ladderWay N (cc c) p Q := by
  unfold ladderWay ladderCupAsked
  unfold ups at h1 h2
  rw [draw_eq hN c h, bindO_some]
  by_cases q : flt c = 0
  rotate_left
  · rw [if_neg q] at h1 h2 ⊢
    simp only [Go.Kp.bindW, retW, q, decide_false, Bool.not_false, if_true]
    exact h1 q
  have hv := val_iff.1 q
  have ff := hv.ff; have hl := hv.len
  have ew : w64 ((cc c).fPlayers - 1) = c.fPlayers - 1 := w64_id (by show -9223372036854775808 ≤ c.fPlayers - 1; omega) (by show c.fPlayers - 1 ≤ _; omega)
  rw [if_pos q] at h1 h2 ⊢
  simp only [drw, decide_true, Bool.not_true, Bool.false_eq_true, if_false]
  rw [within_eq, bindO_some, ew]
  by_cases e : inr p 0 (c.fPlayers - 1) = true
  rotate_left
  · rw [if_neg e] at h1 h2
    simp only [e, Go.Kp.bindW, retW, Bool.not_false, if_true]
    exact h1 (by decide)
  rw [if_pos e] at h1 h2
  rw [e]
  simp only [Bool.not_true, Bool.false_eq_true, if_false]
  refine best_wp hN hv _ _ _ fun m hg => ?_
  simp only [last_eq hN hv, bindO_some, mgt]
  have hu := hg.uniq hv.ok (bmap_good hv.ok) (lst c : Int) p
  rw [← hu] at h1 h2
  have hcst : cst m (lst c : Int) p = (mget m ⟨(lst c : Int), p⟩).map (·.fUpsets) := rfl
  cases e2 : mget m ⟨(lst c : Int), p⟩ with
  | none =>
    rw [e2] at hcst
    rw [hcst] at h1 h2
    simp only [Option.isSome_none, Bool.not_false, if_true, retW]
    exact h1 (by decide)
  | some x =>
    rw [e2] at hcst
    have hcst' : cst m (lst c : Int) p = some x.fUpsets := hcst
    rw [hcst'] at h1 h2
    simp only [Option.isSome_some, Bool.not_true, Bool.false_eq_true, if_false]
    show (bindO (mkl N _ _) _) _
    rw [List.length_map]
    have hm : mkl N (((T c).length : Nat) : Int) (0 : Int) = some (List.replicate (T c).length 0) := by unfold mkl; rw [if_pos (by omega)]; simp
    rw [hm, bindO_some, last_eq hN hv, bindO_some]
    have hlt : lst c < (T c).length := by unfold lst; omega
    obtain ⟨w, hw, hwl, _, hp⟩ := way1_eq hN hv hg c.fForm c.fPlayers c.fGames (c.fResults.map cr) (rm c.fResults) (plys c (T c).length) N (lst c) (by omega) p x.fUpsets (List.replicate (T c).length 0) hlt hcst' (by simp)
    have hw' : ladderWay1 N (lst c : Int) p (List.replicate (T c).length 0) m c.fForm c.fPlayers c.fGames (c.fResults.map cr) ((T c).map cpr) (rm c.fResults) (plys c (T c).length) = some w := hw
    rw [hw', bindO_some]
    show Q (w, 0)
    have hic : IsC c w := ⟨hwl, fun n hn => hp.ok n ((T_sub hv).all n hn)⟩
    refine h2 rfl w hic hp.top ?_
    obtain ⟨C, hC⟩ := ex_C c hv.ok (uR c w)
    have := hp.cost C hC
    rw [hcst'] at this
    rw [upR_last hv hC]
    exact (Option.some.inj this).symm
end
end Go.Proofs.Ytbceakhnnnfiaaa
