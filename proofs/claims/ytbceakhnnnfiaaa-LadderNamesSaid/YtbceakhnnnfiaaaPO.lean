/-
  Proofs of ways: the program's, the document's.
-/
import Derived.Test.YtbceakhnnnfiaaaPN
set_option linter.all false
namespace Go.Proofs.Ytbceakhnnnfiaaa
open Go.Kp
def pa (c : Ref09Cup) (w : List Int) : Nat → Tr → Bool
  | _, [] => true
  | i, _ :: r => decide (poss c i w (w.getD i 0)) && pa c w (i + 1) r
theorem pa_iff {c : Ref09Cup} {w : List Int} : ∀ {l : Tr} {i : Nat}, pa c w i l = true ↔ ∀ k, i ≤ k → k < i + l.length → poss c k w (w.getD k 0)
  | [], i => by simp [pa]; intro k h1 h2; omega
  | x :: l, i => by
    rw [pa, Bool.and_eq_true, decide_eq_true_eq, pa_iff]
    constructor
    · rintro ⟨h, hh⟩ k h1 h2
      rcases Nat.lt_or_ge i k with q | q
      · exact hh k q (by simp at h2; omega)
      · rw [show k = i by omega]; exact h
    · intro hh
      exact ⟨hh i (Nat.le_refl _) (by simp), fun k h1 h2 => hh k (by omega) (by simp; omega)⟩
def isCb (c : Ref09Cup) (w : List Int) : Bool := decide (w.length = (T c).length) && pa c w 0 (T c)
theorem isCb_iff {c : Ref09Cup} {w : List Int} : isCb c w = true ↔ IsC c w := by
  unfold isCb
  rw [Bool.and_eq_true, decide_eq_true_eq, pa_iff]
  exact ⟨fun ⟨h1, h2⟩ => ⟨h1, fun n hn => h2 n (Nat.zero_le _) (by omega)⟩, fun h => ⟨h.len, fun n _ hn => h.ok n (by omega)⟩⟩
def us (c : Ref09Cup) (w : List Int) : Nat → Tr → Int
  | _, [] => 0
  | i, _ :: r => uR c w i + us c w (i + 1) r
theorem us_eq {c : Ref09Cup} {w : List Int} : ∀ (l : Tr) (i n : Nat), i + l.length = n → ((List.range n).map (uR c w)).sum = ((List.range i).map (uR c w)).sum + us c w i l
  | [], i, n, h => by subst h; simp [us]
  | x :: l, i, n, h => by
    rw [us_eq l (i + 1) n (by simp at h; omega), upR_take (N := 4000) (Nat.le_refl _), us]; omega
theorem us_up (c : Ref09Cup) (w : List Int) : us c w 0 (T c) = upR c w := by
  unfold upR
  rw [us_eq (T c) 0 _ (Nat.zero_add _)]; simp
section
variable {N : Nat} (hN : 4000 ≤ N)
include hN
theorem isCourse_eq {c : Ref09Cup} (hv : Val c) (w : List Int) : ref09IsCourse N c w = some (isCb c w) := by
  have ff := hv.ff
  have hl := hv.len
  unfold ref09IsCourse isCb
  rw [rT_eq hN hv.form, Option.bind_some]
  by_cases hw : w.length = (T c).length
  rotate_left
  · simp [hw]; omega
  simp only [hw, decide_true, Bool.not_true, Bool.false_eq_true, if_false, Bool.true_and]
  have key := loop_from (N := N) (B := fun rec3 x => ref09IsCourse_b2 N c w (T c) rec3 x) (T c) (fun i => (i : Int)) (fun i l => some (pa c w i l))
    (fun rec => by
      show ref09IsCourse_b2 N c w _ rec _ = _
      rw [ref09IsCourse_b2, if_neg (by simp)]; rfl)
    (fun i x rec hx hh => by
      have hlt := len_lt hx
      have hs := hv.ok.side i hlt
      show ref09IsCourse_b2 N c w _ rec (i : Int) = _
      have hwi : idx w (i : Int) = some (w.getD i 0) := idx_at (by rw [List.getD_eq_getElem?_getD, List.getElem?_eq_getElem (by omega)]; rfl)
      rw [ref09IsCourse_b2, if_pos (decide_eq_true (by omega)), idxn hN hlt, w64_succ (i := i) (by omega), hh]
      simp only [Option.bind_some]
      rw [show ((T c).getD i dP).fFirst = fs (T c) i from rfl, show ((T c).getD i dP).fSecond = sn (T c) i from rfl, comes_eq hN hs.1 (by omega), comes_eq hN hs.2 (by omega), settledR_eq hN hv.form hv.sz hlt (by omega), hwi, pa]
      simp only [Option.bind_some]
      rw [show comes (fs (T c) i) w = ca c i w from rfl, show comes (sn (T c) i) w = cb c i w from rfl]
      have hp : poss c i w (w.getD i 0) ↔ (w.getD i 0 = ca c i w ∨ w.getD i 0 = cb c i w) ∧ (sw c i w < 0 ∨ sw c i w = w.getD i 0) := Iff.rfl
      by_cases q1 : w.getD i 0 = ca c i w <;> by_cases q2 : w.getD i 0 = cb c i w <;> by_cases q3 : sw c i w < 0 <;> by_cases q4 : sw c i w = w.getD i 0 <;> simp [hp, q1, q2, q3, q4, show (0 ≤ sw c i w) ↔ ¬ sw c i w < 0 from by omega] <;> simp_all) (by omega) 0 (by omega)
  simpa using key
theorem proveWay_eq (c : Ref09Cup) (h : c.fResults.length ≤ 1000) (w : List Int) (u : Int) : ladderProveWay N (cc c) w u = some (decide (flt c = 0) && (isCb c w && decide (upR c w ≤ u))) := by
  unfold ladderProveWay
  rw [draw_eq hN c h, Option.bind_some]
  by_cases q : flt c = 0
  rotate_left
  · rw [if_neg q]; simp [q]
  have hv := val_iff.1 q
  have ff := hv.ff
  have hl := hv.len
  rw [if_pos q]
  simp only [drw, decide_true, Bool.not_true, Bool.false_eq_true, if_false, Option.bind_some, q, Bool.true_and, List.length_map]
  unfold isCb
  by_cases hw : w.length = (T c).length
  rotate_left
  · have : ¬ ((w.length : Int) = ((T c).length : Int)) := by omega
    simp [hw, this]
  simp only [hw, decide_true, Bool.not_true, Bool.false_eq_true, if_false, Bool.true_and]
  have key := loop_list (N := N) (B := fun rec3 x => ladderProveWay_b3 N w u c.fForm c.fPlayers c.fGames (c.fResults.map cr) ((T c).map cpr) (rm c.fResults) (plys c (T c).length) rec3 x.1 x.2.1 x.2.2) (T c) (fun i (a : Int) => (a, ((T c).length : Int), (i : Int))) (fun l a => some (pa c w ((T c).length - l.length) l && decide (a + us c w ((T c).length - l.length) l ≤ u))) (fun i a => 0 ≤ a ∧ a ≤ i)
    (fun a rec hok => by
      show ladderProveWay_b3 N w u _ _ _ _ _ _ _ rec _ _ _ = _
      rw [ladderProveWay_b3, if_neg (by simp)]
      simp [ladderProveWay_k1, pa, us])
    (fun i x a rec hx hok hh => by
      have hlt := len_lt hx
      have hs := hv.ok.side i hlt
      have hxi : ((T c).map cpr)[i]? = some (cpr ((T c).getD i dP)) := by rw [List.getElem?_map, getT hlt]; rfl
      have hwi : idx w (i : Int) = some (w.getD i 0) := idx_at (by rw [List.getD_eq_getElem?_getD, List.getElem?_eq_getElem (by omega)]; rfl)
      have e1 : (T c).length - (x :: (T c).drop (i + 1)).length = i := by simp; omega
      have e2 : (T c).length - ((T c).drop (i + 1)).length = i + 1 := by simp; omega
      rw [e1, pa, us]
      rw [e2] at hh
      have cm : ∀ s, sok c.fPlayers.toNat i s → (if decide ((csd s).fMatch = -1) then some (csd s).fPlayer else idx w (csd s).fMatch) = some (comes s w) := by
        intro s hs'
        have := comes_eq hN hs' (w := w) (by omega)
        unfold ref09Comes at this
        unfold sok at hs'
        by_cases e : s.fMatch = -1
        · have e' : s.fMatch < 0 := by omega
          simp only [e', decide_true, if_true] at this
          rw [if_pos (decide_eq_true (show (csd s).fMatch = -1 from e))]; exact this
        · have e' : ¬ s.fMatch < 0 := by omega
          simp only [e', decide_false, Bool.false_eq_true, if_false] at this
          rw [if_neg (by simpa using (show ¬ (csd s).fMatch = -1 from e)), show (csd s).fMatch = s.fMatch from rfl]
          cases hq : idx w s.fMatch with
          | none => rw [hq] at this; cases this
          | some z => rw [hq] at this; exact this
      have c1 := cm _ hs.1
      have c2 := cm _ hs.2
      show ladderProveWay_b3 N w u _ _ _ _ _ _ _ rec a ((T c).length : Int) (i : Int) = _
      rw [ladderProveWay_b3, if_pos (decide_eq_true (show (i : Int) < ((T c).length : Int) from by omega)), idx_at hxi]
      simp only [Option.bind_some, ladderSides, ladderPairFirst, ladderPairSecond, show (cpr ((T c).getD i dP)).fFirst = csd (fs (T c) i) from rfl, show (cpr ((T c).getD i dP)).fSecond = csd (sn (T c) i) from rfl]
      have g1 : (if decide ((csd (fs (T c) i)).fMatch = -1) then some (Ar2.mk (csd (fs (T c) i)).fPlayer 0) else Option.bind (idx w (csd (fs (T c) i)).fMatch) fun x => some (Ar2.mk x 0)) = some (Ar2.mk (ca c i w) 0) := by
        by_cases e : (csd (fs (T c) i)).fMatch = -1
        · simp only [e, decide_true, if_true] at c1 ⊢; rw [Option.some.inj c1]; rfl
        · simp only [e, decide_false, Bool.false_eq_true, if_false] at c1 ⊢; rw [c1]; rfl
      have g2 : ∀ z : Int, (if decide ((csd (sn (T c) i)).fMatch = -1) then some (Ar2.mk z (csd (sn (T c) i)).fPlayer) else Option.bind (idx w (csd (sn (T c) i)).fMatch) fun x => some (Ar2.mk z x)) = some (Ar2.mk z (cb c i w)) := by
        intro z
        by_cases e : (csd (sn (T c) i)).fMatch = -1
        · simp only [e, decide_true, if_true] at c2 ⊢; rw [Option.some.inj c2]; rfl
        · simp only [e, decide_false, Bool.false_eq_true, if_false] at c2 ⊢; rw [c2]; rfl
      rw [g1, Option.bind_some, g2, Option.bind_some, hwi]
      have hcon : slicesContains N ([ca c i w, cb c i w] : List Int) (w.getD i 0) = some (decide (w.getD i 0 ∈ [ca c i w, cb c i w])) := contains_eq _ _ (by simp; omega) (by simp)
      simp only [Option.bind_some, settled_eq hN hv hlt, hcon, ladderProveWay_k2, w64_succ (i := i) (by omega)]
      rw [show sett c i (ca c i w) (cb c i w) = sw c i w from rfl]
      have hsm := sw_mem hv (n := i) (w := w)
      have hp : poss c i w (w.getD i 0) ↔ (w.getD i 0 = ca c i w ∨ w.getD i 0 = cb c i w) ∧ (sw c i w < 0 ∨ sw c i w = w.getD i 0) := Iff.rfl
      have hmem : (w.getD i 0 ∈ [ca c i w, cb c i w]) ↔ (w.getD i 0 = ca c i w ∨ w.getD i 0 = cb c i w) := by simp
      by_cases hps : poss c i w (w.getD i 0)
      · have hm := hp.1 hps
        simp only [hmem.2 hm.1, decide_true, Bool.not_true, Bool.false_eq_true, if_false]
        have hv14 : (if !decide (sw c i w = -1) then some (!decide (sw c i w = w.getD i 0)) else some false) = some false := by
          by_cases e : sw c i w = -1
          · simp [e]
          · have : sw c i w = w.getD i 0 := by rcases hm.2 with h | h; omega; exact h
            simp [this]
        rw [hv14]
        simp only [Option.bind_some, Bool.false_eq_true, if_false, hps, decide_true, Bool.true_and]
        have hu : uR c w i = if (sw c i w = -1 ∧ w.getD i 0 = max (ca c i w) (cb c i w)) then 1 else 0 := by
          unfold uR
          by_cases e : sw c i w = -1
          · simp [e]
          · rw [if_neg (fun h => by omega), if_neg (fun h => e h.1)]
        by_cases e : sw c i w = -1
        · by_cases e3 : w.getD i 0 = max (ca c i w) (cb c i w)
          · rw [if_pos ⟨e, e3⟩] at hu
            simp only [e, decide_true, if_true, Option.bind_some, e3]
            rw [w64_id (by omega) (by omega), hh _ (by omega), hu, Int.add_assoc]
          · rw [if_neg (fun h => e3 h.2)] at hu
            simp only [e, decide_true, if_true, Option.bind_some, e3, decide_false, Bool.false_eq_true, if_false]
            rw [hh _ (by omega), hu, Int.zero_add]
        · rw [if_neg (fun h => e h.1)] at hu
          simp only [e, decide_false, Option.bind_some, Bool.false_eq_true, if_false]
          rw [hh _ (by omega), hu, Int.zero_add]
      · simp only [hps, decide_false, Bool.false_and]
        by_cases hm : w.getD i 0 = ca c i w ∨ w.getD i 0 = cb c i w
        · have h2 : ¬ (sw c i w < 0 ∨ sw c i w = w.getD i 0) := fun h => hps (hp.2 ⟨hm, h⟩)
          have e : ¬ sw c i w = -1 := fun h => h2 (.inl (by omega))
          have e2 : ¬ sw c i w = w.getD i 0 := fun h => h2 (.inr h)
          simp only [hmem.2 hm, decide_true, Bool.not_true, Bool.false_eq_true, if_false, e, decide_false, Bool.not_false, if_true, e2, Option.bind_some]
        · have : ¬ (w.getD i 0 ∈ [ca c i w, cb c i w]) := fun h => hm (hmem.1 h)
          simp only [this, decide_false, Bool.not_false, if_true, Option.bind_some]) (by omega) 0 (by simp)
  have key' : loopN (fun rec3 x => ladderProveWay_b3 N w u c.fForm c.fPlayers c.fGames (c.fResults.map cr) ((T c).map cpr) (rm c.fResults) (plys c (T c).length) rec3 x.1 x.2.1 x.2.2) N ((0 : Int), ((T c).length : Int), (0 : Int)) = some (pa c w 0 (T c) && decide (upR c w ≤ u)) := by
    have := key
    simp only [Nat.sub_self, Int.zero_add, us_up] at this
    exact this
  exact key'
end
end Go.Proofs.Ytbceakhnnnfiaaa
