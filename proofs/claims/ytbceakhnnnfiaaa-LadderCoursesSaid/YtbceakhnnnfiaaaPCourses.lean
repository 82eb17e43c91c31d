/-
  The law LadderCourses.
-/
import Derived.Test.YtbceakhnnnfiaaaPO
import Derived.Test.YtbceakhnnnfiaaaDLadderCourses
set_option linter.all false
namespace Go.Proofs.Ytbceakhnnnfiaaa
open Go.Kp
theorem mem_hangs {c : Ref09Cup} {n : Nat} : (n : Int) ∈ hangs c ↔ n < (T c).length ∧ won c (n : Int) ≠ -1 ∧ prot c n = false ∧ sure c (bmap c) n = false := by
  unfold hangs hangl
  rw [List.mem_filterMap]
  constructor
  · rintro ⟨k, hk, h⟩
    have := List.mem_range.1 hk
    split at h
    · rename_i q
      have e : k = n := Int.ofNat_inj.1 (Option.some.inj h)
      subst e; exact ⟨this, q⟩
    · cases h
  · rintro ⟨h1, h2⟩
    exact ⟨n, List.mem_range.2 h1, by rw [if_pos h2]⟩
def wrd (words : List Int) (n : Nat) : Int := if 0 < words.length then w64 (words.getD (n % words.length) 0) else 0
def cwv (c : Ref09Cup) (words : List Int) (n : Nat) (w : List Int) : Int := if 0 ≤ sw c n w then sw c n w else if Int.tmod (wrd words n) 2 = 1 then cb c n w else ca c n w
def cw (c : Ref09Cup) (words : List Int) : Nat → List Int
  | 0 => []
  | n + 1 => cw c words n ++ [cwv c words n (cw c words n)]
theorem cw_len (c words) : ∀ n, (cw c words n).length = n
  | 0 => rfl
  | n + 1 => by rw [cw, List.length_append, cw_len c words n]; rfl
theorem cw_get {c words} {i : Nat} : ∀ {k : Nat}, i < k → (cw c words k).getD i 0 = cwv c words i (cw c words i)
  | 0, h => absurd h (Nat.not_lt_zero i)
  | k + 1, h => by
    rw [cw]
    rcases Nat.lt_or_ge i k with q | q
    · rw [getD_append_lt (by rw [cw_len]; exact q), cw_get q]
    · have : i = k := by omega
      subst this
      have := getD_snoc (w := cw c words i) (x := cwv c words i (cw c words i))
      rwa [cw_len] at this
theorem cw_ok {c : Ref09Cup} (hv : Val c) (words : List Int) : IsC c (cw c words (T c).length) := by
  refine ⟨cw_len _ _ _, fun n hn => ?_⟩
  have hs := hv.ok.side n hn
  rw [poss_congr hs (u := cw c words n) (fun k hk => by rw [cw_get (by omega), cw_get hk]), cw_get hn]
  have hsm := sw_mem hv (n := n) (w := cw c words n)
  unfold cwv
  by_cases q : 0 ≤ sw c n (cw c words n)
  · rw [if_pos q]; exact ⟨by omega, .inr rfl⟩
  · rw [if_neg q]
    split
    · exact ⟨.inr rfl, .inl (by omega)⟩
    · exact ⟨.inl rfl, .inl (by omega)⟩
section
variable {N : Nat} (hN : 4000 ≤ N)
include hN
theorem course_eq {c : Ref09Cup} (hv : Val c) (words : List Int) : law09Course N c words = some (cw c words (T c).length) := by
  have ff := hv.ff
  have hl := hv.len
  unfold law09Course
  rw [rT_eq hN hv.form, Option.bind_some]
  have key := loop_list (N := N) (B := fun rec3 x => law09Course_b1 N c words (T c) rec3 x.1 x.2) (T c) (fun i (a : List Int) => ((i : Int), a)) (fun _ _ => some (cw c words (T c).length)) (fun i a => a = cw c words i)
    (fun a rec hok => by
      subst hok
      show law09Course_b1 N c _ _ rec _ _ = _
      rw [law09Course_b1, if_neg (by simp)])
    (fun i x a rec hx hok hh => by
      have hlt := len_lt hx
      subst hok
      have hs := hv.ok.side i hlt
      have hcl := cw_len c words i
      show law09Course_b1 N c _ _ rec (i : Int) _ = _
      have hw : (if decide (0 < (words.length : Int)) then Option.bind (nz (words.length : Int)) fun _ => Option.bind (idx words (Int.tmod (i : Int) (words.length : Int))) fun x62 => some (w64 x62) else some 0) = some (wrd words i) := by
        unfold wrd
        by_cases e : 0 < words.length
        · have e2 : ¬ (words.length : Int) = 0 := by omega
          have e3 : (0 : Int) < (words.length : Int) := by omega
          have e4 : i % words.length < words.length := Nat.mod_lt _ e
          have e5 : Int.tmod (i : Int) (words.length : Int) = ((i % words.length : Nat) : Int) := by rw [Int.tmod_eq_emod_of_nonneg (by omega)]; rfl
          rw [if_pos (decide_eq_true e3), nz_ok e2, Option.bind_some, e5, idx_at (x := words.getD (i % words.length) 0) (by rw [List.getD_eq_getElem?_getD, List.getElem?_eq_getElem e4]; rfl), Option.bind_some, if_pos e]
        · have e3 : ¬ (0 : Int) < (words.length : Int) := by omega
          rw [if_neg (by simpa using e3), if_neg e]
      rw [law09Course_b1, if_pos (decide_eq_true (by omega)), hw, idxn hN hlt]
      simp only [Option.bind_some]
      rw [show ((T c).getD i dP).fFirst = fs (T c) i from rfl, show ((T c).getD i dP).fSecond = sn (T c) i from rfl, comes_eq hN hs.1 (by omega), comes_eq hN hs.2 (by omega), settledR_eq hN hv.form hv.sz hlt (by omega)]
      simp only [Option.bind_some, w64_succ (i := i) (by omega)]
      have hfin : ∀ p, p = cwv c words i (cw c words i) → (Option.bind (app N (cw c words i) [p]) fun l29 => rec (((i + 1 : Nat) : Int), l29)) = some (cw c words (T c).length) := by
        intro p hp
        rw [app_ok (by simp; omega), Option.bind_some]
        exact hh _ (by rw [hp]; rfl)
      have e6 : comes (fs (T c) i) (cw c words i) = ca c i (cw c words i) := rfl
      have e7 : comes (sn (T c) i) (cw c words i) = cb c i (cw c words i) := rfl
      rw [e6, e7]
      by_cases q1 : Int.tmod (wrd words i) 2 = 1 <;> by_cases q2 : 0 ≤ sw c i (cw c words i)
      · simp only [q1, q2, decide_true, if_true, Option.bind_some]
        exact hfin _ (by unfold cwv; rw [if_pos q2])
      · simp only [q1, q2, decide_true, decide_false, Bool.false_eq_true, if_false, if_true, Option.bind_some]
        exact hfin _ (by unfold cwv; rw [if_neg q2, if_pos q1])
      · simp only [q1, q2, decide_true, decide_false, Bool.false_eq_true, if_false, if_true, Option.bind_some]
        exact hfin _ (by unfold cwv; rw [if_pos q2])
      · simp only [q1, q2, decide_false, Bool.false_eq_true, if_false, Option.bind_some]
        exact hfin _ (by unfold cwv; rw [if_neg q2, if_neg q1])) (by omega) [] rfl
  have key' : loopN (fun rec3 x => law09Course_b1 N c words (T c) rec3 x.1 x.2) N ((0 : Int), ([] : List Int)) = some (cw c words (T c).length) := key
  rw [key', Option.bind_some]
/-- a match that does not hang is won by its result -/
theorem nohang {c : Ref09Cup} (hv : Val c) {w : List Int} (hw : IsC c w) {r : Ref09Result} (hr : r ∈ c.fResults) (h1 : 0 ≤ won c r.fMatch) (h2 : r.fProtested = false) (h3 : r.fMatch ∉ hangs c) : idx w r.fMatch = some (won c r.fMatch) := by
  have hq := List.all_eq_true.1 hv.rght r hr
  simp only [rghtR, Bool.and_eq_true, inr_iff] at hq
  have hl := hv.len
  obtain ⟨n, hn⟩ : ∃ n : Nat, r.fMatch = (n : Int) := ⟨r.fMatch.toNat, by omega⟩
  have hlt : n < (T c).length := by omega
  rw [hn] at h1 h3 ⊢
  have hres : res c (n : Int) = some r := by rw [← hn]; exact res_of_mem hv.dup hr
  have hp : prot c n = false := by unfold prot; rw [hres]; exact h2
  have hs : sure c (bmap c) n = true := by
    cases e : sure c (bmap c) n with
    | true => rfl
    | false => exact absurd (mem_hangs.2 ⟨hlt, by omega, hp, e⟩) h3
  have hh := (sure_iff hv (bmap_good hv.ok) hlt (by omega)).1 hs w hw
  unfold hlds at hh
  rw [hres] at hh
  simp only [Option.isSome_some, Bool.true_and, Bool.and_eq_true, decide_eq_true_eq] at hh
  have hsw : sw c n w = won c (n : Int) := by
    unfold sw sett ply
    rw [if_pos ⟨by rw [hh.1, hh.2], hp⟩]
  have hps := hw.ok n hlt
  have : w.getD n 0 = won c (n : Int) := by
    rcases hps.2 with q | q
    · omega
    · rw [← q, hsw]
  rw [← this]
  have hwl := hw.len
  exact idx_at (by rw [List.getD_eq_getElem?_getD, List.getElem?_eq_getElem (by omega)]; rfl)
theorem courses_true (c : Ref09Cup) (words : List Int) (hwd : ∀ x ∈ words, 0 ≤ x ∧ x ≤ 255) : law09LadderCourses N c words = some true := by
  unfold law09LadderCourses
  rw [ready_eq hN, Option.bind_some, wakes_ok hN]
  by_cases h : ready c = true
  rotate_left
  · simp [h]
  obtain ⟨ht, hv⟩ := ready_iff.1 h
  have hs := thin_sz ht
  have ff := hv.ff
  have hl := hv.len
  have hg := bmap_good hv.ok
  simp only [h, Bool.not_true, Bool.false_eq_true, if_false]
  rw [course_eq hN hv, Option.bind_some]
  have hw := cw_ok hv words
  generalize cw c words (T c).length = w at hw ⊢
  have hwl := hw.len
  have hlast : idx w (w64 ((w.length : Int) - 1)) = some (w.getD (lst c) 0) := by
    rw [w64_id (by omega) (by omega)]
    refine idx_int (by omega) ?_
    rw [show ((w.length : Int) - 1).toNat = lst c from by unfold lst; omega, List.getD_eq_getElem?_getD, List.getElem?_eq_getElem (by unfold lst; omega)]; rfl
  rw [hlast, Option.bind_some, cup_eq hN c hs]
  obtain ⟨x, hx, hle⟩ := course_up hv hg hw
  have hnn := cst_nn hg hx
  have q := val_iff.2 hv
  have hmem : w.getD (lst c) 0 ∈ mays c := (may_iff hv).2 ⟨w, hw, rfl⟩
  have hu : ups c (w.getD (lst c) 0) = (x, 0) := by
    unfold ups
    rw [if_pos q, if_pos (inr_iff.2 ⟨hnn.2.1, by omega⟩), hx]
  have hml : (mays c).length ≤ 3000 := by
    unfold mays mayl; exact Nat.le_trans (List.length_filterMap_le _ _) (by simp; omega)
  have hhl : (hangs c).length ≤ 3000 := by
    unfold hangs hangl; exact Nat.le_trans (List.length_filterMap_le _ _) (by simp; omega)
  have hub := upR_bd hN c w (T c).length
  have hupb : upR c w ≤ (T c).length := hub.2
  have hic : isCb c w = true := isCb_iff.2 hw
  have hneg : ¬ upR c w < x := by omega
  have hneg2 : ¬ upR c w ≤ x - 1 := by omega
  simp only [Option.bind_some, mayWin_eq hN c hs.r, upsets_eq hN c hs.r, hangs_eq hN c hs.r, q, if_true, hu, has_eq hN _ _ hml, hmem, decide_true, Bool.not_true, Bool.false_eq_true, if_false, upsetsR_eq hN hv.form hs hwl, hneg, decide_false, list_eq hN (show w.length ≤ 1000 by omega), proveWay_eq hN c hs.r, hic, Bool.true_and, Int.le_refl, w64_id (n := x - 1) (by omega) (by omega), hneg2]
  have key := loop_list0 (N := N) (B := fun rec3 y => law09LadderCourses_b2 N c w (hangs c) rec3 y) c.fResults (fun i => (i : Int)) (fun _ => some true)
    (fun rec => by
      show law09LadderCourses_b2 N _ _ _ rec _ = _
      rw [law09LadderCourses_b2, if_neg (by simp)]
      unfold law09LadderCourses_k1
      rw [wakes_ok hN]; rfl)
    (fun i r rec hr hh => by
      have hlt := len_lt hr
      have hrm := List.mem_of_getElem? hr
      have hsr := hs.r
      show law09LadderCourses_b2 N _ _ _ rec (i : Int) = _
      rw [law09LadderCourses_b2, if_pos (decide_eq_true (by omega)), idx_at hr, w64_succ (i := i) (by omega), hh]
      simp only [Option.bind_some, won_eq hN c hs, has_eq hN _ _ hhl]
      by_cases e1 : 0 ≤ won c r.fMatch
      · cases e2 : r.fProtested with
        | true => simp [e1]
        | false =>
          by_cases e3 : r.fMatch ∈ hangs c
          · simp [e1, e3]
          · have := nohang hN hv hw hrm e1 e2 e3
            simp [e1, e3, this]
      · simp [e1]) (by have := hs.r; omega)
  exact key
end
end Go.Proofs.Ytbceakhnnnfiaaa
