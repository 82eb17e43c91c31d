/-
  Untold weeks: the statement.
-/
import Derived.Test.YtmencjafjcmbaaaPI
set_option linter.all false
namespace Go.Proofs.Ytmencjafjcmbaaa
open Go.Kp

def wg (words : List Int) (i j : Int) : Int := if 0 < words.length then Int.tmod ((words[(Int.tmod (3 * i + j) words.length).toNat]?).getD 0) 301 else 0
theorem wg_bd {words : List Int} (h : ∀ x ∈ words, 0 ≤ x ∧ x ≤ 65535) (i j : Int) : 0 ≤ wg words i j ∧ wg words i j ≤ 300 := by
  unfold wg
  split
  · have : 0 ≤ (words[(Int.tmod (3 * i + j) words.length).toNat]?).getD 0 := by
      cases hx : words[(Int.tmod (3 * i + j) words.length).toNat]? with
      | none => simp
      | some x => exact (h x (List.mem_of_getElem? hx)).1
    have := tmod_bd this (n := 301) (by omega)
    omega
  · omega
def wps (words ws : List Int) : List (Int × Ar3 Int) := (List.range ws.length).map fun (i : Nat) => ((ws[i]?).getD 0, ⟨wg words i 0, wg words i 1, wg words i 2⟩)
theorem wps_fst (words ws : List Int) : (wps words ws).map Prod.fst = ws := by
  unfold wps
  rw [List.map_map]
  refine List.ext_getElem (by simp) fun i h1 h2 => ?_
  simp [List.getElem?_eq_getElem h2]
theorem cps_fst (g : Ar3 Int) (ws : List Int) : (ws.map fun u => (u, g)).map Prod.fst = ws := by
  rw [List.map_map]
  exact List.map_id _

section
variable {N : Nat} (hN : 4000 ≤ N)
include hN

theorem word_idx {words : List Int} (h : ∀ x ∈ words, 0 ≤ x ∧ x ≤ 65535) (hl : 0 < words.length) {i : Nat} (hi : i < 10) {j : Int} (hj : 0 ≤ j ∧ j ≤ 2) :
    ∃ y, idx words (Int.tmod (w64 (w64 (3 * (i : Int)) + j)) (words.length : Int)) = some y ∧ Int.tmod (w64 y) 301 = wg words i j := by
  rw [w64_id (n := 3 * (i : Int)) (by omega) (by omega), w64_id (n := 3 * (i : Int) + j) (by omega) (by omega)]
  have ht := tmod_bd (x := 3 * (i : Int) + j) (n := (words.length : Int)) (by omega) (by omega)
  have hlt : (Int.tmod (3 * (i : Int) + j) (words.length : Int)).toNat < words.length := by omega
  obtain ⟨y, hy⟩ : ∃ y, words[(Int.tmod (3 * (i : Int) + j) (words.length : Int)).toNat]? = some y := ⟨words[(Int.tmod (3 * (i : Int) + j) (words.length : Int)).toNat]'hlt, List.getElem?_eq_getElem hlt⟩
  refine ⟨y, idx_int ht.1 hy, ?_⟩
  have := h y (List.mem_of_getElem? hy)
  unfold wg
  rw [if_pos hl, hy, w64_id (by omega) (by omega)]
  rfl

theorem pick_eq (b : Ref07Book) (v : Val b) (bits k w : Int) (hw : 1 ≤ w ∧ w ≤ 30) :
    loopN (fun rec3 x => law07RateUntold_b1 N b bits rec3 x.1 x.2.1 x.2.2.1 x.2.2.2.1 x.2.2.2.2) N (k, w, 0, 1, []) = some (k, w, ((weeks (w - 1).toNat).foldl (stU b k fun n => decide (Int.tmod (shrI .u32 bits n) 2 = 1)) (0, [])).1, ((weeks (w - 1).toNat).foldl (stU b k fun n => decide (Int.tmod (shrI .u32 bits n) 2 = 1)) (0, [])).2) := by
  have n2 := v.ns
  have n3 := v.nw
  have := loop_list (N := N) (B := fun rec3 x => law07RateUntold_b1 N b bits rec3 x.1 x.2.1 x.2.2.1 x.2.2.2.1 x.2.2.2.2) (weeks (w - 1).toNat) (fun i (a : Int × List Int) => (k, w, a.1, (i : Int) + 1, a.2)) (fun r a => some (k, w, (r.foldl (stU b k fun n => decide (Int.tmod (shrI .u32 bits n) 2 = 1)) a).1, (r.foldl (stU b k fun n => decide (Int.tmod (shrI .u32 bits n) 2 = 1)) a).2)) (fun i a => 0 ≤ a.1 ∧ a.1 ≤ 3 * (i : Int))
    (fun a rec _ => by
      show law07RateUntold_b1 N b bits rec k w a.1 (((weeks (w - 1).toNat).length : Int) + 1) a.2 = _
      unfold law07RateUntold_b1
      rw [weeks_len, decide_eq_false (by omega)]
      rfl)
    (fun i x a rec hx hok h => by
      obtain ⟨ex, hlt⟩ := weeks_get hx
      subst ex
      show law07RateUntold_b1 N b bits rec k w a.1 ((i : Int) + 1) a.2 = _
      unfold law07RateUntold_b1
      rw [decide_eq_true (by omega), rof_eq hN v]
      have e1 : w64 ((i : Int) + 1 + 1) = ((i + 1 : Nat) : Int) + 1 := by rw [w64_id (by omega) (by omega)]; omega
      have e2 : w64 (a.1 + 3) = a.1 + 3 := w64_id (by omega) (by omega)
      have e3 : Go.IntKind.wrap .u64 ((i : Int) + 1) = (i : Int) + 1 := wrap_u64 (by omega) (by omega)
      have e4 : nng ((i : Int) + 1) = some () := by unfold nng; rw [if_pos (by omega)]
      simp only [if_true, Option.bind_some, e1, e2, e3, e4, gms2, List.foldl_cons]
      unfold stU at h ⊢
      cases ho : of b k ((i : Int) + 1) with
      | some s =>
        simp only [Option.isNone_some, Bool.not_false, if_true, Option.bind_some]
        exact h (a.1 + 3, a.2) (by simp only; omega)
      | none =>
        simp only [Option.isNone_none, Bool.not_true, Bool.false_eq_true, if_false]
        by_cases q1 : a.2.length < 5
        · rw [decide_eq_true (show (a.2.length : Int) < 5 by omega)]
          simp only [if_true, Option.bind_some]
          by_cases q2 : Int.tmod (shrI .u32 bits ((i : Int) + 1)) 2 = 1
          · simp only [q1, q2, decide_true, if_true, Option.bind_some, and_self]
            rw [app_ok (by simp; omega), Option.bind_some, Option.bind_some]
            exact h (a.1, a.2 ++ [(i : Int) + 1]) (by simp only; omega)
          · simp only [q2, decide_false, Bool.false_eq_true, if_false, Option.bind_some, and_false]
            exact h a (by omega)
        · rw [decide_eq_false (show ¬ (a.2.length : Int) < 5 by omega)]
          simp only [q1, Bool.false_eq_true, if_false, Option.bind_some, false_and]
          exact h a (by omega)) (by rw [weeks_len]; omega) (0, []) (by simp)
  exact this

theorem fill10 (b : Ref07Book) (v : Val b) (k : Int) (ws : List Int) (hl : ws.length ≤ 5) :
    ∃ l, loopN (fun rec311 x => law07RateUntold_b10 N b k ws rec311 x.1 x.2.1 x.2.2) N (0, 0, b.fSheets) = some l ∧ Fill k b (ws.map fun u => (u, ⟨0, 0, 0⟩)) ⟨b.fLaw, b.fBowlers, l, b.fWithdrawn⟩ := by
  have n2 := v.ns
  have n3 := v.nw
  have := fill_ex hN b v.ns v.nw k (ws.map fun u => (u, ⟨0, 0, 0⟩)) (by rw [List.length_map]; omega) (B := fun rec311 x => law07RateUntold_b10 N b k ws rec311 x.1 x.2.1 x.2.2)
    (fun rec m x => by
      show law07RateUntold_b10 N b k ws rec m ((ws.map fun u => (u, (⟨0, 0, 0⟩ : Ar3 Int))).length : Int) x = _
      unfold law07RateUntold_b10
      rw [List.length_map, decide_eq_false (by omega)]
      rfl)
    (fun rec m i x u g hg hx => by
      show law07RateUntold_b10 N b k ws rec m (i : Int) x = _
      rw [List.getElem?_map, Option.map_eq_some_iff] at hg
      obtain ⟨u', hu, e⟩ := hg
      cases e
      have hlt := len_lt hu
      unfold law07RateUntold_b10
      have e9 : (fun rec315 x => law07RateUntold_b9 N b rec315 x) = (fun rec x => law07RateUntold_b3 N b rec x) := rfl
      rw [decide_eq_true (by omega), e9]
      cases loopN (fun rec x => law07RateUntold_b3 N b rec x) N (w64 (m + 1)) with
      | none => rfl
      | some n => simp only [if_true, Option.bind_some, idx_at hu]; rw [app_ok (by simp; omega)]; rfl)
    N 0 0 b.fSheets (by rw [List.length_map]; omega) (by omega) (by omega) (by omega) (by omega) (fun s hs => .inl (by unfold nos; rw [List.mem_append]; exact .inr (List.mem_map.2 ⟨s, hs, rfl⟩)))
  rw [List.drop_zero] at this
  exact this
theorem fill7 (b : Ref07Book) (v : Val b) (k : Int) (ws : List Int) (hl : ws.length ≤ 5) :
    ∃ l, loopN (fun rec285 x => law07RateUntold_b7 N b k ws rec285 x.1 x.2.1 x.2.2) N (0, 0, b.fSheets) = some l ∧ Fill k b (ws.map fun u => (u, ⟨300, 300, 300⟩)) ⟨b.fLaw, b.fBowlers, l, b.fWithdrawn⟩ := by
  have n2 := v.ns
  have n3 := v.nw
  have := fill_ex hN b v.ns v.nw k (ws.map fun u => (u, ⟨300, 300, 300⟩)) (by rw [List.length_map]; omega) (B := fun rec285 x => law07RateUntold_b7 N b k ws rec285 x.1 x.2.1 x.2.2)
    (fun rec m x => by
      show law07RateUntold_b7 N b k ws rec m ((ws.map fun u => (u, (⟨300, 300, 300⟩ : Ar3 Int))).length : Int) x = _
      unfold law07RateUntold_b7
      rw [List.length_map, decide_eq_false (by omega)]
      rfl)
    (fun rec m i x u g hg hx => by
      show law07RateUntold_b7 N b k ws rec m (i : Int) x = _
      rw [List.getElem?_map, Option.map_eq_some_iff] at hg
      obtain ⟨u', hu, e⟩ := hg
      cases e
      have hlt := len_lt hu
      unfold law07RateUntold_b7
      have e9 : (fun rec289 x => law07RateUntold_b6 N b rec289 x) = (fun rec x => law07RateUntold_b3 N b rec x) := rfl
      rw [decide_eq_true (by omega), e9]
      cases loopN (fun rec x => law07RateUntold_b3 N b rec x) N (w64 (m + 1)) with
      | none => rfl
      | some n => simp only [if_true, Option.bind_some, idx_at hu]; rw [app_ok (by simp; omega)]; rfl)
    N 0 0 b.fSheets (by rw [List.length_map]; omega) (by omega) (by omega) (by omega) (by omega) (fun s hs => .inl (by unfold nos; rw [List.mem_append]; exact .inr (List.mem_map.2 ⟨s, hs, rfl⟩)))
  rw [List.drop_zero] at this
  exact this
theorem fill4 (b : Ref07Book) (v : Val b) (words : List Int) (hwd : ∀ x ∈ words, 0 ≤ x ∧ x ≤ 65535) (k : Int) (ws : List Int) (hl : ws.length ≤ 5) :
    ∃ l, loopN (fun rec259 x => law07RateUntold_b4 N b words k ws rec259 x.1 x.2.1 x.2.2) N (0, 0, b.fSheets) = some l ∧ Fill k b (wps words ws) ⟨b.fLaw, b.fBowlers, l, b.fWithdrawn⟩ := by
  have n2 := v.ns
  have n3 := v.nw
  have hln : (wps words ws).length = ws.length := by unfold wps; simp
  have := fill_ex hN b v.ns v.nw k (wps words ws) (by omega) (B := fun rec259 x => law07RateUntold_b4 N b words k ws rec259 x.1 x.2.1 x.2.2)
    (fun rec m x => by
      show law07RateUntold_b4 N b words k ws rec m ((wps words ws).length : Int) x = _
      unfold law07RateUntold_b4
      rw [hln, decide_eq_false (by omega)]
      rfl)
    (fun rec m i x u g hg hx => by
      show law07RateUntold_b4 N b words k ws rec m (i : Int) x = _
      have hlt := len_lt hg
      rw [hln] at hlt
      unfold wps at hg
      rw [List.getElem?_map, List.getElem?_range hlt] at hg
      have hu : ws[i]? = some u := by
        obtain ⟨u', hu'⟩ : ∃ u', ws[i]? = some u' := ⟨ws[i]'hlt, List.getElem?_eq_getElem hlt⟩
        simp [hu'] at hg
        rw [hu', hg.1]
      have eg : g = ⟨wg words i 0, wg words i 1, wg words i 2⟩ := by
        simp at hg
        exact hg.2.symm
      subst eg
      unfold law07RateUntold_b4
      rw [decide_eq_true (by omega)]
      cases loopN (fun rec x => law07RateUntold_b3 N b rec x) N (w64 (m + 1)) with
      | none => rfl
      | some n =>
        simp only [if_true, Option.bind_some, idx_at hu]
        by_cases q : 0 < words.length
        · obtain ⟨y0, a0, c0⟩ := word_idx hN hwd q (i := i) (by omega) (j := 0) (by omega)
          obtain ⟨y1, a1, c1⟩ := word_idx hN hwd q (i := i) (by omega) (j := 1) (by omega)
          obtain ⟨y2, a2, c2⟩ := word_idx hN hwd q (i := i) (by omega) (j := 2) (by omega)
          rw [decide_eq_true (show (0 : Int) < (words.length : Int) by omega), nz_ok (show (words.length : Int) ≠ 0 by omega)]
          simp only [if_true, Option.bind_some, a0, a1, a2, c0, c1, c2]
          rw [app_ok (by simp; omega)]
          rfl
        · rw [decide_eq_false (show ¬ (0 : Int) < (words.length : Int) by omega)]
          have e : ∀ i j, wg words i j = 0 := fun i j => by unfold wg; rw [if_neg q]
          simp only [Bool.false_eq_true, if_false, Option.bind_some, e]
          rw [app_ok (by simp; omega)]
          rfl)
    N 0 0 b.fSheets (by omega) (by omega) (by omega) (by omega) (by omega) (fun s hs => .inl (by unfold nos; rw [List.mem_append]; exact .inr (List.mem_map.2 ⟨s, hs, rfl⟩)))
  rw [List.drop_zero] at this
  exact this

theorem filled (b : Ref07Book) (v : Val b) (hs : b.fSheets.length ≤ 35) {k w : Int} (hk : 0 ≤ k ∧ k ≤ (b.fBowlers.length : Int) - 1) (hw : 1 ≤ w ∧ w ≤ 30) {ps : List (Int × Ar3 Int)} (hl : ps.length ≤ 5)
    (hp : ∀ p ∈ ps, (1 ≤ p.1 ∧ p.1 < w) ∧ of b k p.1 = none ∧ gamesOk p.2 = true) (hd : (ps.map Prod.fst).Nodup) {l : List Ref07Sheet} (hf : Fill k b ps ⟨b.fLaw, b.fBowlers, l, b.fWithdrawn⟩) :
    (Option.bind (law07Book N ⟨b.fLaw, b.fBowlers, l, b.fWithdrawn⟩) fun r => rateAverage N r k w) = some (avg b k w (3 * (ps.length : Int), sumG ps), 0) := by
  obtain ⟨v', a1, a2, a3⟩ := fill_avg hf v (by omega) hk hw.2 hp hd
  have x1 := v'.nb
  have x2 := v'.ns
  have x3 := v'.nw
  rw [book_eq hN _ (by omega) (by omega) (by omega), Option.bind_some, average_eq hN _ (by omega), if_pos (ask_zero.2 ⟨v', hk, hw⟩), avg_tot a1 a2 a3]

theorem untold_true (b : Ref07Book) (bowler week bits : Int) (words : List Int) (f1 : 0 ≤ bowler ∧ bowler ≤ 255) (f2 : 0 ≤ week ∧ week ≤ 255) (f3 : 0 ≤ bits ∧ bits ≤ 4294967295) (f4 : ∀ x ∈ words, 0 ≤ x ∧ x ≤ 65535) : law07RateUntold N b bowler week bits words = some true := by
  unfold law07RateUntold
  rw [ready_eq hN]
  simp only [Option.bind_some]
  by_cases hf : flt b = 0
  · have v := flt_zero.1 hf
    have n1 := v.nb
    have n2 := v.ns
    have n3 := v.nw
    simp only [hf, decide_true, Bool.not_true, Bool.false_eq_true, if_false]
    by_cases c1 : (b.fBowlers.length : Int) = 0
    · simp [c1, wakes_ok hN]
    · by_cases c2 : (35 : Int) < (b.fSheets.length : Int)
      · simp [c1, c2, wakes_ok hN]
      · simp only [c1, c2, decide_false, Bool.false_eq_true, if_false, Option.bind_some]
        have hw0 := tmod_bd (x := week) (n := 30) (by omega) (by omega)
        rw [nz_ok c1, w64_id (n := bowler) (by omega) (by omega), w64_id (n := week) (by omega) (by omega), w64_id (n := 1 + Int.tmod week 30) (by omega) (by omega)]
        have hk0 := tmod_bd (x := bowler) (n := (b.fBowlers.length : Int)) (by omega) (by omega)
        generalize Int.tmod bowler (b.fBowlers.length : Int) = k at *
        obtain ⟨w, ew⟩ : ∃ w, w = 1 + Int.tmod week 30 := ⟨_, rfl⟩
        rw [← ew]
        have hw : 1 ≤ w ∧ w ≤ 30 := by omega
        have hk : 0 ≤ k ∧ k ≤ (b.fBowlers.length : Int) - 1 := by omega
        rw [pick_eq hN b v bits k w hw]
        have hst := stU_fold b k (fun n => decide (Int.tmod (shrI .u32 bits n) 2 = 1)) (weeks (w - 1).toNat) (0, []) (0, 0) rfl (by simp) (by
          rw [List.nil_append]
          unfold weeks
          rw [List.pairwise_map]
          exact List.pairwise_lt_range.imp fun h => by omega) (by simp)
        simp only [Option.bind_some]
        have hG : ((weeks (w - 1).toNat).foldl (accW b k) (0, 0)).1 = (tot b k w (0, 0)).1 := rfl
        rw [hG] at hst
        generalize (weeks (w - 1).toNat).foldl (stU b k fun n => decide (Int.tmod (shrI .u32 bits n) 2 = 1)) (0, []) = gl at *
        obtain ⟨G, ws⟩ := gl
        simp only at hst ⊢
        obtain ⟨hG1, hl5, hpw, hin⟩ := hst
        subst hG1
        have hin' : ∀ u ∈ ws, (1 ≤ u ∧ u < w) ∧ of b k u = none := fun u hu => by
          have := hin u hu
          rcases this.1 with h | h
          · simp at h
          · have := mem_weeks.1 h
            exact ⟨⟨this.1, by omega⟩, (hin u hu).2⟩
        have hnd : ws.Nodup := hpw.imp fun h => by omega
        rw [book_eq hN b (by omega) (by omega) (by omega), list_eq hN (xs := ws) (by omega)]
        simp only [Option.bind_some, span_eq hN b (show b.fBowlers.length ≤ 1000 by omega) k w ws (by omega)]
        have hask : ask b k w = 0 := ask_zero.2 ⟨v, hk, hw⟩
        have hwf : wf b k w ws = 0 := by
          unfold wf
          have g1 : ris ws = true := (ris_iff _).2 hpw
          have g2 : (ws.all fun n => inr n 1 (w - 1)) = true := List.all_eq_true.2 fun u hu => inr_iff.2 (by have := (hin' u hu).1; omega)
          have g3 : (ws.all fun n => (of b k n).isNone) = true := List.all_eq_true.2 fun u hu => by rw [(hin' u hu).2]; rfl
          rw [g1, g2, g3]; rfl
        simp only [hask, hwf, if_true, decide_true, Bool.not_true, Bool.false_eq_true, if_false, Option.bind_some]
        have hmono : avg b k w (3 * (ws.length : Int), 0) ≤ avg b k w (3 * (ws.length : Int), 900 * (ws.length : Int)) := avg_mono v hw.2 (by omega) (by omega) (by omega)
        rw [decide_eq_false (by omega)]
        simp only [Bool.false_eq_true, if_false]
        rw [app_ok (by simp; omega), List.nil_append]
        simp only [Option.bind_some]
        obtain ⟨l1, p1, q1⟩ := fill10 hN b v k ws hl5
        obtain ⟨l2, p2, q2⟩ := fill7 hN b v k ws hl5
        obtain ⟨l3, p3, q3⟩ := fill4 hN b v words f4 k ws hl5
        have d1 := filled hN b v (by omega) hk hw (by rw [List.length_map]; exact hl5) (fun p hp => by obtain ⟨u, hu, rfl⟩ := List.mem_map.1 hp; exact ⟨(hin' u hu).1, (hin' u hu).2, rfl⟩) (by rw [cps_fst]; exact hnd) q1
        have d2 := filled hN b v (by omega) hk hw (by rw [List.length_map]; exact hl5) (fun p hp => by obtain ⟨u, hu, rfl⟩ := List.mem_map.1 hp; exact ⟨(hin' u hu).1, (hin' u hu).2, rfl⟩) (by rw [cps_fst]; exact hnd) q2
        have hwl : (wps words ws).length = ws.length := by unfold wps; simp
        have hgw : ∀ p ∈ wps words ws, gamesOk p.2 = true := fun p hp => by
          unfold wps at hp
          obtain ⟨i, _, rfl⟩ := List.mem_map.1 hp
          simp only [gamesOk, Bool.and_eq_true]
          exact ⟨inr_iff.2 (wg_bd f4 _ _), inr_iff.2 (wg_bd f4 _ _), inr_iff.2 (wg_bd f4 _ _)⟩
        have d3 := filled hN b v (by omega) hk hw (by omega) (fun p hp => by
          have hm : p.1 ∈ ws := by rw [← wps_fst words ws]; exact List.mem_map.2 ⟨p, hp, rfl⟩
          exact ⟨(hin' _ hm).1, (hin' _ hm).2, hgw p hp⟩) (by rw [wps_fst]; exact hnd) q3
        rw [sumG_const, List.length_map] at d1 d2
        have z1 : gsum ⟨0, 0, 0⟩ * (ws.length : Int) = 0 := by simp [gsum]
        have z2 : gsum ⟨300, 300, 300⟩ * (ws.length : Int) = 900 * (ws.length : Int) := rfl
        rw [z1] at d1
        rw [z2] at d2
        rw [hwl] at d3
        have hS := sumG_bd (wps words ws) hgw
        rw [hwl] at hS
        generalize sumG (wps words ws) = S at *
        have m1 : avg b k w (3 * (ws.length : Int), 0) ≤ avg b k w (3 * (ws.length : Int), S) := avg_mono v hw.2 (by omega) (by omega) hS.1
        have m2 : avg b k w (3 * (ws.length : Int), S) ≤ avg b k w (3 * (ws.length : Int), 900 * (ws.length : Int)) := avg_mono v hw.2 (by omega) hS.1 hS.2
        rw [p1, Option.bind_some]
        rw [← Option.bind_assoc, d1]
        simp only [Option.bind_some, decide_true, Bool.not_true, Bool.false_eq_true, if_false]
        unfold law07RateUntold_k8
        rw [app_ok (by simp; omega), List.nil_append, Option.bind_some, p2, Option.bind_some, ← Option.bind_assoc, d2]
        simp only [Option.bind_some, decide_true, Bool.not_true, Bool.false_eq_true, if_false]
        unfold law07RateUntold_k5
        rw [app_ok (by simp; omega), List.nil_append, Option.bind_some, p3, Option.bind_some, ← Option.bind_assoc, d3]
        simp only [Option.bind_some, decide_true, Bool.not_true, Bool.false_eq_true, if_false]
        unfold law07RateUntold_k2
        have hb := tot_bd (k := k) v hw.2 (bd0 (n := 0) (by omega))
        obtain ⟨t1, t2, _, _⟩ := hb
        rw [w64_id (n := 3 * (ws.length : Int)) (by omega) (by omega), w64_id (by omega) (by omega)]
        have hv : (if decide ((tot b k w (0, 0)).1 + 3 * (ws.length : Int) < b.fLaw.fLeast) then some (!decide (avg b k w (3 * (ws.length : Int), 0) = avg b k w (3 * (ws.length : Int), 900 * (ws.length : Int)))) else some false) = some false := by
          by_cases q : (tot b k w (0, 0)).1 + 3 * (ws.length : Int) < b.fLaw.fLeast
          · rw [decide_eq_true q, avg_few (q := 900 * (ws.length : Int)) q]; simp
          · rw [decide_eq_false q]; rfl
        simp only at hv ⊢
        rw [hv]
        simp only [Option.bind_some, decide_true, decide_eq_true m1, decide_eq_true m2, if_true, Bool.false_eq_true, if_false, wakes_ok hN]
  · simp [hf, wakes_ok hN]
end
end Go.Proofs.Ytmencjafjcmbaaa
