/-
  What is told of a book by the sheets that count alone; the order of the sheets.
-/
import Derived.Test.YtmencjafjcmbaaaPE
import Derived.Test.YtmencjafjcmbaaaDRateOrder
set_option linter.all false
namespace Go.Proofs.Ytmencjafjcmbaaa
open Go.Kp

theorem isC_of {b : Ref07Book} (h : Once b.fSheets) {n : Int} : isC b n = true ↔ ∃ k w s, of b k w = some s ∧ s.fNumber = n := by
  unfold isC
  simp only [List.any_eq_true, Bool.and_eq_true, decide_eq_true_eq]
  constructor
  · rintro ⟨s, hs, rfl, hc⟩
    exact ⟨_, _, s, (counts_iff h hs).1 hc, rfl⟩
  · rintro ⟨k, w, s, ho, rfl⟩
    have hC := of_C ho
    refine ⟨s, hC.1, rfl, (counts_iff h hC.1).2 ?_⟩
    rw [hC.2.1, hC.2.2.1]; exact ho
theorem cnt_congr {a b : Ref07Book} (ha : Once a.fSheets) (hb : Once b.fSheets) (h : ∀ k w, of a k w = of b k w) : cnt a = cnt b := by
  unfold cnt
  refine List.filter_congr fun n _ => ?_
  rw [Bool.eq_iff_iff, isC_of ha, isC_of hb]
  simp only [h]
theorem accW_congr {a b : Ref07Book} {k w : Int} (h : of a k w = of b k w) (x : Int × Int) : accW a k x w = accW b k x w := by unfold accW; rw [h]
theorem fold_congr {a b : Ref07Book} {k : Int} : ∀ (l : List Int) (x : Int × Int), (∀ w ∈ l, of a k w = of b k w) → l.foldl (accW a k) x = l.foldl (accW b k) x
  | [], _, _ => rfl
  | w :: l, x, h => by rw [List.foldl_cons, List.foldl_cons, accW_congr (h w (by simp)), fold_congr l _ fun v hv => h v (by simp [hv])]
theorem avg_congr {a b : Ref07Book} (hl : a.fLaw = b.fLaw) (hb : a.fBowlers = b.fBowlers) {k w : Int} (h : ∀ v, 1 ≤ v → v < w → of a k v = of b k v) (x : Int × Int) : avg a k w x = avg b k w x := by
  have : tot a k w x = tot b k w x := fold_congr _ _ fun v hv => by
    have := mem_weeks.1 hv
    exact h v this.1 (by omega)
  unfold avg bow
  rw [this, hl, hb]
theorem hcp_congr {a b : Ref07Book} (hl : a.fLaw = b.fLaw) {k w : Int} (h : avg a k w (0, 0) = avg b k w (0, 0)) : hcp a k w = hcp b k w := by unfold hcp; rw [h, hl]
theorem made_congr {a b : Ref07Book} (hl : a.fLaw = b.fLaw) {k w : Int} (h : avg a k w (0, 0) = avg b k w (0, 0)) (ho : of a k w = of b k w) : made a k w = made b k w := by
  unfold made; rw [ho, hcp_congr hl h, h, hl]
theorem team_congr {a b : Ref07Book} {w : Int} {t : List Int} (h : ∀ k ∈ t, made a k w = made b k w) : team a w t = team b w t := by
  unfold team
  have e0 : (t.map fun k => (made a k w).a0) = t.map fun k => (made b k w).a0 := List.map_congr_left fun k hk => by rw [h k hk]
  have e1 : (t.map fun k => (made a k w).a1) = t.map fun k => (made b k w).a1 := List.map_congr_left fun k hk => by rw [h k hk]
  have e2 : (t.map fun k => (made a k w).a2) = t.map fun k => (made b k w).a2 := List.map_congr_left fun k hk => by rw [h k hk]
  rw [e0, e1, e2]
theorem tf_congr {a b : Ref07Book} (hb : a.fBowlers = b.fBowlers) (h g : List Int) : tf a h g = tf b h g := by unfold tf; rw [hb]

/-- the same sheets -/
theorem of_mem {a b : Ref07Book} (hb : Once b.fSheets) (hw : a.fWithdrawn = b.fWithdrawn) (h : ∀ s, s ∈ a.fSheets ↔ s ∈ b.fSheets) (k w : Int) : of a k w = of b k w :=
  (of_eq hb ((of_isB a k w).congr fun s => by unfold C; rw [h, hw])).symm
theorem once_mem {a b : Ref07Book} (hb : Once b.fSheets) (h : ∀ s ∈ a.fSheets, s ∈ b.fSheets) : Once a.fSheets := fun s hs t ht e => hb s (h s hs) t (h t ht) e
/-- a book with other sheets -/
theorem val_sheets {b : Ref07Book} (v : Val b) {l : List Ref07Sheet} (hn : l.length ≤ 40) (h : ∀ s ∈ l, s ∈ b.fSheets) : Val ⟨b.fLaw, b.fBowlers, l, b.fWithdrawn⟩ :=
  ⟨v.nb, hn, v.nw, v.law, v.ris, v.bow, v.wd, fun s hs => v.sh s (h s hs), fun s hs t ht e => v.once s (h s hs) t (h t ht) e⟩

theorem tmod_bd {x n : Int} (hx : 0 ≤ x) (hn : 0 < n) : 0 ≤ Int.tmod x n ∧ Int.tmod x n < n := ⟨Int.tmod_nonneg _ hx, Int.tmod_lt_of_pos _ hn⟩

section
variable {N : Nat} (hN : 4000 ≤ N)
include hN

theorem ready_eq (b : Ref07Book) : law07Ready N b = some (decide (flt b = 0)) := by
  unfold law07Ready
  rw [thin_eq hN]
  simp only [Option.bind_some, fault_eq hN]
  by_cases ht : b.fBowlers.length ≤ 12 ∧ b.fSheets.length ≤ 45 ∧ b.fWithdrawn.length ≤ 45
  · simp [ht]
  · have : ¬ flt b = 0 := fun h => ht (by have v := flt_zero.1 h; have := v.nb; have := v.ns; have := v.nw; omega)
    simp [ht, this]

theorem same_true {a b : Ref07Book} (va : Val a) (vb : Val b) (hl : a.fLaw = b.fLaw) (hb : a.fBowlers = b.fBowlers) {k w : Int} (hk : 0 ≤ k ∧ k ≤ (b.fBowlers.length : Int) - 1) (hw : 1 ≤ w ∧ w ≤ 30)
    (he : avg a k w (0, 0) = avg b k w (0, 0)) : law07Same N a b k w = some true := by
  have a1 := va.nb
  have a2 := va.ns
  have a3 := va.nw
  have b1 := vb.nb
  have b2 := vb.ns
  have b3 := vb.nw
  have ka : ask a k w = 0 := ask_zero.2 ⟨va, by rw [hb]; exact hk, hw⟩
  have kb : ask b k w = 0 := ask_zero.2 ⟨vb, hk, hw⟩
  unfold law07Same
  rw [book_eq hN a (by omega) (by omega) (by omega), book_eq hN b (by omega) (by omega) (by omega)]
  simp only [Option.bind_some, average_eq hN a (by omega), average_eq hN b (by omega), handicap_eq hN a (by omega), handicap_eq hN b (by omega), ka, kb, if_true, hcp_congr hl he, he, decide_true]

theorem order_true (b : Ref07Book) (by1 bowler week : Int) (f1 : 0 ≤ by1 ∧ by1 ≤ 255) (f2 : 0 ≤ bowler ∧ bowler ≤ 255) (f3 : 0 ≤ week ∧ week ≤ 255) : law07RateOrder N b by1 bowler week = some true := by
  unfold law07RateOrder
  rw [ready_eq hN]
  simp only [Option.bind_some]
  by_cases hf : flt b = 0
  · have v := flt_zero.1 hf
    have n1 := v.nb
    have n2 := v.ns
    have n3 := v.nw
    simp only [hf, decide_true, Bool.not_true, Bool.false_eq_true, if_false]
    by_cases c1 : (b.fBowlers.length : Int) = 0
    · simp [c1, wakes_ok hN]
    · by_cases c2 : (b.fSheets.length : Int) = 0
      · simp [c1, c2, wakes_ok hN]
      · by_cases c3 : (39 : Int) < (b.fSheets.length : Int)
        · simp [c1, c2, c3, wakes_ok hN]
        · simp only [c1, c2, c3, decide_false, Bool.false_eq_true, if_false, Option.bind_some]
          rw [nz_ok c2, nz_ok c1]
          simp only [Option.bind_some]
          rw [w64_id (n := by1) (by omega) (by omega), w64_id (n := bowler) (by omega) (by omega), w64_id (n := week) (by omega) (by omega)]
          have ht := tmod_bd (x := by1) (n := (b.fSheets.length : Int)) (by omega) (by omega)
          have hk := tmod_bd (x := bowler) (n := (b.fBowlers.length : Int)) (by omega) (by omega)
          have hw := tmod_bd (x := week) (n := 30) (by omega) (by omega)
          generalize Int.tmod by1 (b.fSheets.length : Int) = t at *
          generalize Int.tmod bowler (b.fBowlers.length : Int) = k at *
          generalize Int.tmod week 30 = w0 at *
          rw [slc_ok (by omega) (by omega) (by omega), w64_id (n := t + 1) (by omega) (by omega), slc_ok (by omega) (by omega) (by omega), w64_id (n := 1 + w0) (by omega) (by omega)]
          simp only [Option.bind_some, Int.toNat_natCast, List.take_length, Int.toNat_zero, List.drop_zero]
          rw [app_ok (by simp; omega)]
          simp only [Option.bind_some, List.nil_append]
          rw [app_ok (by simp; omega)]
          simp only [Option.bind_some]
          have hmem : ∀ s, s ∈ b.fSheets.drop t.toNat ++ b.fSheets.take (t + 1).toNat ↔ s ∈ b.fSheets := by
            intro s
            rw [List.mem_append]
            constructor
            · rintro (h | h)
              · exact List.mem_of_mem_drop h
              · exact List.mem_of_mem_take h
            · intro h
              rw [← List.take_append_drop t.toNat b.fSheets, List.mem_append] at h
              rcases h with h | h
              · refine .inr ?_
                have : b.fSheets.take t.toNat = (b.fSheets.take (t + 1).toNat).take t.toNat := by rw [List.take_take]; congr 1; omega
                rw [this] at h
                exact List.mem_of_mem_take h
              · exact .inl h
          have hlen : (b.fSheets.drop t.toNat ++ b.fSheets.take (t + 1).toNat).length ≤ 40 := by simp; omega
          generalize b.fSheets.drop t.toNat ++ b.fSheets.take (t + 1).toNat = l at *
          have vx := val_sheets v hlen fun s hs => (hmem s).1 hs
          have hfx : flt ⟨b.fLaw, b.fBowlers, l, b.fWithdrawn⟩ = 0 := flt_zero.2 vx
          have hof : ∀ k w, of ⟨b.fLaw, b.fBowlers, l, b.fWithdrawn⟩ k w = of b k w := of_mem v.once rfl hmem
          have hcnt : cnt ⟨b.fLaw, b.fBowlers, l, b.fWithdrawn⟩ = cnt b := cnt_congr vx.once v.once hof
          have havg : ∀ k w x, avg ⟨b.fLaw, b.fBowlers, l, b.fWithdrawn⟩ k w x = avg b k w x := fun k w x => avg_congr (a := ⟨b.fLaw, b.fBowlers, l, b.fWithdrawn⟩) (b := b) rfl rfl (fun u _ _ => hof k u) x
          have hl : (cnt b).length ≤ 1000 := by
            unfold cnt
            refine Nat.le_trans (List.length_filter_le _ _) ?_
            rw [nums_len]; omega
          rw [book_eq hN b (by omega) (by omega) (by omega), book_eq hN ⟨b.fLaw, b.fBowlers, l, b.fWithdrawn⟩ (by show b.fBowlers.length ≤ 1000; omega) (by show l.length ≤ 1000; omega) (by show b.fWithdrawn.length ≤ 1000; omega)]
          simp only [Option.bind_some, counting_eq hN, hf, hfx, if_true, hcnt, decide_true, Bool.not_true, Bool.false_eq_true, if_false, ints_eq hN _ _ hl]
          rw [same_true hN v vx rfl rfl (k := k) (w := 1 + w0) (by show 0 ≤ k ∧ k ≤ (b.fBowlers.length : Int) - 1; omega) (by omega) (havg _ _ _).symm]
          simp only [Option.bind_some, Bool.not_true, Bool.false_eq_true, if_false]
          by_cases c4 : (b.fBowlers.length : Int) < 2
          · simp [c4, wakes_ok hN]
          · simp only [c4, decide_false, Bool.false_eq_true, if_false]
            rw [w64_id (n := k + 1) (by omega) (by omega)]
            have ho := tmod_bd (x := k + 1) (n := (b.fBowlers.length : Int)) (by omega) (by omega)
            have hne : Int.tmod (k + 1) (b.fBowlers.length : Int) ≠ k := by
              rw [Int.tmod_eq_emod_of_nonneg (by omega)]
              by_cases e : k + 1 = (b.fBowlers.length : Int)
              · rw [e, Int.emod_self]; omega
              · rw [Int.emod_eq_of_lt (by omega) (by omega)]; omega
            generalize Int.tmod (k + 1) (b.fBowlers.length : Int) = o at *
            have htf : tf b [k] [o] = 0 := by
              unfold tf
              rw [if_neg (by simp), if_neg]
              simp only [List.length_singleton, Nat.one_ne_zero, false_or, List.singleton_append, not_or, Decidable.not_not]
              refine ⟨?_, ?_⟩
              · simp only [List.all_cons, List.all_nil, Bool.and_true, Bool.and_eq_true, inr_iff]; omega
              · simp [hne.symm]
            have hm : mer b (1 + w0) [k] [o] = 0 := by unfold mer; rw [if_pos hf, if_pos (inr_iff.2 (by omega)), htf]
            have hmx : mer ⟨b.fLaw, b.fBowlers, l, b.fWithdrawn⟩ (1 + w0) [k] [o] = 0 := by unfold mer; rw [if_pos hfx, if_pos (inr_iff.2 (by omega)), tf_congr (a := ⟨b.fLaw, b.fBowlers, l, b.fWithdrawn⟩) (b := b) rfl, htf]
            have hmt : mtch ⟨b.fLaw, b.fBowlers, l, b.fWithdrawn⟩ (1 + w0) [k] [o] = mtch b (1 + w0) [k] [o] := by
              unfold mtch
              have hte : ∀ t, team ⟨b.fLaw, b.fBowlers, l, b.fWithdrawn⟩ (1 + w0) t = team b (1 + w0) t := fun t => team_congr (a := ⟨b.fLaw, b.fBowlers, l, b.fWithdrawn⟩) (b := b) fun k _ => made_congr (a := ⟨b.fLaw, b.fBowlers, l, b.fWithdrawn⟩) (b := b) rfl (havg _ _ _) (hof _ _)
              simp only [hte]
            simp only [match_eq hN b (by omega), match_eq hN ⟨b.fLaw, b.fBowlers, l, b.fWithdrawn⟩ (by show b.fBowlers.length ≤ 1000; omega), hm, hmx, hmt, if_true, Option.bind_some, decide_true, wakes_ok hN]
  · simp [hf, wakes_ok hN]
end
end Go.Proofs.Ytmencjafjcmbaaa
