/-
  The facts on a sheet that each ball keeps.
-/
import Derived.Test.YthbifolpofillaaPC
set_option linter.all false
namespace Go.Proofs.Ythbifolpofillaa
open Go.Kp

theorem nxtn_last {l : Ref01Law} {s : S} {n : Int} (hf : s.f = l.fFrames - 1) (hc : s.f < (nxtn l s n).f) : s.h + 1 = s.nd := by
  unfold nxtn at hc
  rw [if_pos hf] at hc
  split at hc
  · simp at hc
  · split at hc
    · assumption
    · simp at hc

theorem drop_snoc {α : Type} {l : List α} {k : Nat} (h : k ≤ l.length) (x : α) : (l ++ [x]).drop k = l.drop k ++ [x] := List.drop_append_of_le_length h

theorem upd_ne {k : Int} {i : Nat} {a : Int × Int × Int} {x : Ref01Ball} (h : x.fFrame ≠ k) : upd k i a x = a := by simp [upd, h]
theorem upd_eq {k : Int} {i : Nat} {a : Int × Int × Int} {x : Ref01Ball} (h : x.fFrame = k) : upd k i a x = (a.1 + x.fCount, a.2.1 + 1, (i : Int)) := by simp [upd, h]

theorem ainv_step {l : Ref01Law} (hV : V l) {a : A} (hi : AInv l a) {b : Int} (hm : may l a.s b) : AInv l (stepA l a b) := by
  have hf := hm.1
  have hc := cnt_le hV hi.inv hm.2.2
  have hin := inv_nxt hV hi.inv hf hm.2.2
  obtain ⟨hF1, hF2, hF3⟩ := nxtn_f hV hi.inv hf hc.1 hc.2
  have hh : a.s.h = 0 ∨ a.s.h = 1 ∨ a.s.h = 2 := by have := hi.inv.h0; have := hi.inv.hn; have := hi.inv.nd; have := hV.b2; omega
  have hac := nxtn_ac (l := l) (s := a.s) (n := cnt l a.s b) hh
  have hla := @nxtn_last l a.s (cnt l a.s b)
  have hp1 := hi.inv.p1
  have hv4 := hV.p2
  have hv5 := hV.b1
  have hh0 := hi.inv.h0
  have hnd := hi.inv.nd
  have hle := lastE_le hi.ent
  unfold stepA wor
  unfold nxt at hin ⊢
  generalize hn : cnt l a.s b = n at *
  clear hn
  obtain ⟨inv, fE, bd, ent, one, two, tot, len, own, trl, trc, trf, sc, so, sz, l1, l2, l3⟩ := hi
  have e1 : (a.E.countP fun p => decide (a.cs.length + 1 + 1 < p.1 + p.2)) = 0 := countP_none fun p hp => by
    have := ent p hp
    simp; omega
  have ebs := bsums_snoc a.cs n a.E fun p hp => (ent p hp).2.1
  have scan_ne : ∀ (k : Int), k ≠ a.s.f → scan k 0 (0, 0, 0) (a.tr ++ [⟨a.s.f, n⟩]) = scan k 0 (0, 0, 0) a.tr := fun k hk => by
    rw [scan_snoc]; exact upd_ne (Ne.symm hk)
  have scan_f : scan a.E.length 0 (0, 0, 0) (a.tr ++ [⟨a.s.f, n⟩]) = (sm (a.cs.drop (lastE a.E)) + n, a.s.h + 1, (a.cs.length : Int)) := by
    rw [scan_snoc, so, upd_eq fE.symm, trl]
    simp
  by_cases hcl : a.s.f < (nxtn l a.s n).f
  · obtain ⟨q1, q2, q3⟩ := hF1 hcl
    simp only [if_pos hcl]
    refine ⟨hin, ?_, ?_, ?_, ?_, ?_, ?_, ?_, ?_, ?_, ?_, ?_, ?_, ?_, ?_, ?_, ?_, ?_⟩
    · simp only [List.length_append, List.length_singleton]; omega
    · intro x hx
      rcases List.mem_append.1 hx with hx | hx
      · exact bd x hx
      · simp at hx; subst hx; omega
    · intro p hp
      rcases List.mem_append.1 hp with hp | hp
      · have := ent p hp; simp; omega
      · simp at hp; subst hp
        have : bon l a.s n ≤ 2 := by unfold bon; split <;> (try split) <;> (try split) <;> omega
        simp; omega
    · simp only [List.length_append, List.length_singleton, List.countP_append, List.countP_singleton, hac.1, two]
      unfold bon
      by_cases h1 : a.s.f ≠ l.fFrames - 1 ∧ a.s.p = n
      · rcases hh with h | h | h <;> simp [h1, h] <;> (try (rw [if_neg (by omega)]; rfl))
      · have : ¬ (a.s.f ≠ l.fFrames - 1 ∧ a.s.p = n ∧ a.s.h + 1 ≤ 2) := fun x => h1 ⟨x.1, x.2.1⟩
        rw [if_neg h1, if_neg this]
        all_goals (simp; try (rw [if_neg (by omega)]; rfl))
    · simp only [List.length_append, List.length_singleton, List.countP_append, List.countP_singleton, hac.2, e1]
      unfold bon
      by_cases h1 : a.s.f ≠ l.fFrames - 1 ∧ a.s.p = n
      · rcases hh with h | h | h <;> simp [h1, h] <;> (try (rw [if_neg (by omega)]; rfl))
      · have : ¬ (a.s.f ≠ l.fFrames - 1 ∧ a.s.p = n ∧ a.s.h + 1 = 1) := fun x => h1 ⟨x.1, x.2.1⟩
        rw [if_neg h1, if_neg this]
        all_goals (simp; try (rw [if_neg (by omega)]; rfl))
    · have e2 : bsum (a.cs ++ [n]) (a.cs.length + 1, bon l a.s n) = 0 := by
        unfold bsum
        rw [List.drop_eq_nil_of_le (by simp)]; rfl
      simp only [List.map_append, List.map_cons, List.map_nil, sm_app, ebs, tot, sm, e2, one, Int.mul_add]
      omega
    · simp only [List.length_append, List.length_singleton, lastE_snoc, q2]; omega
    · intro _
      simp only [lastE_snoc, q3]
      rw [List.drop_eq_nil_of_le (by simp)]
      simp [sm]
    · simp [trl]
    · simp [trc]
    · intro x hx
      rcases List.mem_append.1 hx with hx | hx
      · have := trf x hx; simp only; omega
      · simp at hx; subst hx; have := inv.f0; simp only; omega
    · intro k p hp
      by_cases hk : k < a.E.length
      · rw [List.getElem?_append_left hk] at hp
        obtain ⟨ow, ba, r1, r2, r3, r4, r5⟩ := sc k p hp
        have hpm := ent p (List.mem_of_getElem? hp)
        have hst : starts (a.E ++ [(a.cs.length + 1, bon l a.s n)]) k = starts a.E k := by
          unfold starts; rw [List.take_append_of_le_length (by omega)]
        refine ⟨ow, ba, ?_, ?_, r3, ?_, r5⟩
        · simp only; rw [scan_ne _ (by omega)]; exact r1
        · simp only [hst]; rw [List.take_append_of_le_length hpm.2.1]; exact r2
        · rw [hst]; exact r4
      · have hk2 : k = a.E.length := by
          have := (List.getElem?_eq_some_iff.1 hp).1
          simp at this; omega
        subst hk2
        rw [List.getElem?_append_right (Nat.le_refl _)] at hp
        simp at hp
        subst hp
        have hst : starts (a.E ++ [(a.cs.length + 1, bon l a.s n)]) a.E.length = lastE a.E := by
          unfold starts; rw [List.take_append_of_le_length (Nat.le_refl _), List.take_length]
        refine ⟨sm (a.cs.drop (lastE a.E)) + n, a.s.h + 1, ?_, ?_, ?_, ?_, ?_⟩
        · simp only [scan_f]; congr 2; omega
        · simp only [hst]
          rw [List.take_of_length_le (by simp), drop_snoc hle, sm_app]; simp [sm]
        · unfold more bon
          rw [fE]
          by_cases hlt : a.s.f < l.fFrames - 1
          · have ho := own hlt
            have hne : a.s.f ≠ l.fFrames - 1 := by omega
            rw [ho]
            by_cases hpn : a.s.p = n
            · rcases hh with h | h | h <;> simp [hlt, hpn, h, hne] <;> omega
            · have : ¬ (l.fPins - a.s.p + n = l.fPins) := by omega
              simp [hpn, this]
          · have hne : a.s.f = l.fFrames - 1 := by omega
            simp [hne]
        · rw [hst]; simp only; omega
        · rcases hh with h | h | h <;> omega
    · have h1 := sz (a.s.f + 1) (by omega)
      simp only [List.length_append, List.length_singleton, lastE_snoc, q2]
      rw [show ((a.E.length + 1 : Nat) : Int) = a.s.f + 1 by omega, scan_ne _ (by omega), h1, List.drop_eq_nil_of_le (by simp)]
      simp [sm]
    · intro k hk
      simp only at hk ⊢
      rw [scan_ne _ (by omega)]
      exact sz k (by omega)
    · intro h1 h2; simp only at h2; omega
    · intro h1 h2; simp only at h2; omega
    · intro h1
      simp only at h1 ⊢
      have hl : a.s.f = l.fFrames - 1 := by omega
      have := hla hl hcl
      have hc0 := l1 hl (by omega)
      rw [hac.1, hac.2, hc0]
      simp [hl]
  · obtain ⟨q1, q2, q3, q4⟩ := hF2 hcl
    simp only [if_neg hcl, List.append_nil]
    have hz : ¬ (a.s.f ≠ l.fFrames - 1 ∧ a.s.p = n) := fun ⟨x, y⟩ => (q3 (by have := inv.f1; omega)).2 y
    have hz1 : ¬ (a.s.f ≠ l.fFrames - 1 ∧ a.s.p = n ∧ a.s.h + 1 ≤ 2) := fun x => hz ⟨x.1, x.2.1⟩
    have hz2 : ¬ (a.s.f ≠ l.fFrames - 1 ∧ a.s.p = n ∧ a.s.h + 1 = 1) := fun x => hz ⟨x.1, x.2.1⟩
    rw [if_neg hz1] at hac
    rw [if_neg hz2] at hac
    refine ⟨hin, ?_, ?_, ?_, ?_, ?_, ?_, ?_, ?_, ?_, ?_, ?_, ?_, ?_, ?_, ?_, ?_, ?_⟩
    · simp only; omega
    · intro x hx
      rcases List.mem_append.1 hx with hx | hx
      · exact bd x hx
      · simp at hx; subst hx; omega
    · intro p hp
      have := ent p hp; simp; omega
    · simp only [List.length_append, List.length_singleton, hac.1, two]; simp
    · simp only [List.length_append, List.length_singleton, hac.2, e1]; simp
    · simp only [sm_app, ebs, tot, sm, one, Int.mul_add]
      omega
    · simp only [List.length_append, List.length_singleton, q2]; omega
    · intro h1
      simp only at h1 ⊢
      rw [drop_snoc hle, sm_app, own (by omega), (q3 (by omega)).1]
      simp [sm]; omega
    · simp [trl]
    · simp [trc]
    · intro x hx
      rcases List.mem_append.1 hx with hx | hx
      · have := trf x hx; simp only; omega
      · simp at hx; subst hx; have := inv.f0; simp only; omega
    · intro k p hp
      simp only at hp
      have hk := (List.getElem?_eq_some_iff.1 hp).1
      obtain ⟨ow, ba, r1, r2, r3, r4, r5⟩ := sc k p hp
      have hpm := ent p (List.mem_of_getElem? hp)
      refine ⟨ow, ba, ?_, ?_, r3, r4, r5⟩
      · simp only; rw [scan_ne _ (by omega)]; exact r1
      · simp only; rw [List.take_append_of_le_length hpm.2.1]; exact r2
    · simp only [scan_f, q2]
      rw [drop_snoc hle, sm_app, if_neg (by omega)]
      simp [sm]
    · intro k hk
      simp only at hk ⊢
      rw [scan_ne _ (by omega)]
      exact sz k (by omega)
    · intro h1 h2; simp only at h1 h2 ⊢; exact hac.2
    · intro h1 h2
      simp only at h1 h2 ⊢
      rw [hac.1, l1 (by omega) (by omega)]; rfl
    · intro h1
      simp only at h1
      omega

theorem ainv_fold {l : Ref01Law} (hV : V l) : ∀ (bs : List Int) {a : A}, AInv l a → Ok l a.s bs → AInv l (bs.foldl (stepA l) a)
  | [], _, hi, _ => hi
  | b :: bs, a, hi, hk => ainv_fold hV bs (a := stepA l a b) (ainv_step hV hi hk.1) hk.2
theorem ainv {l : Ref01Law} (hV : V l) {bs : List Int} (hk : Ok l (s0 l) bs) : AInv l (acc l bs) := ainv_fold hV bs (ainv0 hV) hk
end Go.Proofs.Ythbifolpofillaa
