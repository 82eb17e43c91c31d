/-
  The least and the greatest ending: the program's 'span'.
-/
import Derived.Test.YthbifolpofillaaPI
set_option linter.all false
namespace Go.Proofs.Ythbifolpofillaa
open Go.Kp

structure Inv2 (l : Ref01Law) (s : S) : Prop where
  inv : Inv l s
  c : s.f = l.fFrames - 1 → 1 ≤ s.h → s.c = 0

theorem inv2_nxtn {l : Ref01Law} {s : S} (hV : V l) (hi : Inv2 l s) (hf : s.f < l.fFrames) {n : Int} (h0 : 0 ≤ n) (h1 : n ≤ s.p) : Inv2 l (nxtn l s n) := by
  refine ⟨inv_nxtn hV hi.inv hf h0 h1, fun hf2 hh => ?_⟩
  have h3 : s.h = 0 ∨ s.h = 1 ∨ s.h = 2 := by have := hi.inv.h0; have := hi.inv.hn; have := hi.inv.nd; have := hV.b2; omega
  have hac := nxtn_ac (l := l) (s := s) (n := n) h3
  obtain ⟨hF1, hF2, _⟩ := nxtn_f hV hi.inv hf h0 h1
  rw [hac.2]
  by_cases hcl : s.f < (nxtn l s n).f
  · have := (hF1 hcl).2.1; omega
  · have := (hF2 hcl).1
    rw [if_neg (by omega)]
theorem inv2_nxt {l : Ref01Law} {s : S} (hV : V l) (hi : Inv2 l s) {b : Int} (hf : s.f < l.fFrames) (hb : b ≤ s.p) : Inv2 l (nxt l s b) :=
  inv2_nxtn hV hi hf (cnt_le hV hi.inv hb).1 (cnt_le hV hi.inv hb).2
theorem inv2_A {l : Ref01Law} {a : A} (hA : AInv l a) : Inv2 l a.s := ⟨hA.inv, hA.l1⟩

/-- the greatest worth of an ending -/
def G (l : Ref01Law) (s : S) : Int := if s.f = l.fFrames then 0 else s.p * (1 + s.a) + 3 * (l.fPins * (l.fFrames - 1 - s.f)) + l.fPins * (s.c + 2 - s.h)

theorem G_step {l : Ref01Law} {s : S} (hV : V l) (hi : Inv2 l s) (hf : s.f < l.fFrames) {n : Int} (h0 : 0 ≤ n) (h1 : n ≤ s.p) :
    n * (1 + s.a) + G l (nxtn l s n) ≤ G l s ∧ (n = s.p → n * (1 + s.a) + G l (nxtn l s n) = G l s) := by
  obtain ⟨⟨f0, f1, h0', hn, nd, p0, p1, fr, h00, hfr, a0, a2, c0, c1, dn⟩, hc⟩ := hi
  obtain ⟨v1, v2, v3, v4, v5, v6, v7, v8⟩ := hV
  obtain ⟨f, h, p, fr', nd', a, c⟩ := s
  simp only at *
  have hh : h = 0 ∨ h = 1 ∨ h = 2 := by omega
  have ha : a = 0 ∨ a = 1 ∨ a = 2 := by omega
  have hcc : c = 0 ∨ c = 1 := by omega
  have hK : l.fPins * (l.fFrames - 1 - (f + 1)) = l.fPins * (l.fFrames - 1 - f) - l.fPins := by
    rw [show l.fFrames - 1 - (f + 1) = (l.fFrames - 1 - f) - 1 by omega, Int.mul_sub, Int.mul_one]
  have hpp : h = 0 → p = l.fPins := fun e => fr (h00 e)
  unfold G nxtn
  simp only
  rw [if_neg (show ¬ f = l.fFrames by omega)]
  by_cases hl : f = l.fFrames - 1
  · have hK0 : l.fPins * (l.fFrames - 1 - f) = 0 := by rw [hl]; simp
    have hcz : h ≠ 0 → c = 0 := fun e => hc hl (by omega)
    rw [if_pos hl, hK0]
    by_cases hd : p = n ∧ h + 1 < 3
    · rw [if_pos hd]
      simp only
      rw [if_neg (show ¬ f = l.fFrames by omega), hK0]
      obtain ⟨hd1, hd2⟩ := hd
      subst hd1
      rcases hh with rfl | rfl | rfl
      · have := hpp rfl; subst this
        rcases ha with rfl | rfl | rfl <;> rcases hcc with rfl | rfl <;> omega
      · have := hcz (by omega); subst this
        rcases ha with rfl | rfl | rfl <;> omega
      · omega
    · rw [if_neg hd]
      by_cases hq : h + 1 = nd'
      · rw [if_pos hq]
        simp only
        rw [if_pos (show f + 1 = l.fFrames by omega)]
        rcases hh with rfl | rfl | rfl
        · omega
        · have := hcz (by omega); subst this
          rcases ha with rfl | rfl | rfl <;> omega
        · have := hcz (by omega); subst this
          rcases ha with rfl | rfl | rfl <;> omega
      · rw [if_neg hq]
        simp only
        rw [if_neg (show ¬ f = l.fFrames by omega), hK0]
        rcases hh with rfl | rfl | rfl
        · have := hpp rfl; subst this
          rcases ha with rfl | rfl | rfl <;> rcases hcc with rfl | rfl <;> omega
        · have := hcz (by omega); subst this
          rcases ha with rfl | rfl | rfl <;> omega
        · omega
  · rw [if_neg hl]
    by_cases hd : p = n
    · rw [if_pos hd]
      simp only
      rw [if_neg (show ¬ f + 1 = l.fFrames by omega), hK]
      subst hd
      rcases hh with rfl | rfl | rfl <;> rcases ha with rfl | rfl | rfl <;> rcases hcc with rfl | rfl <;> simp <;> omega
    · rw [if_neg hd]
      by_cases hq : h + 1 = nd'
      · rw [if_pos hq]
        simp only
        rw [if_neg (show ¬ f + 1 = l.fFrames by omega), hK]
        rcases hh with rfl | rfl | rfl <;> rcases ha with rfl | rfl | rfl <;> rcases hcc with rfl | rfl <;> omega
      · rw [if_neg hq]
        simp only
        rw [if_neg (show ¬ f = l.fFrames by omega)]
        rcases hh with rfl | rfl | rfl
        · have := hpp rfl
          rcases ha with rfl | rfl | rfl <;> rcases hcc with rfl | rfl <;> omega
        · rcases ha with rfl | rfl | rfl <;> rcases hcc with rfl | rfl <;> omega
        · omega

/-- how many balls there can still be -/
def mu (l : Ref01Law) (s : S) : Nat := (3 * l.fFrames - 3 * s.f - s.h).toNat
theorem mu_le {l : Ref01Law} {s : S} (hV : V l) (hi : Inv l s) : mu l s ≤ 30 := by
  have := hi.f0; have := hi.h0; have := hV.f2
  unfold mu; omega
theorem mu_step {l : Ref01Law} {s : S} (hV : V l) (hi : Inv l s) (hf : s.f < l.fFrames) {n : Int} (h0 : 0 ≤ n) (h1 : n ≤ s.p) : mu l (nxtn l s n) < mu l s := by
  obtain ⟨hF1, hF2, _⟩ := nxtn_f hV hi hf h0 h1
  have hh : s.h ≤ 2 := by have := hi.hn; have := hi.nd; have := hV.b2; omega
  have := hi.h0
  unfold mu
  by_cases hcl : s.f < (nxtn l s n).f
  · obtain ⟨q1, q2, _⟩ := hF1 hcl; omega
  · obtain ⟨q1, q2, _⟩ := hF2 hcl; omega

theorem G_bd {l : Ref01Law} {s : S} (hV : V l) (hi : Inv2 l s) : 0 ≤ G l s ∧ G l s ≤ 400 := by
  obtain ⟨⟨f0, f1, h0', hn, nd, p0, p1, fr, h00, hfr, a0, a2, c0, c1, dn⟩, hc⟩ := hi
  obtain ⟨v1, v2, v3, v4, v5, v6, v7, v8⟩ := hV
  unfold G
  split
  · omega
  · rename_i hf
    have hh : s.h = 0 ∨ s.h = 1 ∨ s.h = 2 := by omega
    have ha : s.a = 0 ∨ s.a = 1 ∨ s.a = 2 := by omega
    have hcc : s.c = 0 ∨ s.c = 1 := by omega
    have k1 : 0 ≤ l.fPins * (l.fFrames - 1 - s.f) := Int.mul_nonneg (by omega) (by omega)
    have k2 : l.fPins * (l.fFrames - 1 - s.f) ≤ 10 * 9 := Int.mul_le_mul (by omega) (by omega) (by omega) (by omega)
    rcases hh with h | h | h <;> rcases ha with a | a | a <;> rcases hcc with c | c <;> rw [h, a, c] <;> omega

theorem cnt_zero {l : Ref01Law} {s : S} (hV : V l) : cnt l s 0 = 0 := by
  have := hV.t1
  unfold cnt
  rw [if_neg (by rintro ⟨_, h⟩; have : max (0 : Int) 0 = 0 := by decide
                 omega)]
  decide
theorem cnt_all {l : Ref01Law} {s : S} (hV : V l) (hi : Inv l s) : cnt l s s.p = s.p := by
  have := hi.p0; have := hi.fr; have := hV.t2
  unfold cnt
  split
  · rename_i h; exact (hi.fr h.1).symm
  · omega

theorem final_least {l : Ref01Law} (hV : V l) (n : Int) (hn0 : 0 ≤ n) (hn : n ≤ 5000) {s : S} (hi : Inv l s) : loopN (fun rec3 x => frameLawFinal_b1 2097152 rec3 x.1 x.2) 2097152 (n, s.play l) = some n := by
  have h := loopN_rel (ι := S) (b := fun rec3 x => frameLawFinal_b1 2097152 rec3 x.1 x.2) (fun s => (n, s.play l)) (fun _ => some n) (fun s => mu l s) (fun s => Inv l s) ?_ 2097152 s hi (by have := mu_le hV hi; omega)
  · exact h
  · intro s rec hi ih
    try simp only at hi ih ⊢
    unfold frameLawFinal_b1
    rw [done_eq]
    simp -implicitDefEqProofs only [Option.bind_some]
    by_cases hd : s.f = l.fFrames
    · rw [if_neg (by simp [hd])]
    · have hf : s.f < l.fFrames := by have := hi.f1; omega
      rw [if_pos (by simp [hd])]
      unfold framePlayLeast
      simp -implicitDefEqProofs only [Option.bind_some]
      have hp0 := hi.p0
      rw [next_eq hV hi hf (by omega)]
      simp -implicitDefEqProofs only [Option.bind_some]
      have hw : wor l s 0 = 0 := by unfold wor; rw [cnt_zero hV]; simp
      rw [hw, sum_eq _ (by simp) (by intro y hy; simp at hy; rcases hy with rfl | rfl <;> omega)]
      simp -implicitDefEqProofs only [Option.bind_some, sm]
      have := ih (nxt l s 0) (inv_nxt hV hi hf (by omega)) (mu_step hV hi hf (cnt_le hV hi (by omega)).1 (cnt_le hV hi (by omega)).2)
      rw [show n + (0 + 0) = n by omega]
      exact this

theorem final_most {l : Ref01Law} (hV : V l) (n : Int) (hn0 : 0 ≤ n) (hn : n ≤ 5000) {s : S} (hi : Inv2 l s) : loopN (fun rec3 x => frameLawFinalX_b1 2097152 rec3 x.1 x.2) 2097152 (n, s.play l) = some (n + G l s) := by
  have h := loopN_rel (ι := Int × S) (b := fun rec3 x => frameLawFinalX_b1 2097152 rec3 x.1 x.2) (fun i => (i.1, i.2.play l)) (fun i => some (i.1 + G l i.2)) (fun i => mu l i.2) (fun i => Inv2 l i.2 ∧ 0 ≤ i.1 ∧ i.1 + G l i.2 ≤ 6000) ?_ 2097152 (n, s)
    ⟨hi, hn0, by have := (G_bd hV hi).2; simp only; omega⟩ (by have := mu_le hV hi.inv; simp only; omega)
  · exact h
  · rintro ⟨m, s⟩ rec ⟨hi, hm0, hm⟩ ih
    try simp only at hi ih hm0 hm ⊢
    unfold frameLawFinalX_b1
    rw [done_eq]
    simp -implicitDefEqProofs only [Option.bind_some]
    by_cases hd : s.f = l.fFrames
    · rw [if_neg (by simp [hd])]
      unfold G; rw [if_pos hd]; simp
    · have hf : s.f < l.fFrames := by have := hi.inv.f1; omega
      rw [if_pos (by simp [hd])]
      unfold framePlayMost
      simp -implicitDefEqProofs only [Option.bind_some]
      have hp0 := hi.inv.p0
      have ep : (s.play l).fAt.fStanding = s.p := rfl
      rw [ep, next_eq hV hi.inv hf (Int.le_refl _)]
      simp -implicitDefEqProofs only [Option.bind_some]
      have hw := wor_bd hV hi.inv (b := s.p) (Int.le_refl _)
      have hg := (G_bd hV hi)
      rw [sum_eq _ (by simp) (by intro y hy; simp at hy; rcases hy with rfl | rfl <;> omega)]
      simp -implicitDefEqProofs only [Option.bind_some, sm]
      have hc := cnt_le hV hi.inv (b := s.p) (Int.le_refl _)
      have hs := (G_step hV hi hf hc.1 hc.2).2 (cnt_all hV hi.inv)
      have hs' : wor l s s.p + G l (nxt l s s.p) = G l s := hs
      have := ih (m + wor l s s.p, nxt l s s.p) ⟨inv2_nxt hV hi hf (Int.le_refl _), by simp only; omega, by simp only; omega⟩ (mu_step hV hi.inv hf hc.1 hc.2)
      simp only at this
      rw [show m + (wor l s s.p + 0) = m + wor l s s.p by omega, this]
      congr 1; omega

theorem lawSpan_eq {l : Ref01Law} (hV : V l) {sheet : List Int} (hk : Ok l (s0 l) sheet) (hn : sheet.length ≤ 90) :
    frameLawSpan 2097152 (fl l) sheet = some ⟨(acc l sheet).tot, (acc l sheet).tot + G l (acc l sheet).s⟩ := by
  have hA := ainv hV hk
  have hb := acc_tot_bd hV hk
  unfold frameLawSpan frameLawFinal frameLawFinalX
  rw [total_eq hV hk hn, behind_eq hV hk hn]
  simp -implicitDefEqProofs only [Option.bind_some]
  rw [final_least hV _ hb.1 (by omega) hA.inv, final_most hV _ hb.1 (by omega) (inv2_A hA)]
  rfl

theorem span_eq (l : Ref01Law) (sheet : List Int) (hn : sheet.length ≤ 45) : frameSpan 2097152 (fl l) sheet = some (if flt l sheet = 0 then ⟨(acc l sheet).tot, (acc l sheet).tot + G l (acc l sheet).s⟩ else ⟨0, 0⟩, flt l sheet) := by
  unfold frameSpan
  rw [check_eq l sheet hn]
  simp -implicitDefEqProofs only [Option.bind_some]
  by_cases h0 : flt l sheet = 0
  · obtain ⟨hV, _, hk⟩ := flt_ok.1 h0
    rw [if_neg (by simp [h0]), lawSpan_eq hV hk (by omega)]
    simp [h0]
  · rw [if_pos (by simp [h0]), if_neg h0]
end Go.Proofs.Ythbifolpofillaa
