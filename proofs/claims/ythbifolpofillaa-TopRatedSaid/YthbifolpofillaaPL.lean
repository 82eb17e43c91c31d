/-
  The program's search of an ending.
-/
import Derived.Test.YthbifolpofillaaPK
set_option linter.all false
namespace Go.Proofs.Ythbifolpofillaa
open Go.Kp

def wsum (l : Ref01Law) : S → List Int → Int
  | _, [] => 0
  | s, b :: bs => wor l s b + wsum l (nxt l s b) bs
structure Ext (l : Ref01Law) (s : S) (bs : List Int) (k : Int) : Prop where
  ok : Ok l s bs
  dn : (run l s bs).f = l.fFrames
  nn : ∀ b ∈ bs, 0 ≤ b
  w : wsum l s bs = k

theorem ext_rch {l : Ref01Law} : ∀ {bs : List Int} {s : S} {k : Int}, Ext l s bs k → Rch l s k
  | [], s, k, h => by have := h.w; simp only [wsum] at this; rw [← this]; exact .done h.dn
  | b :: bs, s, k, h => by
    have h2 : Rch l (nxt l s b) (wsum l (nxt l s b) bs) := ext_rch (bs := bs) ⟨h.ok.2, h.dn, fun x hx => h.nn x (by simp [hx]), rfl⟩
    have := h.w
    simp only [wsum] at this
    rw [← this]
    exact .step h.ok.1 (h.nn b (by simp)) h2

theorem tot_app {l : Ref01Law} : ∀ (ys : List Int) (a : A), (ys.foldl (stepA l) a).tot = a.tot + wsum l a.s ys
  | [], a => by simp [wsum]
  | y :: ys, a => by
    rw [List.foldl_cons, tot_app ys]
    simp only [wsum]
    have e1 : (stepA l a y).tot = a.tot + wor l a.s y := rfl
    have e2 : (stepA l a y).s = nxt l a.s y := rfl
    rw [e1, e2]; omega
theorem acc_tot_app (l : Ref01Law) (xs ys : List Int) : (acc l (xs ++ ys)).tot = (acc l xs).tot + wsum l (acc l xs).s ys := by
  unfold acc
  rw [List.foldl_append, tot_app]

theorem at_inj {s s' : S} (h : s.at = s'.at) : s = s' := by
  obtain ⟨f, h1, p, fr, nd, a, c⟩ := s
  obtain ⟨f', h1', p', fr', nd', a', c'⟩ := s'
  simp only [S.at, FrameAt.mk.injEq, Ar2.mk.injEq] at h
  obtain ⟨rfl, rfl, rfl, rfl, rfl, rfl, rfl⟩ := h
  rfl

/-- what an ending finds: the final count is in the span -/
theorem ending_in {l : Ref01Law} (hV : V l) : ∀ (ys : List Int) {s : S}, Inv2 l s → Ok l s ys → 0 ≤ wsum l s ys ∧ wsum l s ys + G l (run l s ys) ≤ G l s
  | [], s, hi, _ => by simp [wsum, run]
  | y :: ys, s, hi, hk => by
    have hm := hk.1
    obtain ⟨h1, h2⟩ := ending_in hV ys (inv2_nxt hV hi hm.1 hm.2.2) hk.2
    have hw := wor_bd hV hi.inv hm.2.2
    have hc := cnt_le hV hi.inv hm.2.2
    have hs : wor l s y + G l (nxt l s y) ≤ G l s := (G_step hV hi hm.1 hc.1 hc.2).1
    simp only [wsum, run]
    omega

end Go.Proofs.Ythbifolpofillaa
