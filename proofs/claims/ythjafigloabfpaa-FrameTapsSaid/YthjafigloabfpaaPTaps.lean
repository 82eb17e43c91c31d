/-
  The law FrameTaps, typed, is true.
-/
import Derived.Test.YthjafigloabfpaaPI
import Derived.Test.YthjafigloabfpaaPW
import Derived.Test.YthjafigloabfpaaDFrameTaps
set_option linter.all false
namespace Go.Proofs.Ythjafigloabfpaa
open Go.Kp

theorem addG_row {s : S} {G : List (List Int)} {b : Int} {j : Nat} {r : List Int} (h : G[j]? = some r) (hlen : s.f.toNat ≤ G.length) :
    ∃ ys, (addG s G b)[j]? = some (r ++ ys) ∧ (j ≠ s.f.toNat → ys = []) ∧ (j = s.f.toNat → ys = [b]) := by
  have hj := (List.getElem?_eq_some_iff.1 h).1
  unfold addG
  have h1 : (if s.f = (G.length : Int) then G ++ [[]] else G)[j]? = some r := by
    split
    · rw [List.getElem?_append_left hj]; exact h
    · exact h
  by_cases e : j = s.f.toNat
  · subst e
    refine ⟨[b], ?_, fun h => absurd rfl h, fun _ => rfl⟩
    have hl := (List.getElem?_eq_some_iff.1 h1).1
    rw [List.getElem?_set_self hl, h1]; rfl
  · refine ⟨[], ?_, fun _ => rfl, fun h => absurd h e⟩
    rw [List.getElem?_set_ne (fun q => e q.symm), h1, List.append_nil]

/-- rows grow; rows that are closed stay -/
theorem grp_row {l : Ref01Law} (hV : V l) : ∀ (bs : List Int) {s : S} {G : List (List Int)} {j : Nat} {r : List Int}, Inv l s → Ok l s bs → (G.length : Int) = s.f + (if s.h = 0 then 0 else 1) → G[j]? = some r →
    ∃ ys, (grp l s G bs)[j]? = some (r ++ ys) ∧ ((j : Int) < s.f → ys = []) ∧ ((j : Int) = s.f → bs ≠ [] → ys ≠ [])
  | [], s, G, j, r, _, _, _, h => ⟨[], by rw [List.append_nil]; exact h, fun _ => rfl, fun _ h => absurd rfl h⟩
  | b :: bs, s, G, j, r, hi, hk, hl, h => by
    have hf0 := hi.f0
    have hlen : s.f.toNat ≤ G.length := by split at hl <;> omega
    obtain ⟨ys, h1, h2, h3⟩ := addG_row (s := s) (b := b) h hlen
    have hc := cnt_le hV hi hk.1.2.2
    obtain ⟨hF1, hF2, _⟩ := nxtn_f hV hi hk.1.1 hc.1 hc.2
    have hg := ginv_step hV hi (G := G) (bs := G.flatten) ⟨hl, rfl⟩ hk.1
    obtain ⟨zs, q1, q2, q3⟩ := grp_row hV bs (inv_nxt hV hi hk.1.1 hk.1.2.2) hk.2 hg.len h1
    refine ⟨ys ++ zs, by rw [← List.append_assoc]; exact q1, fun hj => ?_, fun hj _ => ?_⟩
    · have e1 := h2 (by omega)
      have hf : s.f ≤ (nxt l s b).f := by
        unfold nxt
        by_cases hcl : s.f < (nxtn l s (cnt l s b)).f
        · omega
        · have := (hF2 hcl).1; omega
      have e2 := q2 (by omega)
      rw [e1, e2]; rfl
    · have e1 := h3 (by omega)
      rw [e1]; simp

/-- the law with another Tap -/
def tp (l : Ref01Law) (t : Int) : Ref01Law := ⟨l.fFrames, l.fPins, l.fBalls, t⟩
theorem nxtn_tp (l : Ref01Law) (t : Int) (s : S) (n : Int) : nxtn (tp l t) s n = nxtn l s n := rfl

/-- how two states of a last frame stand to each other -/
def Last (l : Ref01Law) (s s' : S) : Prop :=
  s.f = l.fFrames - 1 ∧ s'.f = l.fFrames - 1 ∧ s'.h = s.h ∧
  ((s.h = 0 ∧ s' = s) ∨ (s.h = 1 ∧ (s' = s ∨ (s'.fr = true ∧ s.fr = false ∧ s'.p = l.fPins ∧ l.fPins - s.p < l.fTap))) ∨ (s.h = 2 ∧ (s'.fr = true ∨ s.fr = false ∨ s'.p < l.fTap)))

theorem cnt_tp {l : Ref01Law} {t : Int} (ht : t ≤ l.fTap) (hV : V l) {s s' : S} {b : Int} (hp : s.fr = true → s'.fr = true ∨ b < l.fTap) (hb : b ≤ l.fPins) : cnt l s b ≤ cnt (tp l t) s' b := by
  have := hV.t1; have := hV.t2; have := hV.p1
  unfold cnt tp
  simp only
  by_cases h1 : s.fr = true ∧ l.fTap ≤ max 0 b
  · rw [if_pos h1]
    rcases hp h1.1 with h | h
    · rw [if_pos ⟨h, by omega⟩]; exact Int.le_refl _
    · omega
  · rw [if_neg h1]
    split <;> omega

theorem last_step {l : Ref01Law} {t : Int} (ht1 : 1 ≤ t) (ht : t ≤ l.fTap) (hV : V l) {s s' : S} (hi : Inv l s) (hi' : Inv (tp l t) s') (hl : Last l s s') {b : Int} (hm : may l s b) (hm' : may (tp l t) s' b) :
    cnt l s b ≤ cnt (tp l t) s' b ∧ (Last l (nxt l s b) (nxt (tp l t) s' b) ∨ (nxt l s b).f = l.fFrames ∨ (nxt (tp l t) s' b).f = l.fFrames) := by
  obtain ⟨e1, e2, e3, hcase⟩ := hl
  have v3 := hV.p1; have v5 := hV.b1; have v6 := hV.b2; have v7 := hV.t1; have v8 := hV.t2
  have hbp : b ≤ l.fPins := by have := hm.2.2; have := hi.p1; omega
  have hcs : cnt l s b ≤ cnt (tp l t) s' b := by
    refine cnt_tp ht hV (fun hfr => ?_) hbp
    rcases hcase with ⟨_, h⟩ | ⟨_, h | h⟩ | ⟨_, h⟩
    · left; rw [h]; exact hfr
    · left; rw [h]; exact hfr
    · rw [h.2.1] at hfr; cases hfr
    · rcases h with h | h | h
      · exact .inl h
      · rw [h] at hfr; cases hfr
      · right; have := hm'.2.2; omega
  refine ⟨hcs, ?_⟩
  have hc := cnt_le hV hi hm.2.2
  have hVt : V (tp l t) := ⟨hV.f1, hV.f2, hV.p1, hV.p2, hV.b1, hV.b2, ht1, by show t ≤ l.fPins; omega⟩
  have hc' := cnt_le hVt hi' hm'.2.2
  have hd : ∀ {s : S} {b n : Int}, (n = cnt l s b) → n = l.fPins ∨ n = max 0 b := by
    intro s b n h; rw [h]; unfold cnt; split <;> simp
  have hn := hi.nd
  have hn' : s'.nd = l.fBalls ∨ (s'.nd = 3 ∧ s'.f = l.fFrames - 1) := hi'.nd
  have hnn := hi.hn
  have hnn' := hi'.hn
  have hfr := hi.fr
  have hfr' : s'.fr = true → s'.p = l.fPins := hi'.fr
  have hp0 := hi.p0
  have h00 := hi.h00
  -- what the balls count
  have k1 : s.fr = true → l.fTap ≤ max 0 b → cnt l s b = l.fPins := fun h1 h2 => by unfold cnt; rw [if_pos ⟨h1, h2⟩]
  have k2 : ¬ (s.fr = true ∧ l.fTap ≤ max 0 b) → cnt l s b = max 0 b := fun h => by unfold cnt; rw [if_neg h]
  have k3 : s'.fr = true → t ≤ max 0 b → cnt (tp l t) s' b = l.fPins := fun h1 h2 => by unfold cnt tp; simp only; rw [if_pos ⟨h1, h2⟩]
  have k4 : ¬ (s'.fr = true ∧ t ≤ max 0 b) → cnt (tp l t) s' b = max 0 b := fun h => by unfold cnt tp; simp only; rw [if_neg h]
  unfold nxt
  rw [nxtn_tp]
  generalize cnt l s b = n at *
  generalize cnt (tp l t) s' b = n' at *
  have hss : s.h = 0 ∨ s.h = 1 ∨ s.h = 2 := by have := hi.h0; omega
  unfold nxtn
  rw [if_pos e1, if_pos e2, e3]
  rcases hcase with ⟨hh, hs⟩ | ⟨hh, hs⟩ | ⟨hh, hs⟩
  · -- the first ball
    subst hs
    rw [hh]
    have hfrt := h00 hh
    have hpp := hfr hfrt
    by_cases hd1 : s'.p = n
    · -- a strike, in both
      have hd2 : s'.p = n' := by omega
      rw [if_pos ⟨hd1, by omega⟩, if_pos ⟨hd2, by omega⟩]
      left
      exact ⟨e1, e1, rfl, .inr (.inl ⟨rfl, .inl rfl⟩)⟩
    · rw [if_neg (fun q => hd1 q.1), if_neg (show ¬ (0 + 1 : Int) = s'.nd by omega)]
      have hno : ¬ (s'.fr = true ∧ l.fTap ≤ max 0 b) := fun q => hd1 (by rw [k1 q.1 q.2]; omega)
      have hn1 := k2 hno
      by_cases hd2 : s'.p = n'
      · rw [if_pos ⟨hd2, by omega⟩]
        left
        refine ⟨e1, e1, rfl, .inr (.inl ⟨rfl, .inr ⟨rfl, rfl, rfl, ?_⟩⟩)⟩
        · simp only
          have : ¬ l.fTap ≤ max 0 b := fun q => hno ⟨hfrt, q⟩
          omega
      · have hno' : ¬ (s'.fr = true ∧ t ≤ max 0 b) := fun q => hd2 (by rw [k3 q.1 q.2]; omega)
        have hn2 := k4 hno'
        rw [if_neg (fun q => hd2 q.1), if_neg (show ¬ (0 + 1 : Int) = s'.nd by omega)]
        left
        have : n' = n := by omega
        subst this
        exact ⟨e1, e1, rfl, .inr (.inl ⟨rfl, .inl rfl⟩)⟩
  · -- the second ball
    rw [hh]
    rcases hs with hs | hs
    · subst hs
      by_cases hd1 : s'.p = n
      · have hd2 : s'.p = n' := by omega
        rw [if_pos ⟨hd1, by omega⟩, if_pos ⟨hd2, by omega⟩]
        left
        exact ⟨e1, e1, rfl, .inr (.inr ⟨rfl, .inl rfl⟩)⟩
      · rw [if_neg (fun q => hd1 q.1)]
        by_cases hq : (1 + 1 : Int) = s'.nd
        · rw [if_pos hq]
          right; left; simp only; omega
        · rw [if_neg hq]
          by_cases hd2 : s'.p = n'
          · rw [if_pos ⟨hd2, by omega⟩]
            left
            exact ⟨e1, e1, rfl, .inr (.inr ⟨rfl, .inl rfl⟩)⟩
          · rw [if_neg (fun q => hd2 q.1), if_neg hq]
            left
            exact ⟨e1, e1, rfl, .inr (.inr ⟨rfl, .inr (.inl rfl)⟩)⟩
    · obtain ⟨h1, h2, h4, h5⟩ := hs
      have hn1 := k2 (fun q => by rw [h2] at q; cases q.1)
      have hnd3 : s'.nd = 3 := by
        rcases hi'.hfr h1 with h | h
        · omega
        · exact h.2
      by_cases hd1 : s.p = n
      · -- a spare
        rw [if_pos ⟨hd1, by omega⟩]
        by_cases hd2 : s'.p = n'
        · rw [if_pos ⟨hd2, by omega⟩]
          left
          exact ⟨e1, e2, rfl, .inr (.inr ⟨rfl, .inl rfl⟩)⟩
        · have hno' : ¬ (s'.fr = true ∧ t ≤ max 0 b) := fun q => hd2 (by rw [k3 q.1 q.2]; omega)
          have hn2 := k4 hno'
          rw [if_neg (fun q => hd2 q.1), if_neg (show ¬ (1 + 1 : Int) = s'.nd by omega)]
          left
          refine ⟨e1, e2, rfl, .inr (.inr ⟨rfl, .inr (.inr ?_)⟩)⟩
          simp only; omega
      · rw [if_neg (fun q => hd1 q.1)]
        by_cases hq : (1 + 1 : Int) = s.nd
        · rw [if_pos hq]
          right; left; simp only; omega
        · rw [if_neg hq]
          left
          by_cases hd2 : s'.p = n'
          · rw [if_pos ⟨hd2, by omega⟩]
            exact ⟨e1, e2, rfl, .inr (.inr ⟨rfl, .inl rfl⟩)⟩
          · rw [if_neg (fun q => hd2 q.1), if_neg (show ¬ (1 + 1 : Int) = s'.nd by omega)]
            exact ⟨e1, e2, rfl, .inr (.inr ⟨rfl, .inr (.inl rfl)⟩)⟩
  · -- the third ball
    right; left
    rw [hh, if_neg (by omega), if_pos (by omega)]
    simp only; omega

def Le2 (xs ys : List Int) : Prop := xs.length = ys.length ∧ ∀ (i : Nat) x y, xs[i]? = some x → ys[i]? = some y → x ≤ y
theorem le2_snoc {xs ys : List Int} {x y : Int} (h : Le2 xs ys) (hxy : x ≤ y) : Le2 (xs ++ [x]) (ys ++ [y]) := by
  refine ⟨by simp [h.1], fun i a b ha hb => ?_⟩
  by_cases hi : i < xs.length
  · rw [List.getElem?_append_left hi] at ha
    rw [List.getElem?_append_left (by rw [← h.1]; exact hi)] at hb
    exact h.2 i a b ha hb
  · have hl := (List.getElem?_eq_some_iff.1 ha).1
    simp at hl
    have e : i = xs.length := by omega
    subst e
    rw [List.getElem?_append_right (Nat.le_refl _)] at ha
    rw [h.1, List.getElem?_append_right (Nat.le_refl _)] at hb
    simp at ha hb
    omega
theorem sm_le : ∀ {xs ys : List Int}, Le2 xs ys → sm xs ≤ sm ys
  | [], [], _ => Int.le_refl _
  | x :: xs, y :: ys, h => by
    have h0 := h.2 0 x y rfl rfl
    have ih := sm_le (xs := xs) (ys := ys) ⟨by simpa using h.1, fun i a b ha hb => h.2 (i + 1) a b (by simpa using ha) (by simpa using hb)⟩
    simp only [sm]; omega
  | [], _ :: _, h => by have := h.1; simp at this
  | _ :: _, [], h => by have := h.1; simp at this
theorem le2_part {xs ys : List Int} (h : Le2 xs ys) (n m : Nat) : Le2 ((xs.take n).drop m) ((ys.take n).drop m) := by
  refine ⟨by simp [h.1], fun i a b ha hb => ?_⟩
  rw [List.getElem?_drop, List.getElem?_take] at ha hb
  split at ha
  · rename_i hlt
    rw [if_pos hlt] at hb
    exact h.2 _ a b ha hb
  · cases ha

theorem cts_le {cs cs' : List Int} (h : Le2 cs cs') : ∀ {E E' : List (Nat × Nat)} {fr : Nat} {up up' : Int}, up ≤ up' → (∀ (k : Nat) p p', E[k]? = some p → E'[k]? = some p' → p = p') →
    ∀ (i : Nat) v v', (cts cs fr up E)[i]? = some v → (cts cs' fr up' E')[i]? = some v' → v ≤ v'
  | [], _, _, _, _, _, _, i, v, v', hv, _ => by simp [cts] at hv
  | _ :: _, [], _, _, _, _, _, i, v, v', _, hv => by simp [cts] at hv
  | p :: E, p' :: E', fr, up, up', hup, hE, i, v, v', hv, hv' => by
    have e := hE 0 p p' rfl rfl
    subst e
    unfold cts at hv hv'
    rw [← h.1] at hv'
    split at hv
    · simp at hv
    · rename_i hs
      rw [if_neg hs] at hv'
      have hle := sm_le (le2_part h (p.1 + p.2) fr)
      cases i with
      | zero => simp at hv hv'; omega
      | succ i =>
        exact cts_le h (E := E) (E' := E') (fr := p.1) (up := up + sm ((cs.take (p.1 + p.2)).drop fr)) (up' := up' + sm ((cs'.take (p.1 + p.2)).drop fr)) (by omega) (fun k q q' h1 h2 => hE (k + 1) q q' (by simpa using h1) (by simpa using h2)) i v v' (by simpa using hv) (by simpa using hv')

theorem grp_app (l : Ref01Law) : ∀ (xs ys : List Int) (s : S) (G : List (List Int)), grp l s G (xs ++ ys) = grp l (run l s xs) (grp l s G xs) ys
  | [], _, _, _ => rfl
  | x :: xs, ys, s, G => grp_app l xs ys (nxt l s x) (addG s G x)

/-- how far both laws agree -/
def Ph (l : Ref01Law) (t : Int) (w : List Int) (i : Nat) : Prop :=
  ((acc (tp l t) (w.take i)).s = (acc l (w.take i)).s ∧ (acc (tp l t) (w.take i)).E = (acc l (w.take i)).E ∧ (acc l (w.take i)).s.f ≤ l.fFrames - 1 ∧ grA (tp l t) (w.take i) = grA l (w.take i)) ∨
  (Last l (acc l (w.take i)).s (acc (tp l t) (w.take i)).s ∧ (acc (tp l t) (w.take i)).E = (acc l (w.take i)).E) ∨
  (acc l (w.take i)).s.f = l.fFrames ∨ (acc (tp l t) (w.take i)).s.f = l.fFrames ∨ i = w.length

theorem taps_all {l : Ref01Law} {t : Int} (ht1 : 1 ≤ t) (ht : t ≤ l.fTap) (hV : V l) {w : List Int} (hk : Ok l (s0 l) w) (hk' : Ok (tp l t) (s0 (tp l t)) w) (hg : grA (tp l t) w = grA l w) :
    ∀ i, i ≤ w.length → Le2 (acc l (w.take i)).cs (acc (tp l t) (w.take i)).cs ∧ (∀ (k : Nat) p p', (acc l (w.take i)).E[k]? = some p → (acc (tp l t) (w.take i)).E[k]? = some p' → p = p') ∧ Ph l t w i := by
  have hVt : V (tp l t) := ⟨hV.f1, hV.f2, hV.p1, hV.p2, hV.b1, hV.b2, ht1, by have := hV.t2; show t ≤ l.fPins; omega⟩
  have f1 := hV.f1
  have b1 := hV.b1
  intro i
  induction i with
  | zero =>
    intro _
    exact ⟨⟨rfl, fun i x y h => by simp [acc, acc0] at h⟩, fun k p p' h => by simp [acc, acc0] at h, .inl ⟨rfl, rfl, by show (0 : Int) ≤ _; omega, rfl⟩⟩
  | succ i ih =>
    intro hle
    obtain ⟨h1, h2, h3⟩ := ih (by omega)
    have hlt : i < w.length := by omega
    obtain ⟨b, hb, hm, ha⟩ := at_i hk hlt
    obtain ⟨b', hb', hm', ha'⟩ := at_i hk' hlt
    have eb : b' = b := by rw [hb] at hb'; exact (Option.some.inj hb').symm
    subst eb
    have hA := ainv hV (ok_pre hk i)
    have hA' := ainv hVt (ok_pre hk' i)
    have hgi := ginv hV (ok_pre hk i)
    have hgi1 := ginv hV (ok_pre hk (i + 1))
    have gs := grA_succ (l := l) hb
    have gs' := grA_succ (l := tp l t) hb
    have hlen : (acc (tp l t) (w.take i)).cs.length = (acc l (w.take i)).cs.length := h1.1.symm
    have hI1 := (ainv hV (ok_pre hk (i + 1))).inv
    have hI1' := (ainv hVt (ok_pre hk' (i + 1))).inv
    have erun : acc l (w.take (i + 1)) = stepA l (acc l (w.take i)) b' := ha
    -- the last frame
    have lastcase : Last l (acc l (w.take i)).s (acc (tp l t) (w.take i)).s → (acc (tp l t) (w.take i)).E = (acc l (w.take i)).E →
        Le2 (acc l (w.take (i + 1))).cs (acc (tp l t) (w.take (i + 1))).cs ∧ (∀ (k : Nat) p p', (acc l (w.take (i + 1))).E[k]? = some p → (acc (tp l t) (w.take (i + 1))).E[k]? = some p' → p = p') ∧ Ph l t w (i + 1) := by
      intro hl hE
      obtain ⟨c1, c2⟩ := last_step ht1 ht hV hA.inv hA'.inv hl hm hm'
      have hf1 := hl.1
      have hf2 := hl.2.1
      have bz : ∀ n, bon l (acc l (w.take i)).s n = 0 := fun n => by unfold bon; rw [if_neg (fun q => q.1 hf1)]
      have bz' : ∀ n, bon (tp l t) (acc (tp l t) (w.take i)).s n = 0 := fun n => by unfold bon; rw [if_neg (fun q => q.1 hf2)]
      refine ⟨?_, ?_, ?_⟩
      · rw [ha, ha']; exact le2_snoc h1 c1
      · rw [ha, ha']
        intro k p p' hp hp'
        simp only [stepA, hE, bz, bz', hlen] at hp hp'
        by_cases hkl : k < (acc l (w.take i)).E.length
        · rw [List.getElem?_append_left hkl] at hp hp'
          rw [hp] at hp'; exact Option.some.inj hp'
        · rw [List.getElem?_append_right (by omega)] at hp hp'
          split at hp
          · split at hp'
            · rw [hp] at hp'; exact Option.some.inj hp'
            · simp at hp'
          · simp at hp
      · have es : (acc l (w.take (i + 1))).s = nxt l (acc l (w.take i)).s b' := by rw [ha]; rfl
        have es' : (acc (tp l t) (w.take (i + 1))).s = nxt (tp l t) (acc (tp l t) (w.take i)).s b' := by rw [ha']; rfl
        unfold Ph
        rw [es, es']
        rcases c2 with c | c | c
        · refine .inr (.inl ⟨c, ?_⟩)
          have d1 := c.1
          have d2 := c.2.1
          rw [ha, ha']
          simp only [stepA]
          rw [if_neg (by omega), if_neg (by omega), hE]
        · exact .inr (.inr (.inl c))
        · exact .inr (.inr (.inr (.inl c)))
    rcases h3 with ⟨hs, hE, hfl, hgr⟩ | ⟨hl, hE⟩ | hd | hd | hd
    · by_cases hfF : (acc l (w.take i)).s.f = l.fFrames - 1
      · refine lastcase ⟨hfF, by rw [hs]; exact hfF, by rw [hs], ?_⟩ hE
        have h0 := hA.inv.h0
        have hn := hA.inv.hn
        have hnd := hA.inv.nd
        have b2 := hV.b2
        rw [hs]
        have hh : (acc l (w.take i)).s.h = 0 ∨ (acc l (w.take i)).s.h = 1 ∨ (acc l (w.take i)).s.h = 2 := by omega
        rcases hh with h | h | h
        · exact .inl ⟨h, rfl⟩
        · exact .inr (.inl ⟨h, .inl rfl⟩)
        · refine .inr (.inr ⟨h, ?_⟩)
          cases (acc l (w.take i)).s.fr <;> simp
      · -- ahead of the last frame
        have hff : (acc l (w.take i)).s.f < l.fFrames - 1 := by omega
        by_cases hc : cnt (tp l t) (acc l (w.take i)).s b' = cnt l (acc l (w.take i)).s b'
        · have en : nxt (tp l t) (acc l (w.take i)).s b' = nxt l (acc l (w.take i)).s b' := by unfold nxt; rw [nxtn_tp, hc]
          have c' := cnt_le hV hA.inv hm.2.2
          have hfle : (nxt l (acc l (w.take i)).s b').f ≤ l.fFrames - 1 := by
            obtain ⟨F1, F2, _⟩ := nxtn_f hV hA.inv hm.1 c'.1 c'.2
            unfold nxt
            by_cases hcl : (acc l (w.take i)).s.f < (nxtn l (acc l (w.take i)).s (cnt l (acc l (w.take i)).s b')).f
            · have := (F1 hcl).1; omega
            · have := (F2 hcl).1; omega
          have ebon : ∀ n, bon (tp l t) (acc l (w.take i)).s n = bon l (acc l (w.take i)).s n := fun n => rfl
          have eE : (acc (tp l t) (w.take (i + 1))).E = (acc l (w.take (i + 1))).E := by
            rw [ha, ha']; simp only [stepA, hs, hE, en, hc, hlen, ebon]
          refine ⟨?_, fun k p p' hp hp' => ?_, .inl ⟨?_, eE, ?_, ?_⟩⟩
          · rw [ha, ha']; simp only [stepA, hs, hc]; exact le2_snoc h1 (Int.le_refl _)
          · rw [eE, hp] at hp'; exact Option.some.inj hp'
          · rw [ha, ha']; simp only [stepA, hs, en]
          · rw [ha]; exact hfle
          · rw [gs, gs', hs, hgr]
        · -- here the lesser Tap fells all
          have v7 := hV.t1
          have v8 := hV.t2
          have v3 := hV.p1
          have hp1 := hA.inv.p1
          have hfrp := hA.inv.fr
          have hfr : (acc l (w.take i)).s.fr = true ∧ cnt (tp l t) (acc l (w.take i)).s b' = l.fPins ∧ cnt l (acc l (w.take i)).s b' < l.fPins := by
            have hbp := hm.2.2
            unfold cnt tp at hc ⊢
            simp only at hc ⊢
            by_cases q1 : (acc l (w.take i)).s.fr = true ∧ l.fTap ≤ max 0 b'
            · exfalso; apply hc; rw [if_pos q1, if_pos ⟨q1.1, by omega⟩]
            · rw [if_neg q1] at hc ⊢
              by_cases q2 : (acc l (w.take i)).s.fr = true ∧ t ≤ max 0 b'
              · rw [if_pos q2] at hc ⊢
                refine ⟨q2.1, rfl, ?_⟩
                have : ¬ l.fTap ≤ max 0 b' := fun q => q1 ⟨q2.1, q⟩
                omega
              · rw [if_neg q2] at hc; exact absurd rfl hc
          obtain ⟨r1, r2, r3⟩ := hfr
          have hh0 : (acc l (w.take i)).s.h = 0 := by
            rcases hA.inv.hfr r1 with h | h
            · exact h
            · omega
          have hp := hfrp r1
          have hnd : (acc l (w.take i)).s.nd = l.fBalls := by have := hA.inv.nd; omega
          have en : nxt l (acc l (w.take i)).s b' = ⟨(acc l (w.take i)).s.f, 1, (acc l (w.take i)).s.p - cnt l (acc l (w.take i)).s b', false, l.fBalls, (acc l (w.take i)).s.c, 0⟩ := by
            unfold nxt nxtn
            rw [if_neg hfF, if_neg (by omega), if_neg (by omega), hh0, hnd]; rfl
          have en' : (nxt (tp l t) (acc l (w.take i)).s b').f = (acc l (w.take i)).s.f + 1 := by
            unfold nxt
            rw [nxtn_tp, r2]
            unfold nxtn
            rw [if_neg hfF, if_pos (by omega)]
          -- so the sheet ends here
          have hend : i + 1 = w.length := by
            by_cases hx : i + 1 = w.length
            · exact hx
            · exfalso
              have hdne : w.drop (i + 1) ≠ [] := by intro e; rw [List.drop_eq_nil_iff] at e; omega
              have e1 : grA (tp l t) (w.take (i + 1)) = grA l (w.take (i + 1)) := by rw [gs, gs', hs, hgr]
              have es : (acc l (w.take (i + 1))).s = nxt l (acc l (w.take i)).s b' := by rw [ha]; rfl
              have es' : (acc (tp l t) (w.take (i + 1))).s = nxt (tp l t) (acc l (w.take i)).s b' := by rw [ha', ← hs]; rfl
              have hf0 := hA.inv.f0
              have hl1 := hgi1.len
              rw [es, en] at hl1
              simp only at hl1
              rw [if_neg (by omega)] at hl1
              have hrow : ∃ r, (grA l (w.take (i + 1)))[(acc l (w.take i)).s.f.toNat]? = some r := ⟨_, List.getElem?_eq_getElem (by omega)⟩
              obtain ⟨r, hr⟩ := hrow
              have hko := (ok_app l (s0 l) (w.take (i + 1)) (w.drop (i + 1))).1 (by rw [List.take_append_drop]; exact hk)
              have hko' := (ok_app (tp l t) (s0 (tp l t)) (w.take (i + 1)) (w.drop (i + 1))).1 (by rw [List.take_append_drop]; exact hk')
              obtain ⟨ys, y1, _, y3⟩ := grp_row hV (w.drop (i + 1)) (s := run l (s0 l) (w.take (i + 1))) (by rw [← acc_s]; exact hI1) hko.2 (by rw [← acc_s]; exact hgi1.len) hr
              have hg1' := ginv hVt (ok_pre hk' (i + 1))
              obtain ⟨zs, z1, z2, _⟩ := grp_row hVt (w.drop (i + 1)) (s := run (tp l t) (s0 (tp l t)) (w.take (i + 1))) (by rw [← acc_s]; exact hI1') hko'.2 (by rw [← acc_s]; exact hg1'.len) (by rw [e1]; exact hr)
              have g1 : grA l w = grp l (run l (s0 l) (w.take (i + 1))) (grA l (w.take (i + 1))) (w.drop (i + 1)) := by
                unfold grA; rw [← grp_app, List.take_append_drop]
              have g2 : grA (tp l t) w = grp (tp l t) (run (tp l t) (s0 (tp l t)) (w.take (i + 1))) (grA (tp l t) (w.take (i + 1))) (w.drop (i + 1)) := by
                unfold grA; rw [← grp_app, List.take_append_drop]
              rw [← g1] at y1
              rw [← g2, hg, y1] at z1
              have hyz : ys = zs := by simpa using z1
              have n1 : ys ≠ [] := y3 (by rw [← acc_s, es, en]; simp only; omega) hdne
              have n2 : zs = [] := z2 (by rw [← acc_s, es', en']; omega)
              exact n1 (hyz.trans n2)
          refine ⟨?_, fun k p p' hp1 hp2 => ?_, .inr (.inr (.inr (.inr hend)))⟩
          · rw [ha, ha']; simp only [stepA, hs]; exact le2_snoc h1 (by omega)
          · rw [ha] at hp1
            rw [ha'] at hp2
            simp only [stepA, hE, hs] at hp1 hp2
            rw [en] at hp1
            simp only at hp1
            rw [if_neg (by omega), List.append_nil] at hp1
            have hkl := (List.getElem?_eq_some_iff.1 hp1).1
            rw [List.getElem?_append_left hkl] at hp2
            rw [hp1] at hp2; exact Option.some.inj hp2
    · exact lastcase hl hE
    · have := hm.1; omega
    · have := hm'.1
      have e : (tp l t).fFrames = l.fFrames := rfl
      omega
    · omega

theorem taps_ok (l : Ref01Law) (sheet : List Int) (tap : Int) (htap : 0 ≤ tap ∧ tap ≤ 255) : law01FrameTaps 1000 l sheet tap = some true := by
  unfold law01FrameTaps
  simp only [ready_eq, wakes_ok, Option.bind_some]
  by_cases hr : V l ∧ sheet.length ≤ 40 ∧ Ok l (s0 l) sheet
  · obtain ⟨hV, hn, hk⟩ := hr
    have v7 := hV.t1; have v8 := hV.t2; have v4 := hV.p2
    rw [if_neg (by simp [hV, hn, hk])]
    have hnz : nz l.fTap = some () := by unfold nz; rw [if_neg (by omega)]
    rw [hnz, w64_id (n := tap) (by omega) (by omega)]
    simp only [Option.bind_some]
    have hk0 : 0 ≤ Int.tmod tap l.fTap := Int.tmod_nonneg _ htap.1
    have hk1 : Int.tmod tap l.fTap < l.fTap := Int.tmod_lt_of_pos _ (by omega)
    rw [w64_id (by omega) (by omega)]
    generalize ht : 1 + Int.tmod tap l.fTap = t
    have ht1 : 1 ≤ t := by omega
    have ht2 : t ≤ l.fTap := by omega
    have hVt : V (tp l t) := ⟨hV.f1, hV.f2, hV.p1, hV.p2, hV.b1, hV.b2, ht1, by show t ≤ l.fPins; omega⟩
    have h0 : flt l sheet = 0 := flt_ok.2 ⟨hV, hn, hk⟩
    have etp : (Ref01Law.mk l.fFrames l.fPins l.fBalls t) = tp l t := rfl
    simp only [law_eq, Option.bind_some, list_eq (show sheet.length ≤ 1000 by omega), read_eq l sheet (by omega), etp, read_eq (tp l t) sheet (by omega), h0, if_true]
    by_cases hk' : Ok (tp l t) (s0 (tp l t)) sheet
    · have h0' : flt (tp l t) sheet = 0 := flt_ok.2 ⟨hVt, hn, hk'⟩
      simp only [h0', if_true]
      rw [if_neg (by decide), if_neg (by decide)]
      simp only [Option.bind_some]
      rw [if_neg (by decide), if_neg (by decide)]
      simp only [Option.bind_some]
      by_cases hfl : (gameA l sheet).fFrames.length = (gameA (tp l t) sheet).fFrames.length
      · rw [if_neg (by rw [hfl]; simp)]
        have hflen : (gameA l sheet).fFrames.length ≤ 11 := by have := frames_len hV hk (by omega) (i := sheet.length); rw [List.take_length] at this; exact this
        have hloop := loopN_rel (ι := Nat) (b := fun rec5 x => law01FrameTaps_b4 1000 (gameA l sheet) (gameA (tp l t) sheet) rec5 x) (fun j => (j : Int)) (fun _ => some true) (fun j => (gameA l sheet).fFrames.length - j)
          (fun j => j ≤ (gameA l sheet).fFrames.length ∧ (gameA l sheet).fFrames.take j = (gameA (tp l t) sheet).fFrames.take j) ?_ 1000 0 ⟨Nat.zero_le _, rfl⟩ (by omega)
        · exact hloop
        · rintro j rec ⟨hj, hpre⟩ ih
          try simp only at hj hpre ih ⊢
          unfold law01FrameTaps_b4
          by_cases hlt : j < (gameA l sheet).fFrames.length
          · have hlt' : j < (gameA (tp l t) sheet).fFrames.length := by omega
            have hx : (gameA l sheet).fFrames[j]? = some (gameA l sheet).fFrames[j] := by simp [hlt]
            have hy : (gameA (tp l t) sheet).fFrames[j]? = some (gameA (tp l t) sheet).fFrames[j] := by simp [hlt']
            have hrl : (gameA l sheet).fFrames[j].length ≤ 900 := by
              have := row_le (List.getElem_mem hlt)
              have e : (gameA l sheet).fFrames.flatten = sheet := (ginv hV hk).flat
              rw [e] at this; omega
            rw [if_pos (by simpa using hlt), idx_at hx, idx_at hy]
            simp only [Option.bind_some]
            rw [ints_eq _ _ hrl, wakes_ok]
            simp only [Option.bind_some]
            by_cases he : (gameA l sheet).fFrames[j] = (gameA (tp l t) sheet).fFrames[j]
            · rw [if_neg (by simp [he]), w64_id (by omega) (by omega)]
              have := ih (j + 1) ⟨by omega, by rw [List.take_succ_eq_append_getElem hlt, List.take_succ_eq_append_getElem hlt', hpre, he]⟩ (by omega)
              rw [show ((j : Int) + 1) = ((j + 1 : Nat) : Int) by omega]
              exact this
            · rw [if_pos (by simp [he])]
          · rw [if_neg (by simpa using hlt)]
            have hje : j = (gameA l sheet).fFrames.length := by omega
            have hgeq : (gameA (tp l t) sheet).fFrames = (gameA l sheet).fFrames := by
              rw [hje, List.take_length, hfl, List.take_length] at hpre
              exact hpre.symm
            have hgeq' : grA (tp l t) sheet = grA l sheet := hgeq
            obtain ⟨q1, q2, _⟩ := taps_all ht1 ht2 hV hk hk' hgeq' sheet.length (Nat.le_refl _)
            rw [List.take_length] at q1 q2
            have hcl : (gameA l sheet).fCounts.length ≤ 10 := by
              have h1 := cts_len (acc l sheet).cs (acc l sheet).E 0 0
              have h2 := E_le hV (ainv hV hk)
              show (cts _ 0 0 _).length ≤ 10
              omega
            unfold law01FrameTaps_k3
            have hl2 := loopN_rel (ι := Nat) (b := fun rec4 x => law01FrameTaps_b2 1000 (gameA l sheet) (gameA (tp l t) sheet) rec4 x) (fun j => (j : Int)) (fun _ => some true) (fun j => (gameA l sheet).fCounts.length - j)
              (fun j => j ≤ (gameA l sheet).fCounts.length) ?_ 1000 0 (Nat.zero_le _) (by omega)
            · exact hl2
            · intro i rec2 hi ih2
              try simp only at hi ih2 ⊢
              unfold law01FrameTaps_b2
              by_cases c1 : i < (gameA l sheet).fCounts.length
              · rw [if_pos (by simpa using c1)]
                simp only [Option.bind_some]
                by_cases c2 : i < (gameA (tp l t) sheet).fCounts.length
                · have hx : (gameA l sheet).fCounts[i]? = some (gameA l sheet).fCounts[i] := by simp [c1]
                  have hy : (gameA (tp l t) sheet).fCounts[i]? = some (gameA (tp l t) sheet).fCounts[i] := by simp [c2]
                  have hle := cts_le q1 (fr := 0) (Int.le_refl 0) q2 i _ _ hx hy
                  rw [if_pos (by simpa using c2), idx_at hx, idx_at hy]
                  simp only [Option.bind_some]
                  rw [if_neg (by rw [decide_eq_true_eq]; omega), w64_id (by omega) (by omega)]
                  have := ih2 (i + 1) (by omega) (by omega)
                  rw [show ((i : Int) + 1) = ((i + 1 : Nat) : Int) by omega]
                  exact this
                · rw [if_neg (by simpa using c2)]
                  unfold law01FrameTaps_k1
                  rw [wakes_ok]; rfl
              · rw [if_neg (by simpa using c1)]
                simp only [Option.bind_some]
                rw [if_neg (by decide)]
                unfold law01FrameTaps_k1
                rw [wakes_ok]; rfl
      · rw [if_pos (by simp; omega)]
    · have h1' : flt (tp l t) sheet = 10 := flt_law.2 ⟨hVt, hn, hk'⟩
      simp [h1']
  · rw [if_pos (by rw [decide_eq_false hr]; rfl)]
end Go.Proofs.Ythjafigloabfpaa
