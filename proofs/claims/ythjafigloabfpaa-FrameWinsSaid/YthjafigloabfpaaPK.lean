/-
  The document's search of all endings.
-/
import Derived.Test.YthjafigloabfpaaPJ
set_option linter.all false
namespace Go.Proofs.Ythjafigloabfpaa
open Go.Kp

/-- a worth that some ending has -/
inductive Rch (l : Ref01Law) : S → Int → Prop where
  | done {s : S} (h : s.f = l.fFrames) : Rch l s 0
  | step {s : S} {b k : Int} (hm : may l s b) (hb : 0 ≤ b) (h : Rch l (nxt l s b) k) : Rch l s (wor l s b + k)

theorem rch_bd {l : Ref01Law} (hV : V l) {s : S} {k : Int} (h : Rch l s k) : Inv2 l s → 0 ≤ k ∧ k ≤ G l s := by
  induction h with
  | done h => intro hi; exact ⟨Int.le_refl _, (G_bd hV hi).1⟩
  | @step s b k hm hb _ ih =>
    intro hi
    have h1 := ih (inv2_nxt hV hi hm.1 hm.2.2)
    have h2 := wor_bd hV hi.inv hm.2.2
    have hc := cnt_le hV hi.inv hm.2.2
    have h3 := (G_step hV hi hm.1 hc.1 hc.2).1
    have h3' : wor l s b + G l (nxt l s b) ≤ G l s := h3
    omega

theorem rch_ends {l : Ref01Law} (hV : V l) : ∀ (n : Nat) {s : S}, mu l s < n → Inv2 l s → Rch l s 0 ∧ Rch l s (G l s) := by
  intro n
  induction n with
  | zero => intro s h; omega
  | succ n ih =>
    intro s h hi
    by_cases hd : s.f = l.fFrames
    · have : G l s = 0 := by unfold G; rw [if_pos hd]
      rw [this]
      exact ⟨.done hd, .done hd⟩
    · have hf : s.f < l.fFrames := by have := hi.inv.f1; omega
      have hp := hi.inv.p0
      constructor
      · have hm : may l s 0 := ⟨hf, by omega, by omega⟩
        have hc := cnt_le hV hi.inv (b := 0) (by omega)
        have := mu_step hV hi.inv hf hc.1 hc.2
        have h1 := (ih (s := nxt l s 0) (by show mu l (nxtn l s _) < n; omega) (inv2_nxt hV hi hf (by omega))).1
        have h2 := Rch.step hm (Int.le_refl _) h1
        have hw : wor l s 0 = 0 := by unfold wor; rw [cnt_zero hV]; simp
        rw [hw] at h2
        exact h2
      · have hm : may l s s.p := ⟨hf, by omega, Int.le_refl _⟩
        have hc := cnt_le hV hi.inv (b := s.p) (Int.le_refl _)
        have := mu_step hV hi.inv hf hc.1 hc.2
        have h1 := (ih (s := nxt l s s.p) (by show mu l (nxtn l s _) < n; omega) (inv2_nxt hV hi hf (Int.le_refl _))).2
        have h2 := Rch.step hm (by omega) h1
        have hs : wor l s s.p + G l (nxt l s s.p) = G l s := (G_step hV hi hf hc.1 hc.2).2 (cnt_all hV hi.inv)
        rw [hs] at h2
        exact h2

def pad (o : List Bool) (m : Nat) : List Bool := o ++ List.replicate (m - o.length) false
theorem pad_len (o : List Bool) (m : Nat) : (pad o m).length = max o.length m := by simp [pad]; omega
theorem pad_true (o : List Bool) (m j : Nat) : (pad o m)[j]? = some true ↔ o[j]? = some true := by
  unfold pad
  by_cases h : j < o.length
  · rw [List.getElem?_append_left h]
  · rw [List.getElem?_append_right (by omega), List.getElem?_replicate, List.getElem?_eq_none (by omega)]
    split <;> simp

theorem b2_eq (n k : Nat) (o : List Bool) (ho : o.length ≤ 450) (hnk : n + k ≤ 450) :
    loopN (fun rec159 x => ref01Rest_b2 2097152 (n : Int) (k : Int) rec159 x) 2097152 o = some (pad o (n + k + 1)) := by
  have h := loopN_rel (ι := Nat) (b := fun rec159 x => ref01Rest_b2 2097152 (n : Int) (k : Int) rec159 x) (fun j => o ++ List.replicate j false) (fun _ => some (pad o (n + k + 1))) (fun j => n + k + 1 - o.length - j)
    (fun j => j ≤ n + k + 1 - o.length) ?_ 2097152 0 (Nat.zero_le _) (by omega)
  · simpa using h
  · intro j rec hj ih
    try simp only at hj ih ⊢
    unfold ref01Rest_b2
    rw [w64_id (by omega) (by omega)]
    by_cases hlt : j < n + k + 1 - o.length
    · rw [if_pos (by simp; omega)]
      unfold ref01Rest_k1
      rw [app_ok (by simp; omega)]
      simp -implicitDefEqProofs only [Option.bind_some]
      have := ih (j + 1) (by omega) (by omega)
      rw [List.append_assoc, ← List.replicate_succ']
      exact this
    · have : j = n + k + 1 - o.length := by omega
      subst this
      rw [if_neg (by simp; omega)]
      rfl

def stp (n k : Nat) (x : Bool) (o : List Bool) : List Bool := (pad o (n + k + 1)).set (n + k) ((pad o (n + k + 1))[n + k]?.getD false || x)
def mrg (n : Nat) : Nat → List Bool → List Bool → List Bool
  | _, [], o => o
  | k, x :: r, o => mrg n (k + 1) r (stp n k x o)

theorem stp_spec (n k : Nat) (x : Bool) (o : List Bool) : (stp n k x o).length = max o.length (n + k + 1) ∧ ∀ j, (stp n k x o)[j]? = some true ↔ o[j]? = some true ∨ (j = n + k ∧ x = true) := by
  unfold stp
  refine ⟨by rw [List.length_set, pad_len], fun j => ?_⟩
  by_cases h : j = n + k
  · subst h
    have hl : n + k < (pad o (n + k + 1)).length := by rw [pad_len]; omega
    rw [List.getElem?_set_self hl]
    have hp := pad_true o (n + k + 1) (n + k)
    cases hq : (pad o (n + k + 1))[n + k]? with
    | none => rw [List.getElem?_eq_none_iff] at hq; omega
    | some v =>
      rw [hq] at hp
      cases v <;> cases x <;> simp_all
  · rw [List.getElem?_set_ne (by omega), pad_true]
    simp [h]

theorem mrg_spec (n : Nat) : ∀ (r : List Bool) (k : Nat) (o : List Bool), (mrg n k r o).length = max o.length (if r = [] then 0 else n + k + r.length) ∧
    ∀ j, (mrg n k r o)[j]? = some true ↔ o[j]? = some true ∨ ∃ i, j = n + k + i ∧ r[i]? = some true
  | [], k, o => by simp [mrg]
  | x :: r, k, o => by
    obtain ⟨h1, h2⟩ := stp_spec n k x o
    obtain ⟨h3, h4⟩ := mrg_spec n r (k + 1) (stp n k x o)
    refine ⟨?_, fun j => ?_⟩
    · show (mrg n (k + 1) r (stp n k x o)).length = _
      rw [h3, h1]
      split
      · rename_i e; subst e; simp
      · simp; omega
    · show (mrg n (k + 1) r (stp n k x o))[j]? = some true ↔ _
      rw [h4, h2]
      constructor
      · rintro ((h | ⟨h, hx⟩) | ⟨i, h, hr⟩)
        · exact .inl h
        · exact .inr ⟨0, by omega, by simp [hx]⟩
        · exact .inr ⟨i + 1, by omega, by simpa using hr⟩
      · rintro (h | ⟨i, h, hr⟩)
        · exact .inl (.inl h)
        · cases i with
          | zero => exact .inl (.inr ⟨by omega, by simpa using hr⟩)
          | succ i => exact .inr ⟨i, by omega, by simpa using hr⟩

theorem mrg_len_mono (n : Nat) (r : List Bool) (k : Nat) (o : List Bool) : o.length ≤ (mrg n k r o).length := by rw [(mrg_spec n r k o).1]; omega

theorem b3_eq (n : Nat) (r : List Bool) (m : List (Ref01Tail × List Bool)) (o : List Bool) (ho : o.length ≤ 450) (hnr : n + r.length ≤ 450) :
    loopN (fun rec155 x => ref01Rest_b3 2097152 (n : Int) r m rec155 x.1 x.2) 2097152 (0, o) = some (m, mrg n 0 r o) := by
  have h := loopN_rel (ι := Nat × List Bool) (b := fun rec155 x => ref01Rest_b3 2097152 (n : Int) r m rec155 x.1 x.2) (fun i => ((i.1 : Int), i.2)) (fun i => some (m, mrg n i.1 (r.drop i.1) i.2)) (fun i => r.length - i.1)
    (fun i => i.1 ≤ r.length ∧ i.2.length ≤ 450) ?_ 2097152 (0, o) ⟨Nat.zero_le _, ho⟩ (by simp only; omega)
  · exact h
  · rintro ⟨k, o⟩ rec ⟨hk, ho⟩ ih
    try simp only at hk ho ih ⊢
    unfold ref01Rest_b3
    by_cases hlt : k < r.length
    · have hx : r[k]? = some r[k] := by simp [hlt]
      rw [if_pos (by simpa using hlt), b2_eq n k o ho (by omega), w64_id (n := (n : Int) + (k : Int)) (by omega) (by omega), w64_id (n := (k : Int) + 1) (by omega) (by omega), show ((n : Int) + (k : Int)) = ((n + k : Nat) : Int) by omega]
      simp -implicitDefEqProofs only [Option.bind_some]
      have hl : n + k < (pad o (n + k + 1)).length := by rw [pad_len]; omega
      have hy : (pad o (n + k + 1))[n + k]? = some (pad o (n + k + 1))[n + k] := by simp [hl]
      rw [idx_at hy, idx_at hx]
      simp -implicitDefEqProofs only [Option.bind_some, Int.toNat_natCast]
      have e : (if (pad o (n + k + 1))[n + k] = true then some ((pad o (n + k + 1)).set (n + k) true) else some ((pad o (n + k + 1)).set (n + k) r[k])) = some (stp n k r[k] o) := by
        unfold stp
        rw [hy]
        cases (pad o (n + k + 1))[n + k] <;> simp
      rw [e]
      simp -implicitDefEqProofs only [Option.bind_some]
      have := ih (k + 1, stp n k r[k] o) ⟨by simp only; omega, by simp only; rw [(stp_spec n k r[k] o).1]; omega⟩ (by simp only; omega)
      simp only at this
      rw [show ((k : Int) + 1) = ((k + 1 : Nat) : Int) by omega, this, List.drop_eq_getElem_cons hlt]
      rfl
    · have : k = r.length := by omega
      subst this
      rw [if_neg (by simp), List.drop_length]
      rfl

theorem mget_mput {K V : Type} [DecidableEq K] (m : List (K × V)) (k : K) (v : V) (k' : K) : mget (mput m k v) k' = if k' = k then some v else mget m k' := by
  induction m with
  | nil => simp [mput, mget]
  | cons p m ih =>
    unfold mput
    by_cases h : k = p.1
    · rw [if_pos h]
      simp only [mget]
      by_cases h2 : k' = k
      · simp [h2]
      · rw [if_neg h2, if_neg h2, if_neg (by rw [← h]; exact h2)]
    · rw [if_neg h]
      simp only [mget, ih]
      by_cases h2 : k' = p.1
      · rw [if_pos h2, if_pos h2, if_neg (by rw [h2]; exact fun e => h e.symm)]
      · rw [if_neg h2, if_neg h2]

theorem tail_inj {s s' : S} (h : s.tail = s'.tail) : s = s' := by
  obtain ⟨f, h1, p, fr, nd, a, c⟩ := s
  obtain ⟨f', h1', p', fr', nd', a', c'⟩ := s'
  simp only [S.tail, S.stand, Ref01Tail.mk.injEq, Ref01Stand.mk.injEq] at h
  obtain ⟨⟨rfl, rfl, rfl, rfl, rfl⟩, rfl, rfl⟩ := h
  rfl

def Good (l : Ref01Law) (s : S) (o : List Bool) : Prop := (o.length : Int) = G l s + 1 ∧ ∀ j : Nat, o[j]? = some true ↔ Rch l s j
def MapOK (l : Ref01Law) (m : List (Ref01Tail × List Bool)) : Prop := ∀ s o, Inv2 l s → mget m s.tail = some o → Good l s o

structure Part (l : Ref01Law) (s : S) (v : Int) (o : List Bool) : Prop where
  le : (o.length : Int) ≤ G l s + 1
  ge : ∀ b, 0 ≤ b → b < v → b ≤ s.p → wor l s b + G l (nxt l s b) + 1 ≤ o.length
  tr : ∀ j : Nat, o[j]? = some true ↔ ∃ b k, 0 ≤ b ∧ b < v ∧ b ≤ s.p ∧ Rch l (nxt l s b) k ∧ (j : Int) = wor l s b + k

theorem part_step {l : Ref01Law} (hV : V l) {s : S} (hi : Inv2 l s) (hf : s.f < l.fFrames) {v : Int} (hv0 : 0 ≤ v) (hvp : v ≤ s.p) {o r : List Bool} (hp : Part l s v o) (hg : Good l (nxt l s v) r) :
    Part l s (v + 1) (mrg (wor l s v).toNat 0 r o) := by
  have hw := wor_bd hV hi.inv hvp
  have hc := cnt_le hV hi.inv hvp
  have hs := (G_step hV hi hf hc.1 hc.2).1
  have hs' : wor l s v + G l (nxt l s v) ≤ G l s := hs
  obtain ⟨m1, m2⟩ := mrg_spec (wor l s v).toNat r 0 o
  have hg0 := (G_bd hV (inv2_nxt hV hi hf hvp)).1
  have hrl := hg.1
  have hrne : r ≠ [] := by intro e; rw [e] at hrl; simp at hrl; omega
  rw [if_neg hrne] at m1
  have hple := hp.le
  refine ⟨by rw [m1]; omega, fun b h0 h1 h2 => ?_, fun j => ?_⟩
  · rw [m1]
    by_cases h : b = v
    · subst h; omega
    · have := hp.ge b h0 (by omega) h2; omega
  · rw [m2, hp.tr]
    constructor
    · rintro (⟨b, k, h1, h2, h3, h4, h5⟩ | ⟨i, h1, h2⟩)
      · exact ⟨b, k, h1, by omega, h3, h4, h5⟩
      · exact ⟨v, i, hv0, by omega, hvp, (hg.2 i).1 h2, by omega⟩
    · rintro ⟨b, k, h1, h2, h3, h4, h5⟩
      by_cases h : b = v
      · subst h
        have hk := (rch_bd hV h4 (inv2_nxt hV hi hf hvp)).1
        refine .inr ⟨k.toNat, by omega, (hg.2 _).2 ?_⟩
        rw [Int.toNat_of_nonneg hk]; exact h4
      · exact .inl ⟨b, k, h1, by omega, h3, h4, h5⟩

theorem b4_ex {l : Ref01Law} (hV : V l) {s : S} (hi : Inv2 l s) (hf : s.f < l.fFrames) (rec1 : (Ref01Law × Ref01Tail × List (Ref01Tail × List Bool)) → Option (List Bool × List (Ref01Tail × List Bool)))
    (hrec : ∀ s', Inv2 l s' → mu l s' < mu l s → ∀ m, MapOK l m → ∃ o m', rec1 (l, s'.tail, m) = some (o, m') ∧ Good l s' o ∧ MapOK l m') :
    ∀ (n : Nat) (v : Int) (m : List (Ref01Tail × List Bool)) (o : List Bool), 0 ≤ v → v ≤ s.p + 1 → (s.p + 1 - v).toNat < n → MapOK l m → Part l s v o →
      ∃ m' o', loopN (fun rec133 x => ref01Rest_b4 2097152 rec1 l s.tail rec133 x.1 x.2.1 x.2.2) n (v, m, o) = some (m', o') ∧ MapOK l m' ∧ Part l s (s.p + 1) o' := by
  intro n
  induction n with
  | zero => intro v m o _ _ h; omega
  | succ n ih =>
    intro v m o hv0 hv1 hlt hm hp
    have step : ∀ rec, (v ≤ s.p → ∃ m2 o2, MapOK l m2 ∧ Part l s (v + 1) o2 ∧ ref01Rest_b4 2097152 rec1 l s.tail rec v m o = rec (v + 1, m2, o2)) ∧ (¬ v ≤ s.p → ref01Rest_b4 2097152 rec1 l s.tail rec v m o = some (m, o)) := by
      intro rec
      unfold ref01Rest_b4
      have es : s.tail.fStand.fStanding = s.p := rfl
      rw [es]
      refine ⟨fun hle => ?_, fun hle => by rw [if_neg (by simpa using hle)]⟩
      rw [if_pos (by simpa using hle), throwX_eq hV hi.inv hf hle]
      simp -implicitDefEqProofs only [Option.bind_some]
      have hc := cnt_le hV hi.inv hle
      have hw := wor_bd hV hi.inv hle
      obtain ⟨r, m2, h1, h2, h3⟩ := hrec (nxt l s v) (inv2_nxt hV hi hf hle) (mu_step hV hi.inv hf hc.1 hc.2) m hm
      rw [h1]
      simp -implicitDefEqProofs only [Option.bind_some]
      have hg2 := G_bd hV (inv2_nxt hV hi hf hle)
      have hg3 := G_bd hV hi
      have hr := h2.1
      have hpl := hp.le
      have hb3 := b3_eq (wor l s v).toNat r m2 o (by omega) (by omega)
      rw [Int.toNat_of_nonneg hw.1] at hb3
      rw [hb3]
      simp -implicitDefEqProofs only [Option.bind_some]
      have hpp := hi.inv.p1
      have := hV.p2
      rw [w64_id (by omega) (by omega)]
      exact ⟨m2, _, h3, part_step hV hi hf hv0 hle hp h2, rfl⟩
    obtain ⟨s1, s2⟩ := step (loopN (fun rec133 x => ref01Rest_b4 2097152 rec1 l s.tail rec133 x.1 x.2.1 x.2.2) n)
    by_cases hle : v ≤ s.p
    · obtain ⟨m2, o2, h1, h2, h3⟩ := s1 hle
      obtain ⟨m', o', q1, q2, q3⟩ := ih (v + 1) m2 o2 (by omega) (by omega) (by omega) h1 h2
      exact ⟨m', o', by show ref01Rest_b4 2097152 rec1 l s.tail _ v m o = _; rw [h3, q1], q2, q3⟩
    · have : v = s.p + 1 := by omega
      subst this
      exact ⟨m, o, s2 hle, hm, hp⟩

theorem rest_ex {l : Ref01Law} (hV : V l) : ∀ (n : Nat) (s : S), Inv2 l s → mu l s < n → ∀ m, MapOK l m →
    ∃ o m', loopN (fun rr x => ref01Rest_f 2097152 rr x.1 x.2.1 x.2.2) n (l, s.tail, m) = some (o, m') ∧ Good l s o ∧ MapOK l m' := by
  intro n
  induction n with
  | zero => intro s _ h; omega
  | succ n ih =>
    intro s hi hlt m hm
    have step : ∀ rec1, (∀ s', Inv2 l s' → mu l s' < mu l s → ∀ m, MapOK l m → ∃ o m', rec1 (l, s'.tail, m) = some (o, m') ∧ Good l s' o ∧ MapOK l m') →
        ∃ o m', ref01Rest_f 2097152 rec1 l s.tail m = some (o, m') ∧ Good l s o ∧ MapOK l m' := by
      intro rec1 hrec
      unfold ref01Rest_f
      have ef : s.tail.fStand.fFrame = s.f := rfl
      rw [ef]
      by_cases hd : s.f = l.fFrames
      · rw [if_pos (by simpa using hd)]
        refine ⟨_, _, rfl, ⟨?_, fun j => ?_⟩, hm⟩
        · unfold G; rw [if_pos hd]; rfl
        · constructor
          · intro h
            cases j with
            | zero => exact .done hd
            | succ j => simp at h
          · intro h
            have hb := rch_bd hV h hi
            have hg : G l s = 0 := by unfold G; rw [if_pos hd]
            have : j = 0 := by omega
            subst this; rfl
      · rw [if_neg (by simpa using hd)]
        have hf : s.f < l.fFrames := by have := hi.inv.f1; omega
        unfold mgt
        simp -implicitDefEqProofs only [Option.bind_some]
        cases hget : mget m s.tail with
        | some o => exact ⟨o, m, by simp, hm s o hi hget, hm⟩
        | none =>
          simp only [Option.isSome_none, Bool.false_eq_true, if_false]
          have hp0 := hi.inv.p0
          have hp1 := hi.inv.p1
          have := hV.p2
          have hpart : Part l s 0 [] := ⟨by have := (G_bd hV hi).1; simp; omega, fun b h1 h2 => by omega, fun j => by
            constructor
            · intro h; simp at h
            · rintro ⟨b, k, h1, h2, _⟩; omega⟩
          obtain ⟨m', o', q1, q2, q3⟩ := b4_ex hV hi hf rec1 hrec 2097152 0 m [] (Int.le_refl _) (by omega) (by omega) hm hpart
          rw [q1]
          simp -implicitDefEqProofs only [Option.bind_some]
          have hgood : Good l s o' := by
            have hw := wor_bd hV hi.inv (b := s.p) (Int.le_refl _)
            have hc := cnt_le hV hi.inv (b := s.p) (Int.le_refl _)
            have hs : wor l s s.p + G l (nxt l s s.p) = G l s := (G_step hV hi hf hc.1 hc.2).2 (cnt_all hV hi.inv)
            have h1 := q3.ge s.p (by omega) (by omega) (Int.le_refl _)
            have h2 := q3.le
            refine ⟨by omega, fun j => ?_⟩
            rw [q3.tr]
            constructor
            · rintro ⟨b, k, h1, h2, h3, h4, h5⟩
              rw [h5]
              exact .step ⟨hf, by omega, h3⟩ h1 h4
            · intro h
              generalize hj : (j : Int) = jj at h
              cases h with
              | done h => exact absurd h hd
              | @step _ b k hm2 hb h => exact ⟨b, k, hb, by have := hm2.2.2; omega, hm2.2.2, h, rfl⟩
          refine ⟨o', _, rfl, hgood, fun s' o hi' hg => ?_⟩
          rw [mget_mput] at hg
          split at hg
          · rename_i e
            cases hg
            rw [tail_inj e]; exact hgood
          · exact q2 s' o hi' hg
    obtain ⟨o, m', h1, h2, h3⟩ := step (loopN (fun rr x => ref01Rest_f 2097152 rr x.1 x.2.1 x.2.2) n) (fun s' hi' hlt' m hm => ih s' hi' (by omega) m hm)
    exact ⟨o, m', h1, h2, h3⟩

/-- the final counts, as they are listed -/
def fins (n : Int) : Nat → List Bool → List Int
  | _, [] => []
  | k, true :: o => (n + k) :: fins n (k + 1) o
  | k, false :: o => fins n (k + 1) o
theorem fins_mem (n : Int) : ∀ (o : List Bool) (k : Nat) (x : Int), x ∈ fins n k o ↔ ∃ i : Nat, o[i]? = some true ∧ x = n + k + i
  | [], k, x => by simp [fins]
  | b :: o, k, x => by
    have ih := fins_mem n o (k + 1) x
    constructor
    · intro h
      cases b with
      | true =>
        rcases List.mem_cons.1 h with rfl | h
        · exact ⟨0, rfl, by simp⟩
        · obtain ⟨i, h1, h2⟩ := ih.1 h
          exact ⟨i + 1, by simpa using h1, by omega⟩
      | false =>
        obtain ⟨i, h1, h2⟩ := ih.1 h
        exact ⟨i + 1, by simpa using h1, by omega⟩
    · rintro ⟨i, h1, h2⟩
      cases i with
      | zero => simp at h1; subst h1; rw [h2]; simp [fins]
      | succ i =>
        have : x ∈ fins n (k + 1) o := ih.2 ⟨i, by simpa using h1, by omega⟩
        cases b with
        | true => exact List.mem_cons_of_mem _ this
        | false => exact this
theorem fins_app (n : Int) : ∀ (o o' : List Bool) (k : Nat), fins n k (o ++ o') = fins n k o ++ fins n (k + o.length) o'
  | [], o', k => by simp [fins]
  | b :: o, o', k => by
    have ih := fins_app n o o' (k + 1)
    have e : k + (b :: o).length = k + 1 + o.length := by simp; omega
    rw [e]
    cases b with
    | true => simp [fins, ih]
    | false => simp [fins, ih]
theorem fins_len (n : Int) : ∀ (o : List Bool) (k : Nat), (fins n k o).length ≤ o.length
  | [], k => by simp [fins]
  | b :: o, k => by
    have := fins_len n o (k + 1)
    cases b <;> simp [fins] <;> omega

theorem finals_loop (n : Int) (hn0 : 0 ≤ n) (hn : n ≤ 5000) (o : List Bool) (ho : o.length ≤ 450) : loopN (fun rec3 x => ref01Finals_b1 2097152 n o rec3 x.1 x.2) 2097152 (0, []) = some (fins n 0 o) := by
  have h := loopN_rel (ι := Nat) (b := fun rec3 x => ref01Finals_b1 2097152 n o rec3 x.1 x.2) (fun i => ((i : Int), fins n 0 (o.take i))) (fun _ => some (fins n 0 o)) (fun i => o.length - i) (fun i => i ≤ o.length) ?_ 2097152 0 (Nat.zero_le _) (by omega)
  · exact h
  · intro i rec hi ih
    try simp only at hi ih ⊢
    unfold ref01Finals_b1
    by_cases hlt : i < o.length
    · have hx : o[i]? = some o[i] := by simp [hlt]
      rw [if_pos (by simpa using hlt), idx_at hx]
      simp -implicitDefEqProofs only [Option.bind_some]
      have := ih (i + 1) (by omega) (by omega)
      rw [List.take_succ_eq_append_getElem hlt, fins_app] at this
      have hl := fins_len n (o.take i) 0
      rw [List.length_take] at hl
      have hlt2 : 0 + (o.take i).length = i := by simp; omega
      rw [hlt2] at this
      rw [w64_id (n := (i : Int) + 1) (by omega) (by omega), show ((i : Int) + 1) = ((i + 1 : Nat) : Int) by omega]
      cases hb : o[i] with
      | true =>
        rw [hb] at this
        simp only [if_true]
        rw [w64_id (by omega) (by omega), app1_ok (by omega)]
        simp -implicitDefEqProofs only [Option.bind_some]
        exact this
      | false =>
        rw [hb] at this
        simp only [Bool.false_eq_true, if_false, Option.bind_some]
        simpa [fins] using this
    · have : i = o.length := by omega
      subst this
      rw [if_neg (by simp), List.take_length]

section
variable {l : Ref01Law} (hV : V l) {sheet : List Int} (hk : Ok l (s0 l) sheet) (hn : sheet.length ≤ 90)
include hV hk hn

theorem finals_ex : ∃ o, ref01Finals 2097152 l sheet = some (fins (acc l sheet).tot 0 o) ∧ Good l (acc l sheet).s o := by
  have hA := ainv hV hk
  have hb := acc_tot_bd hV hk
  have hi := inv2_A hA
  have hm := mu_le hV hA.inv
  obtain ⟨o, m', h1, h2, h3⟩ := rest_ex hV 2097152 (acc l sheet).s hi (by omega) [] (fun s o _ h => by simp [mget] at h)
  refine ⟨o, ?_, h2⟩
  unfold ref01Finals
  rw [rsum_eq hV hk hn, tail_eq hV hk hn]
  simp -implicitDefEqProofs only [Option.bind_some]
  have h1' : ref01Rest 2097152 l (acc l sheet).s.tail [] = some (o, m') := h1
  rw [h1']
  simp -implicitDefEqProofs only [Option.bind_some]
  have hg := (G_bd hV hi).2
  have := h2.1
  rw [finals_loop _ hb.1 (by omega) o (by omega)]
  rfl

theorem rspan_eq : ref01Span 2097152 l sheet = some ⟨(acc l sheet).tot, (acc l sheet).tot + G l (acc l sheet).s⟩ := by
  have hA := ainv hV hk
  have hi := inv2_A hA
  obtain ⟨o, h1, h2⟩ := finals_ex hV hk hn
  have hg := G_bd hV hi
  have hmu := mu_le hV hA.inv
  obtain ⟨e1, e2⟩ := rch_ends hV 2097152 (s := (acc l sheet).s) (by omega) hi
  have hol := h2.1
  unfold ref01Span
  rw [h1]
  simp -implicitDefEqProofs only [Option.bind_some]
  generalize (acc l sheet).tot = n at *
  have t0 : o[0]? = some true := (h2.2 0).2 e1
  have tg : o[o.length - 1]? = some true := (h2.2 _).2 (by rw [show ((o.length - 1 : Nat) : Int) = G l (acc l sheet).s by omega]; exact e2)
  have hhead : idx (fins n 0 o) 0 = some n := by
    cases o with
    | nil => simp at t0
    | cons b o =>
      simp at t0
      subst t0
      have := idx_at (l := fins n 0 (true :: o)) (i := 0) (x := n) (by simp [fins])
      exact this
  have hlast : (fins n 0 o).getLast? = some (n + G l (acc l sheet).s) ∧ fins n 0 o ≠ [] := by
    have hne : o ≠ [] := by intro e; rw [e] at t0; simp at t0
    have hd := List.dropLast_concat_getLast hne
    have hlb : o.getLast hne = true := by
      rw [List.getLast_eq_getElem]
      rw [List.getElem?_eq_getElem (by omega)] at tg
      simpa using tg
    rw [← hd, fins_app, hlb]
    have : ((0 + o.dropLast.length : Nat) : Int) = G l (acc l sheet).s := by rw [List.length_dropLast]; omega
    simp only [fins]
    rw [this]
    simp
  have hll := fins_len n o 0
  have hl2 : idx (fins n 0 o) (((fins n 0 o).length : Int) - 1) = some (n + G l (acc l sheet).s) := by
    have hpos : 0 < (fins n 0 o).length := List.length_pos_iff.2 hlast.2
    have h5 := hlast.1
    rw [List.getLast?_eq_getElem?] at h5
    rw [show (((fins n 0 o).length : Int) - 1) = (((fins n 0 o).length - 1 : Nat) : Int) by omega]
    exact idx_at h5
  rw [hhead, w64_id (by omega) (by omega), hl2]
  rfl
end
end Go.Proofs.Ythjafigloabfpaa
