/-
  Sheets that go on: what stays of the counts; the end of a game; the words that end one.
-/
import Derived.Test.YthbifolpofillaaPH
set_option linter.all false
namespace Go.Proofs.Ythbifolpofillaa
open Go.Kp

theorem len_fold {l : Ref01Law} (hV : V l) : ∀ (bs : List Int) {s : S} {n : Nat}, Inv l s → Ok l s bs → (n : Int) ≤ 3 * s.f + s.h → ((n + bs.length : Nat) : Int) ≤ 3 * (run l s bs).f + (run l s bs).h
  | [], s, n, _, _, h => by simpa [run] using h
  | b :: bs, s, n, hi, hk, h => by
    have hc := cnt_le hV hi hk.1.2.2
    obtain ⟨hF1, hF2, _⟩ := nxtn_f hV hi hk.1.1 hc.1 hc.2
    have hh : s.h ≤ 2 := by have := hi.hn; have := hi.nd; have := hV.b2; omega
    have h1 : ((n + 1 : Nat) : Int) ≤ 3 * (nxt l s b).f + (nxt l s b).h := by
      unfold nxt
      by_cases hcl : s.f < (nxtn l s (cnt l s b)).f
      · obtain ⟨q1, q2, _⟩ := hF1 hcl; omega
      · obtain ⟨q1, q2, _⟩ := hF2 hcl; omega
    have h2 := len_fold hV bs (inv_nxt hV hi hk.1.1 hk.1.2.2) hk.2 h1
    simp only [run, List.length_cons]
    omega
theorem ok_len {l : Ref01Law} (hV : V l) {bs : List Int} (hk : Ok l (s0 l) bs) : bs.length ≤ 30 := by
  have h := len_fold hV bs (n := 0) (inv0 hV) hk (by simp [s0])
  have hi := inv_run hV (inv0 hV) hk
  have := hi.f1; have := hi.dn; have := hV.f2; have := hi.hn; have := hi.nd; have := hV.b2
  by_cases hd : (run l (s0 l) bs).f = l.fFrames
  · have := hi.dn hd; omega
  · omega

theorem cts_mono {cs ys : List Int} : ∀ (E E2 : List (Nat × Nat)) (fr : Nat) (up : Int), ∃ zs, cts (cs ++ ys) fr up (E ++ E2) = cts cs fr up E ++ zs
  | [], E2, fr, up => ⟨_, rfl⟩
  | p :: E, E2, fr, up => by
    simp only [List.cons_append, cts]
    by_cases h : cs.length < p.1 + p.2
    · rw [if_pos h]; exact ⟨_, rfl⟩
    · rw [if_neg h, if_neg (by simp; omega), List.take_append_of_le_length (by omega)]
      obtain ⟨zs, hz⟩ := cts_mono (cs := cs) (ys := ys) E E2 p.1 (up + sm ((cs.take (p.1 + p.2)).drop fr))
      rw [hz]
      exact ⟨zs, rfl⟩

def incr : Nat → List (Nat × Nat) → Prop
  | _, [] => True
  | a, p :: E => a < p.1 ∧ incr p.1 E
theorem incr_of {l : Ref01Law} {a : A} (hA : AInv l a) : ∀ (n k : Nat), k + n = a.E.length → incr (starts a.E k) (a.E.drop k) := by
  intro n
  induction n with
  | zero => intro k h; rw [List.drop_eq_nil_of_le (by omega)]; trivial
  | succ n ih =>
    intro k h
    have hlt : k < a.E.length := by omega
    have hp : a.E[k]? = some a.E[k] := by simp [hlt]
    obtain ⟨_, _, _, _, _, h4, _⟩ := hA.sc k _ hp
    rw [List.drop_eq_getElem_cons hlt]
    refine ⟨h4, ?_⟩
    have := ih (k + 1) (by omega)
    rwa [starts_succ hp] at this
theorem incr_A {l : Ref01Law} {a : A} (hA : AInv l a) : incr 0 a.E := by
  have := incr_of hA a.E.length 0 (by omega)
  rwa [starts_zero, List.drop_zero] at this
theorem incr_len : ∀ {E : List (Nat × Nat)} {a n : Nat}, incr a E → (∀ p ∈ E, p.1 ≤ n) → a ≤ n → a + E.length ≤ n
  | [], a, n, _, _, h => by simpa using h
  | p :: E, a, n, hi, hb, h => by
    have := incr_len hi.2 (fun q hq => hb q (by simp [hq])) (hb p (by simp))
    have := hi.1
    simp; omega
theorem cts_ge {cs : List Int} : ∀ {E : List (Nat × Nat)} {fr : Nat} {up : Int}, incr fr E → (∀ p ∈ E, p.1 ≤ cs.length ∧ p.2 ≤ 2) → E.length ≤ (cts cs fr up E).length + 2
  | [], _, _, _, _ => by simp
  | p :: E, fr, up, hi, hb => by
    unfold cts
    split
    · rename_i h
      have h1 := hb p (by simp)
      have h2 := incr_len hi.2 (fun q hq => (hb q (by simp [hq])).1) h1.1
      simp; omega
    · have := cts_ge (up := up + sm ((cs.take (p.1 + p.2)).drop fr)) hi.2 fun q hq => hb q (by simp [hq])
      simp; omega

theorem cts_full {cs : List Int} : ∀ {E : List (Nat × Nat)} {fr : Nat} {up : Int}, (∀ p ∈ E, ¬ cs.length < p.1 + p.2) → (cts cs fr up E).length = E.length
  | [], _, _, _ => rfl
  | p :: E, fr, up, h => by
    unfold cts
    rw [if_neg (h p (by simp)), List.length_cons, List.length_cons, cts_full fun q hq => h q (by simp [hq])]

def lastU (up : Int) (o : List Int) : Int := match o.getLast? with | some x => x | none => up
theorem lastU_cons (up x : Int) (o : List Int) : lastU up (x :: o) = lastU x o := by
  cases o with
  | nil => rfl
  | cons y o => simp [lastU, List.getLast?_cons_cons, List.getLast?_cons]
def lastF (fr : Nat) (E : List (Nat × Nat)) : Nat := match E.getLast? with | some p => p.1 | none => fr
theorem lastF_cons (fr : Nat) (p : Nat × Nat) (E : List (Nat × Nat)) : lastF fr (p :: E) = lastF p.1 E := by
  cases E with
  | nil => rfl
  | cons q E => simp [lastF, List.getLast?_cons_cons, List.getLast?_cons]
theorem lastF_ge : ∀ {E : List (Nat × Nat)} {fr : Nat}, incr fr E → fr ≤ lastF fr E
  | [], _, _ => Nat.le_refl _
  | p :: E, fr, h => by rw [lastF_cons]; have := lastF_ge h.2; have := h.1; omega
theorem lastF_le : ∀ {E : List (Nat × Nat)} {fr n : Nat}, (∀ p ∈ E, p.1 ≤ n) → fr ≤ n → lastF fr E ≤ n
  | [], _, _, _, h => h
  | p :: E, fr, n, h, _ => by rw [lastF_cons]; exact lastF_le (fun q hq => h q (by simp [hq])) (h p (by simp))

theorem cts_last {cs : List Int} : ∀ {E : List (Nat × Nat)} {fr : Nat} {up : Int}, incr fr E → (∀ p ∈ E, p.1 ≤ cs.length ∧ ¬ cs.length < p.1 + p.2) →
    lastU up (cts cs fr up E) = up + sm ((cs.take (lastF fr E)).drop fr) + sm (E.map (bsum cs))
  | [], fr, up, _, _ => by
    have : (cs.take fr).drop fr = [] := List.drop_eq_nil_of_le (by simp; omega)
    simp [cts, lastU, lastF, this, sm]
  | p :: E, fr, up, hi, hb => by
    have h1 := hb p (by simp)
    unfold cts
    rw [if_neg h1.2, lastU_cons, cts_last hi.2 fun q hq => hb q (by simp [hq]), lastF_cons]
    have e1 := split_sum (cs := cs) (x := fr) (y := p.1) (z := p.1 + p.2) (by have := hi.1; omega) (by omega) (by omega)
    have e2 := split_sum (cs := cs) (x := fr) (y := p.1) (z := lastF p.1 E) (by have := hi.1; omega) (lastF_ge hi.2) (lastF_le (fun q hq => (hb q (by simp [hq])).1) h1.1)
    simp only [List.map_cons, sm]
    unfold bsum
    omega

section
variable {l : Ref01Law} (hV : V l)
include hV

theorem E_le {a : A} (hA : AInv l a) : a.E.length ≤ 10 := by have := hA.fE; have := hA.inv.f1; have := hV.f2; omega

/-- the counts of a sheet are the first ones of those with a ball more, which has at most three more -/
theorem cts_step {xs : List Int} {b : Int} (hk : Ok l (s0 l) (xs ++ [b])) :
    ∃ zs, ctsA (acc l (xs ++ [b])) = ctsA (acc l xs) ++ zs ∧ zs.length ≤ 3 := by
  have hkx := ((ok_app l _ _ _).1 hk).1
  have hA := ainv hV hkx
  have hA2 := ainv hV hk
  rw [acc_snoc] at hA2 ⊢
  generalize acc l xs = a at *
  obtain ⟨zs, hz⟩ := cts_mono (cs := a.cs) (ys := [cnt l a.s b]) a.E (if a.s.f < (nxt l a.s b).f then [(a.cs.length + 1, bon l a.s (cnt l a.s b))] else []) 0 0
  refine ⟨zs, hz, ?_⟩
  have h1 := cts_ge (cs := a.cs) (up := 0) (incr_A hA) fun p hp => ⟨(hA.ent p hp).2.1, (hA.ent p hp).2.2⟩
  have h2 := cts_len (stepA l a b).cs (stepA l a b).E 0 0
  have h3 : (stepA l a b).E.length ≤ a.E.length + 1 := by unfold stepA; simp only; split <;> simp
  have h4 : (cts (stepA l a b).cs 0 0 (stepA l a b).E).length = (cts a.cs 0 0 a.E).length + zs.length := by
    have h5 := congrArg List.length hz
    rw [List.length_append] at h5
    exact h5
  omega

/-- a game that is done -/
theorem done_all {xs : List Int} (hk : Ok l (s0 l) xs) (hd : (acc l xs).s.f = l.fFrames) : ∀ p ∈ (acc l xs).E, ¬ (acc l xs).cs.length < p.1 + p.2 := by
  have hA := ainv hV hk
  have h1 := (hA.l3 hd).1
  rw [hA.one] at h1
  have h2 : (acc l xs).E.countP (fun p => decide ((acc l xs).cs.length < p.1 + p.2)) = 0 := by omega
  intro p hp
  have := List.countP_eq_zero.1 h2 p hp
  simpa using this
theorem done_len {xs : List Int} (hk : Ok l (s0 l) xs) (hd : (acc l xs).s.f = l.fFrames) : ((ctsA (acc l xs)).length : Int) = l.fFrames := by
  have hA := ainv hV hk
  unfold ctsA
  rw [cts_full (done_all hV hk hd), hA.fE, hd]
theorem done_last {xs : List Int} (hk : Ok l (s0 l) xs) (hd : (acc l xs).s.f = l.fFrames) : idx (ctsA (acc l xs)) (l.fFrames - 1) = some (acc l xs).tot := by
  have hA := ainv hV hk
  have hf1 := hV.f1
  have hlen := done_len hV hk hd
  have hl := cts_last (cs := (acc l xs).cs) (up := 0) (incr_A hA) fun p hp => ⟨(hA.ent p hp).2.1, done_all hV hk hd p hp⟩
  have hh := hA.inv.dn hd
  have hlF : lastF 0 (acc l xs).E = (acc l xs).cs.length := by
    have h1 := hA.len
    have : lastF 0 (acc l xs).E = lastE (acc l xs).E := rfl
    omega
  rw [hlF, List.take_length, List.drop_zero] at hl
  have hne : ctsA (acc l xs) ≠ [] := by intro e; rw [e] at hlen; simp at hlen; omega
  have e : idx (ctsA (acc l xs)) (l.fFrames - 1) = some (lastU 0 (ctsA (acc l xs))) := by
    unfold lastU
    rw [List.getLast?_eq_getElem?, show l.fFrames - 1 = (((ctsA (acc l xs)).length - 1 : Nat) : Int) by omega]
    have hlt : (ctsA (acc l xs)).length - 1 < (ctsA (acc l xs)).length := by omega
    have hx : (ctsA (acc l xs))[(ctsA (acc l xs)).length - 1]? = some (ctsA (acc l xs))[(ctsA (acc l xs)).length - 1] := by simp [hlt]
    rw [idx_at hx, hx]
  rw [e]
  unfold ctsA
  rw [hl, hA.tot]
  simp

theorem ended_step (words : List Int) (hw : ∀ x ∈ words, 0 ≤ x ∧ x ≤ 255) (rec : (Int × List Int × Ref01Stand) → Option (List Int)) {xs : List Int} (hk : Ok l (s0 l) xs) (k : Nat) (hk40 : k < 40) :
    ((acc l xs).s.f = l.fFrames → law01Ended_b1 2097152 l words rec (k : Int) xs (acc l xs).s.stand = some xs) ∧
    ((acc l xs).s.f ≠ l.fFrames → ∃ b, 0 ≤ b ∧ may l (acc l xs).s b ∧ law01Ended_b1 2097152 l words rec (k : Int) xs (acc l xs).s.stand = rec (((k + 1 : Nat) : Int), xs ++ [b], (acc l (xs ++ [b])).s.stand)) := by
  have hA := ainv hV hk
  have hlen := ok_len hV hk
  have hf1 := hA.inv.f1
  have hp0 := hA.inv.p0
  have hp1 := hA.inv.p1
  have hv2 := hV.p2
  have ef : (acc l xs).s.stand.fFrame = (acc l xs).s.f := rfl
  have es : (acc l xs).s.stand.fStanding = (acc l xs).s.p := rfl
  unfold law01Ended_b1
  rw [ef, es, if_pos (by simp; omega)]
  simp -implicitDefEqProofs only [Option.bind_some]
  refine ⟨fun hd => by rw [if_neg (by rw [hd]; simp)], fun hd => ?_⟩
  rw [if_pos (by simp; omega)]
  have hw1 : ∃ w, 0 ≤ w ∧ (if decide (0 < (words.length : Int)) = true then Option.bind (nz (words.length : Int)) fun _ => Option.bind (idx words (Int.tmod (k : Int) (words.length : Int))) fun x24 => some (w64 x24) else some 0) = some w := by
    by_cases hz : words.length = 0
    · exact ⟨0, by omega, by rw [if_neg (by rw [hz]; simp)]⟩
    · have h1 : 0 ≤ Int.tmod (k : Int) (words.length : Int) := Int.tmod_nonneg _ (by omega)
      have h2 : Int.tmod (k : Int) (words.length : Int) < words.length := Int.tmod_lt_of_pos _ (by omega)
      have h3 : (Int.tmod (k : Int) (words.length : Int)).toNat < words.length := by omega
      have hx : words[(Int.tmod (k : Int) (words.length : Int)).toNat]? = some words[(Int.tmod (k : Int) (words.length : Int)).toNat] := by simp [h3]
      have hb := hw _ (List.getElem_mem h3)
      have hi := idx_at hx
      rw [Int.toNat_of_nonneg h1] at hi
      refine ⟨_, hb.1, ?_⟩
      rw [if_pos (by simp; omega), hi]
      have : nz (words.length : Int) = some () := by unfold nz; rw [if_neg (by omega)]
      rw [this]
      simp -implicitDefEqProofs only [Option.bind_some]
      rw [w64_id (by omega) (by omega)]
  obtain ⟨w, hw0, hw2⟩ := hw1
  rw [hw2]
  simp -implicitDefEqProofs only [Option.bind_some]
  rw [w64_id (n := (acc l xs).s.p + 1) (by omega) (by omega)]
  have hnz : nz ((acc l xs).s.p + 1) = some () := by unfold nz; rw [if_neg (by omega)]
  rw [hnz]
  simp -implicitDefEqProofs only [Option.bind_some]
  have hb0 : 0 ≤ Int.tmod w ((acc l xs).s.p + 1) := Int.tmod_nonneg _ hw0
  have hb1 : Int.tmod w ((acc l xs).s.p + 1) < (acc l xs).s.p + 1 := Int.tmod_lt_of_pos _ (by omega)
  generalize Int.tmod w ((acc l xs).s.p + 1) = b at *
  have hm : may l (acc l xs).s b := ⟨by omega, by omega, by omega⟩
  refine ⟨b, hb0, hm, ?_⟩
  rw [app1_ok (by omega), throw_eq hV hA.inv hm.1 hm.2.2]
  simp -implicitDefEqProofs only [Option.bind_some]
  rw [w64_id (by omega) (by omega), acc_snoc]
  rfl

theorem ended_eq (words : List Int) (hw : ∀ x ∈ words, 0 ≤ x ∧ x ≤ 255) {sheet : List Int} (hk : Ok l (s0 l) sheet) :
    ∃ ext, law01Ended 2097152 l sheet words = some (sheet ++ ext) ∧ Ok l (s0 l) (sheet ++ ext) ∧ (acc l (sheet ++ ext)).s.f = l.fFrames ∧ ∀ b ∈ ext, 0 ≤ b := by
  have key : ∀ (n : Nat) (k : Nat) (xs : List Int), Ok l (s0 l) xs → k ≤ xs.length → 31 - xs.length < n →
      ∃ ext, loopN (fun rec3 x => law01Ended_b1 2097152 l words rec3 x.1 x.2.1 x.2.2) n ((k : Int), xs, (acc l xs).s.stand) = some (xs ++ ext) ∧ Ok l (s0 l) (xs ++ ext) ∧ (acc l (xs ++ ext)).s.f = l.fFrames ∧ ∀ b ∈ ext, 0 ≤ b := by
    intro n
    induction n with
    | zero => intro k xs _ _ h; omega
    | succ n ih =>
      intro k xs hx hkx hlt
      have hlen := ok_len hV hx
      have hlt2 : 31 - (xs.length + 1) < n := by omega
      obtain ⟨h1, h2⟩ := ended_step hV words hw (loopN (fun rec3 x => law01Ended_b1 2097152 l words rec3 x.1 x.2.1 x.2.2) n) hx k (by omega)
      by_cases hd : (acc l xs).s.f = l.fFrames
      · exact ⟨[], by rw [List.append_nil]; exact h1 hd, by rw [List.append_nil]; exact hx, by rw [List.append_nil]; exact hd, by simp⟩
      · obtain ⟨b, hb, hm, he⟩ := h2 hd
        have hx2 : Ok l (s0 l) (xs ++ [b]) := (ok_app l _ _ _).2 ⟨hx, by rw [← acc_s]; exact ⟨hm, trivial⟩⟩
        have hlen2 := ok_len hV hx2
        have hlb : (xs ++ [b]).length = xs.length + 1 := by simp
        obtain ⟨ext, e1, e2, e3, e4⟩ := ih (k + 1) (xs ++ [b]) hx2 (by rw [hlb]; exact Nat.succ_le_succ hkx) (by rw [hlb]; exact hlt2)
        refine ⟨b :: ext, ?_, ?_, ?_, ?_⟩
        · show law01Ended_b1 2097152 l words _ (k : Int) xs (acc l xs).s.stand = _
          rw [he, e1]; simp
        · simpa using e2
        · simpa using e3
        · intro x hx
          rcases List.mem_cons.1 hx with rfl | hx
          · exact hb
          · exact e4 x hx
  have hlen := ok_len hV hk
  obtain ⟨ext, e1, e2⟩ := key 2097152 0 sheet hk (Nat.zero_le _) (by omega)
  refine ⟨ext, ?_, e2⟩
  unfold law01Ended
  rw [list_eq (by omega), play_acc hV hk (by omega)]
  simp -implicitDefEqProofs only [Option.bind_some]
  have e1' : loopN (fun rec3 x => law01Ended_b1 2097152 l words rec3 x.1 x.2.1 x.2.2) 2097152 (0, sheet, (acc l sheet).s.stand) = some (sheet ++ ext) := e1
  rw [e1']
  rfl
end

end Go.Proofs.Ythbifolpofillaa
