/-
  The program's functions over a sheet that is a game's.
-/
import Derived.Test.YthbifolpofillaaPD
set_option linter.all false
namespace Go.Proofs.Ythbifolpofillaa
open Go.Kp

theorem ok_pre {l : Ref01Law} {s : S} {sheet : List Int} (hk : Ok l s sheet) (i : Nat) : Ok l s (sheet.take i) := by
  have := (ok_app l s (sheet.take i) (sheet.drop i)).1 (by rw [List.take_append_drop]; exact hk)
  exact this.1

theorem at_i {l : Ref01Law} {sheet : List Int} (hk : Ok l (s0 l) sheet) {i : Nat} (hi : i < sheet.length) :
    ∃ x, sheet[i]? = some x ∧ may l (acc l (sheet.take i)).s x ∧ acc l (sheet.take (i + 1)) = stepA l (acc l (sheet.take i)) x := by
  refine ⟨sheet[i], by simp [hi], ?_, ?_⟩
  · have h := (ok_app l (s0 l) (sheet.take i) (sheet.drop i)).1 (by rw [List.take_append_drop]; exact hk)
    rw [acc_s]
    have h2 := h.2
    rw [List.drop_eq_getElem_cons hi] at h2
    exact h2.1
  · rw [List.take_succ_eq_append_getElem hi, acc_snoc]

theorem acc_len (l : Ref01Law) (bs : List Int) : (acc l bs).cs.length = bs.length := by
  have : ∀ (bs : List Int) (a : A), (bs.foldl (stepA l) a).cs.length = a.cs.length + bs.length := by
    intro bs
    induction bs with
    | nil => intro a; rfl
    | cons b bs ih => intro a; rw [List.foldl_cons, ih]; simp [stepA]; omega
  rw [acc, this]; simp [acc0]

theorem wor_bd {l : Ref01Law} (hV : V l) {s : S} (hi : Inv l s) {b : Int} (hb : b ≤ s.p) : 0 ≤ wor l s b ∧ wor l s b ≤ 30 := by
  have hc := cnt_le hV hi hb
  have := hi.a0; have := hi.a2; have := hi.p1; have := hV.p2
  unfold wor
  generalize cnt l s b = n at *
  have h3 : s.a = 0 ∨ s.a = 1 ∨ s.a = 2 := by omega
  rcases h3 with h | h | h <;> rw [h] <;> omega

theorem tot_bd {l : Ref01Law} (hV : V l) : ∀ (bs : List Int) {a : A}, AInv l a → Ok l a.s bs → a.tot ≤ (bs.foldl (stepA l) a).tot ∧ (bs.foldl (stepA l) a).tot ≤ a.tot + 30 * bs.length
  | [], a, _, _ => by simp
  | b :: bs, a, hi, hk => by
    have h := tot_bd hV bs (ainv_step hV hi hk.1) hk.2
    have w := wor_bd hV hi.inv hk.1.2.2
    have e : (stepA l a b).tot = a.tot + wor l a.s b := rfl
    simp only [List.foldl_cons, List.length_cons]
    omega
theorem acc_tot_bd {l : Ref01Law} (hV : V l) {bs : List Int} (hk : Ok l (s0 l) bs) : 0 ≤ (acc l bs).tot ∧ (acc l bs).tot ≤ 30 * bs.length := by
  have h := tot_bd hV bs (ainv0 hV) hk
  have e : (acc0 l).tot = 0 := rfl
  rw [e] at h
  exact ⟨h.1, by have := h.2; unfold acc; omega⟩

theorem done_eq {l : Ref01Law} {s : S} : framePlayDone 2097152 (s.play l) = some (decide (s.f = l.fFrames)) := rfl

section
variable {l : Ref01Law} (hV : V l) {sheet : List Int} (hk : Ok l (s0 l) sheet) (hn : sheet.length ≤ 90)
include hV hk hn

theorem behind_eq : frameLawBehind 2097152 (fl l) sheet = some ((acc l sheet).s.play l) := by
  have key : loopN (fun rec3 x => frameLawBehind_b1 2097152 sheet rec3 x.1 x.2.1 x.2.2.1 x.2.2.2) 2097152 ((sheet.length : Int), 0, (s0 l).play l, (s0 l).play l) = some ((acc l sheet).s.play l) := by
    have h := loopN_rel (ι := Nat) (b := fun rec3 x => frameLawBehind_b1 2097152 sheet rec3 x.1 x.2.1 x.2.2.1 x.2.2.2)
      (fun i => ((sheet.length : Int), (i : Int), (acc l (sheet.take i)).s.play l, (acc l (sheet.take i)).s.play l))
      (fun i => some ((acc l sheet).s.play l)) (fun i => sheet.length - i) (fun i => i ≤ sheet.length) ?_ 2097152 0 (Nat.zero_le _) (by omega)
    · exact h
    · intro i rec hi ih
      simp only at hi ih ⊢
      unfold frameLawBehind_b1
      by_cases hlt : i < sheet.length
      · obtain ⟨x, hx, hm, ha⟩ := at_i hk hlt
        have hI := (ainv hV (ok_pre hk i)).inv
        rw [if_pos (by simpa using hlt), idx_at hx]
        simp only [Option.bind_some, may_eq hI, hm, decide_true, Bool.not_true, Bool.false_eq_true, if_false]
        rw [next_eq hV hI hm.1 hm.2.2]
        simp only [Option.bind_some]
        rw [w64_id (by omega) (by omega)]
        have := ih (i + 1) (by omega) (by omega)
        rw [ha] at this
        rw [show ((i : Int) + 1) = ((i + 1 : Nat) : Int) by omega]
        exact this
      · have : i = sheet.length := by omega
        subst this
        rw [if_neg (by simp), List.take_length]
  unfold frameLawBehind frameLawBalls frameLawBegin
  simp only [Option.bind_some]
  have e : (FramePlay.mk (fl l) (FrameAt.mk 0 0 (fl l).fPins true (fl l).fBalls (Ar2.mk 0 0))) = (s0 l).play l := rfl
  rw [e, key]
  rfl

theorem total_eq : frameLawTotal 2097152 (fl l) sheet = some (acc l sheet).tot := by
  have key : loopN (fun rec3 x => frameLawTotal_b1 2097152 sheet rec3 x.1 x.2.1 x.2.2.1 x.2.2.2) 2097152 (0, (sheet.length : Int), 0, (s0 l).play l) = some (acc l sheet).tot := by
    have h := loopN_rel (ι := Nat) (b := fun rec3 x => frameLawTotal_b1 2097152 sheet rec3 x.1 x.2.1 x.2.2.1 x.2.2.2)
      (fun i => ((acc l (sheet.take i)).tot, (sheet.length : Int), (i : Int), (acc l (sheet.take i)).s.play l))
      (fun i => some (acc l sheet).tot) (fun i => sheet.length - i) (fun i => i ≤ sheet.length) ?_ 2097152 0 (Nat.zero_le _) (by omega)
    · exact h
    · intro i rec hi ih
      simp only at hi ih ⊢
      unfold frameLawTotal_b1
      by_cases hlt : i < sheet.length
      · obtain ⟨x, hx, hm, ha⟩ := at_i hk hlt
        have hI := (ainv hV (ok_pre hk i)).inv
        have hb := acc_tot_bd hV (ok_pre hk i)
        have hw := wor_bd hV hI hm.2.2
        have hl : ((sheet.take i).length : Int) ≤ 90 := by simp; omega
        rw [if_pos (by simpa using hlt), idx_at hx]
        simp only [Option.bind_some]
        rw [next_eq hV hI hm.1 hm.2.2]
        simp only [Option.bind_some]
        rw [sum_eq _ (by simp) (by intro y hy; simp at hy; rcases hy with rfl | rfl <;> omega)]
        simp only [Option.bind_some]
        rw [w64_id (by omega) (by omega)]
        have := ih (i + 1) (by omega) (by omega)
        rw [ha] at this
        rw [show ((i : Int) + 1) = ((i + 1 : Nat) : Int) by omega]
        have e : sm [(acc l (sheet.take i)).tot, wor l (acc l (sheet.take i)).s x] = (stepA l (acc l (sheet.take i)) x).tot := by simp [sm, stepA]
        rw [e]
        exact this
      · have : i = sheet.length := by omega
        subst this
        rw [if_neg (by simp), List.take_length]
  unfold frameLawTotal frameLawBegin
  simp only [Option.bind_some]
  have e : (FramePlay.mk (fl l) (FrameAt.mk 0 0 (fl l).fPins true (fl l).fBalls (Ar2.mk 0 0))) = (s0 l).play l := rfl
  rw [e, key]
  rfl
end

/-- the counts -/
def cts (cs : List Int) : Nat → Int → List (Nat × Nat) → List Int
  | _, _, [] => []
  | fr, up, p :: E => if cs.length < p.1 + p.2 then [] else (up + sm ((cs.take (p.1 + p.2)).drop fr)) :: cts cs p.1 (up + sm ((cs.take (p.1 + p.2)).drop fr)) E
def ctsA (a : A) : List Int := cts a.cs 0 0 a.E

def lastO (o : List Int) : Int := match o.getLast? with | some x => x | none => 0

theorem idx_set_eq {α : Type} {L : List α} {i : Nat} {x : α} (h : i < L.length) : idx (L.set i x) (i : Int) = some x := idx_at (by simp [h])

theorem slc_ok {α : Type} {L : List α} {a b : Nat} (h1 : a ≤ b) (h2 : b ≤ L.length) : slc L (a : Int) (b : Int) = some ((L.take b).drop a) := by
  unfold slc
  rw [if_pos ⟨by omega, by omega, by omega⟩]
  simp

theorem starts_succ {E : List (Nat × Nat)} {k : Nat} {p : Nat × Nat} (h : E[k]? = some p) : starts E (k + 1) = p.1 := by
  have hk := (List.getElem?_eq_some_iff.1 h).1
  have hx := (List.getElem?_eq_some_iff.1 h).2
  unfold starts
  rw [List.take_succ_eq_append_getElem hk, lastE_snoc, hx]
theorem starts_zero (E : List (Nat × Nat)) : starts E 0 = 0 := by simp [starts, lastE]

theorem starts_le {l : Ref01Law} {a : A} (hi : AInv l a) {k : Nat} (hk : k ≤ a.E.length) : starts a.E k ≤ a.cs.length := by
  cases k with
  | zero => rw [starts_zero]; omega
  | succ k =>
    have h : a.E[k]? = some a.E[k] := by simp [show k < a.E.length by omega]
    rw [starts_succ h]
    exact (hi.ent _ (List.mem_of_getElem? h)).2.1

theorem sum_cs {l : Ref01Law} {a : A} (hi : AInv l a) (hn : a.cs.length ≤ 90) (x y : Nat) : 0 ≤ sm ((a.cs.take x).drop y) ∧ sm ((a.cs.take x).drop y) ≤ 900 := by
  have h := sm_bd (B := 10) (by omega) ((a.cs.take x).drop y) fun z hz => hi.bd z (List.mem_of_mem_take (List.mem_of_mem_drop hz))
  have : ((a.cs.take x).drop y).length ≤ 90 := by simp; omega
  omega

/-- the program's second loop of 'counts' -/
theorem counts_2 {l : Ref01Law} {a : A} (hi : AInv l a) (hn : a.cs.length ≤ 90) (hE : a.E.length ≤ 10) :
    loopN (fun rec5 x => frameLawCounts_b3 2097152 a.cs (a.E.map fun p => (p.1 : Int)) (a.E.map fun p => (p.2 : Int)) rec5 x.1 x.2.1 x.2.2.1 x.2.2.2) 2097152 (0, ((a.E.map fun p => (p.1 : Int)).length : Int), 0, []) = some (ctsA a) := by
  have h := loopN_rel (ι := Nat × List Int) (b := fun rec5 x => frameLawCounts_b3 2097152 a.cs (a.E.map fun p => (p.1 : Int)) (a.E.map fun p => (p.2 : Int)) rec5 x.1 x.2.1 x.2.2.1 x.2.2.2)
    (fun i => ((starts a.E i.1 : Int), ((a.E.map fun p => (p.1 : Int)).length : Int), (i.1 : Int), i.2))
    (fun i => some (i.2 ++ cts a.cs (starts a.E i.1) (lastO i.2) (a.E.drop i.1))) (fun i => a.E.length - i.1)
    (fun i => i.1 ≤ a.E.length ∧ i.2.length = i.1 ∧ 0 ≤ lastO i.2 ∧ lastO i.2 ≤ 900 * i.1) ?_ 2097152 (0, []) ⟨Nat.zero_le _, rfl, by simp [lastO], by simp [lastO]⟩ (by simp; omega)
  · simpa [starts_zero, lastO, ctsA] using h
  · rintro ⟨k, o⟩ rec ⟨h1, h2, h3, h4⟩ ih
    simp only at h1 h2 h3 h4 ih ⊢
    unfold frameLawCounts_b3
    by_cases hlt : k < a.E.length
    · have hp : a.E[k]? = some a.E[k] := by simp [hlt]
      generalize hpp : a.E[k] = pp at hp
      obtain ⟨p1, p2⟩ := pp
      have hent := hi.ent _ (List.mem_of_getElem? hp)
      simp only at hent
      obtain ⟨_, _, _, _, _, hst, _⟩ := hi.sc k _ hp
      simp only at hst
      rw [if_pos (by simpa using hlt), idx_at (l := a.E.map fun p => (p.1 : Int)) (x := (p1 : Int)) (by simp [hp]), idx_at (l := a.E.map fun p => (p.2 : Int)) (x := (p2 : Int)) (by simp [hp])]
      simp only [Option.bind_some]
      rw [w64_id (by omega) (by omega), List.drop_eq_getElem_cons hlt, hpp]
      unfold cts
      simp only
      by_cases hset : a.cs.length < p1 + p2
      · rw [if_pos (by simp; omega), if_pos hset]; simp
      · rw [if_neg (by simp; omega), if_neg hset]
        rw [show ((p1 : Int) + (p2 : Int)) = ((p1 + p2 : Nat) : Int) by omega, slc_ok (by omega) (by omega)]
        simp only [Option.bind_some]
        have hs := sum_cs hi hn (p1 + p2) (starts a.E k)
        rw [sum_eq _ (by simp; omega) (fun z hz => by have := hi.bd z (List.mem_of_mem_take (List.mem_of_mem_drop hz)); omega)]
        simp only [Option.bind_some]
        generalize hv : sm ((a.cs.take (p1 + p2)).drop (starts a.E k)) = v at hs ⊢
        have e : (Option.bind (if decide (0 < (k : Int)) = true then (idx o (w64 ((k : Int) - 1))).bind fun x400 => (frameSum 2097152 [v, x400]).bind fun r188 => some r188 else some v) fun v100 => some v100) = some (lastO o + v) := by
          by_cases hk0 : k = 0
          · subst hk0
            have : o = [] := List.length_eq_zero_iff.1 h2
            subst this
            simp [lastO]
          · have hlo : o[k - 1]? = some (lastO o) := by
              unfold lastO
              rw [List.getLast?_eq_getElem?, h2]
              cases hq : o[k - 1]? with
              | some z => rfl
              | none => rw [List.getElem?_eq_none_iff] at hq; omega
            rw [if_pos (by simp; omega), w64_id (by omega) (by omega), show ((k : Int) - 1) = ((k - 1 : Nat) : Int) by omega, idx_at hlo]
            simp only [Option.bind_some]
            rw [sum_eq _ (by simp) (by intro y hy; simp at hy; rcases hy with rfl | rfl <;> omega)]
            simp [sm]; omega
        obtain ⟨v100, q1, q2⟩ := obind e
        cases q2
        rw [q1]
        simp only [Option.bind_some]
        rw [app_ok (by simp; omega)]
        simp only [Option.bind_some]
        rw [w64_id (by omega) (by omega)]
        have hlast : lastO (o ++ [lastO o + v]) = lastO o + v := by simp [lastO]
        have := ih (k + 1, o ++ [lastO o + v]) ⟨by simp only; omega, by simp [h2], by simp only [hlast]; omega, by simp only [hlast]; omega⟩ (by simp only; omega)
        simp only [starts_succ hp, hlast] at this
        rw [show ((k : Int) + 1) = ((k + 1 : Nat) : Int) by omega, this]
        simp
    · have : k = a.E.length := by omega
      subst this
      rw [if_neg (by simp), List.drop_length]
      unfold frameLawCounts_k2 cts
      simp
end Go.Proofs.Ythbifolpofillaa
