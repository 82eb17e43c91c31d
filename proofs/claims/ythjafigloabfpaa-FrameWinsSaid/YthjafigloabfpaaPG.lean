/-
  The document's functions over a sheet that is a game's.
-/
import Derived.Test.YthjafigloabfpaaPF
set_option linter.all false
namespace Go.Proofs.Ythjafigloabfpaa
open Go.Kp

theorem scan_bd (k : Int) : ∀ (xs : List Ref01Ball) (i : Nat) (a : Int × Int × Int), (∀ x ∈ xs, 0 ≤ x.fCount ∧ x.fCount ≤ 10) →
    a.1 ≤ (scan k i a xs).1 ∧ (scan k i a xs).1 ≤ a.1 + 10 * xs.length ∧ a.2.1 ≤ (scan k i a xs).2.1 ∧ (scan k i a xs).2.1 ≤ a.2.1 + xs.length
  | [], i, a, _ => by simp [scan]
  | x :: xs, i, a, h => by
    have h1 := h x (by simp)
    have h2 := scan_bd k xs (i + 1) (upd k i a x) fun y hy => h y (by simp [hy])
    simp only [scan, List.length_cons]
    unfold upd at h2 ⊢
    split at h2
    · rename_i e; rw [if_pos e]; simp only at h2; omega
    · rename_i e; rw [if_neg e]; omega

theorem scan_eq (tr : List Ref01Ball) (k : Int) (hn : tr.length ≤ 90) (hb : ∀ x ∈ tr, 0 ≤ x.fCount ∧ x.fCount ≤ 10) :
    loopN (fun rec49 x => ref01Counts_b3 2097152 tr k rec49 x.1 x.2.1 x.2.2.1 x.2.2.2) 2097152 (0, 0, 0, 0) = some (scan k 0 (0, 0, 0) tr) := by
  have h := loopN_rel (ι := Nat) (b := fun rec49 x => ref01Counts_b3 2097152 tr k rec49 x.1 x.2.1 x.2.2.1 x.2.2.2)
    (fun i => ((scan k 0 (0, 0, 0) (tr.take i)).1, (scan k 0 (0, 0, 0) (tr.take i)).2.1, (scan k 0 (0, 0, 0) (tr.take i)).2.2, (i : Int)))
    (fun i => some (scan k 0 (0, 0, 0) tr)) (fun i => tr.length - i) (fun i => i ≤ tr.length) ?_ 2097152 0 (Nat.zero_le _) (by omega)
  · exact h
  · intro i rec hi ih
    simp only at hi ih ⊢
    unfold ref01Counts_b3
    by_cases hlt : i < tr.length
    · have hx : tr[i]? = some tr[i] := by simp [hlt]
      rw [if_pos (by simpa using hlt), idx_at hx]
      simp only [Option.bind_some]
      have h3 := scan_bd k (tr.take i) 0 (0, 0, 0) fun x hx => hb x (List.mem_of_mem_take hx)
      have hl : ((tr.take i).length : Int) ≤ 90 := by simp; omega
      have hc := hb tr[i] (List.getElem_mem hlt)
      have := ih (i + 1) (by omega) (by omega)
      rw [List.take_succ_eq_append_getElem hlt, scan_snoc] at this
      simp only at h3
      rw [w64_id (n := (i : Int) + 1) (by omega) (by omega)]
      by_cases hf : tr[i].fFrame = k
      · rw [upd_eq hf] at this
        simp only [hf, decide_true, if_true, Option.bind_some]
        rw [w64_id (by omega) (by omega), w64_id (by omega) (by omega)]
        rw [show ((i : Int) + 1) = ((i + 1 : Nat) : Int) by omega]
        rw [← this]
        simp only [List.length_take, Nat.zero_add]
        rw [Nat.min_eq_left hi]
      · rw [upd_ne hf] at this
        simp only [hf, decide_false, Bool.false_eq_true, if_false, Option.bind_some]
        rw [show ((i : Int) + 1) = ((i + 1 : Nat) : Int) by omega]
        exact this
    · have : i = tr.length := by omega
      subst this
      rw [if_neg (by simp), List.take_length]

theorem tr_bd {l : Ref01Law} {a : A} (hA : AInv l a) : ∀ x ∈ a.tr, 0 ≤ x.fCount ∧ x.fCount ≤ 10 := by
  intro x hx
  have : x.fCount ∈ a.cs := by rw [← hA.trc]; exact List.mem_map_of_mem hx
  exact hA.bd _ this

theorem tr_idx {l : Ref01Law} {a : A} (hA : AInv l a) {i : Nat} (hi : i < a.cs.length) : ∃ x, a.tr[i]? = some x ∧ x.fCount = a.cs[i] := by
  have hl : i < a.tr.length := by rw [hA.trl]; exact hi
  refine ⟨a.tr[i], by simp [hl], ?_⟩
  have : (a.tr.map (·.fCount))[i]? = a.cs[i]? := by rw [hA.trc]
  simp [hl, hi] at this
  exact this

theorem b4_eq {l : Ref01Law} {a : A} (hA : AInv l a) (hn : a.cs.length ≤ 90) (own : Int) (h0 : 0 ≤ own) (h1 : own ≤ 900) (p1 p2 : Nat) (hp : 1 ≤ p1) (h2 : p1 + p2 ≤ a.cs.length) (h3 : p2 ≤ 2) :
    loopN (fun rec51 x => ref01Counts_b4 2097152 a.tr ((p1 : Int) - 1) (p2 : Int) rec51 x.1 x.2) 2097152 (own, (p1 : Int)) = some (own + sm ((a.cs.take (p1 + p2)).drop p1)) := by
  have h := loopN_rel (ι := Nat) (b := fun rec51 x => ref01Counts_b4 2097152 a.tr ((p1 : Int) - 1) (p2 : Int) rec51 x.1 x.2)
    (fun j => (own + sm ((a.cs.take (p1 + j)).drop p1), ((p1 + j : Nat) : Int))) (fun j => some (own + sm ((a.cs.take (p1 + p2)).drop p1))) (fun j => p2 - j) (fun j => j ≤ p2) ?_ 2097152 0 (Nat.zero_le _) (by omega)
  · have e : (a.cs.take (p1 + 0)).drop p1 = [] := List.drop_eq_nil_of_le (by simp; omega)
    simp only [e, sm] at h
    simpa using h
  · intro j rec hj ih
    simp only at hj ih ⊢
    unfold ref01Counts_b4
    rw [w64_id (n := (p1 : Int) - 1 + (p2 : Int)) (by omega) (by omega)]
    by_cases hlt : j < p2
    · obtain ⟨x, hx, hxc⟩ := tr_idx hA (i := p1 + j) (by omega)
      rw [if_pos (by simp; omega), idx_at hx]
      simp only [Option.bind_some]
      have hs := sum_cs hA hn (p1 + j) p1
      have hb := hA.bd _ (List.getElem_mem (l := a.cs) (n := p1 + j) (by omega))
      rw [hxc, w64_id (by omega) (by omega), w64_id (by omega) (by omega)]
      have := ih (j + 1) (by omega) (by omega)
      rw [show p1 + (j + 1) = p1 + j + 1 by omega, List.take_succ_eq_append_getElem (show p1 + j < a.cs.length by omega), drop_snoc (by simp; omega), sm_app] at this
      rw [show (((p1 + j : Nat) : Int) + 1) = ((p1 + j + 1 : Nat) : Int) by omega, ← this]
      simp [sm, Int.add_assoc]
    · have : j = p2 := by omega
      subst this
      rw [if_neg (by simp; omega)]

theorem more_eq (l : Ref01Law) (hV : V l) (k : Nat) (own balls : Int) :
    (Option.bind (Option.bind (if decide ((k : Int) < w64 (l.fFrames - 1)) = true then if decide (own = l.fPins) = true then some (decide (balls = 1)) else some false else some false) fun v1128 => if v1128 = true then some (2 : Int) else some 0) fun v1127 =>
      Option.bind (Option.bind (if decide ((k : Int) < w64 (l.fFrames - 1)) = true then if decide (own = l.fPins) = true then some (decide (balls = 2)) else some false else some false) fun v1131 => if v1131 = true then some (1 : Int) else some v1127) fun v1130 => some v1130) = some (more l k own balls) := by
  have := hV.f1; have := hV.f2
  rw [w64_id (by omega) (by omega)]
  unfold more
  by_cases h1 : (k : Int) < l.fFrames - 1 <;> by_cases h2 : own = l.fPins <;> by_cases h3 : balls = 1 <;> by_cases h4 : balls = 2 <;> simp [h1, h2, h3, h4] <;> omega

theorem split_sum {cs : List Int} {x y z : Nat} (h1 : x ≤ y) (h2 : y ≤ z) (h3 : z ≤ cs.length) : sm ((cs.take y).drop x) + sm ((cs.take z).drop y) = sm ((cs.take z).drop x) := by
  rw [← sm_app]
  congr 1
  have e : cs.take z = cs.take y ++ (cs.take z).drop y := by
    have : cs.take y = (cs.take z).take y := by rw [List.take_take, Nat.min_eq_left h2]
    rw [this, List.take_append_drop]
  conv => rhs; rw [e]
  rw [List.drop_append_of_le_length (by simp; omega)]

theorem rcounts_2 {l : Ref01Law} (hV : V l) {a : A} (hA : AInv l a) (hn : a.cs.length ≤ 90) :
    loopN (fun rec43 x => ref01Counts_b5 2097152 l a.s.stand a.tr rec43 x.1 x.2.1 x.2.2) 2097152 (0, 0, []) = some (ctsA a) := by
  have hfE := hA.fE
  have hE : a.E.length ≤ 10 := by have := hA.inv.f1; have := hV.f2; omega
  have h := loopN_rel (ι := Nat × List Int) (b := fun rec43 x => ref01Counts_b5 2097152 l a.s.stand a.tr rec43 x.1 x.2.1 x.2.2)
    (fun i => (lastO i.2, (i.1 : Int), i.2))
    (fun i => some (i.2 ++ cts a.cs (starts a.E i.1) (lastO i.2) (a.E.drop i.1))) (fun i => a.E.length - i.1)
    (fun i => i.1 ≤ a.E.length ∧ i.2.length = i.1 ∧ 0 ≤ lastO i.2 ∧ lastO i.2 ≤ 900 * i.1) ?_ 2097152 (0, []) ⟨Nat.zero_le _, rfl, by simp [lastO], by simp [lastO]⟩ (by simp; omega)
  · simpa [starts_zero, lastO, ctsA] using h
  · rintro ⟨k, o⟩ rec ⟨h1, h2, h3, h4⟩ ih
    simp only at h1 h2 h3 h4 ih ⊢
    unfold ref01Counts_b5
    have ef : a.s.stand.fFrame = (a.E.length : Int) := hfE.symm
    rw [ef]
    by_cases hlt : k < a.E.length
    · have hp : a.E[k]? = some a.E[k] := by simp [hlt]
      generalize hpp : a.E[k] = pp at hp
      obtain ⟨p1, p2⟩ := pp
      have hent := hA.ent _ (List.mem_of_getElem? hp)
      simp only at hent
      obtain ⟨own, balls, r1, r2, r3, r4, r5⟩ := hA.sc k _ hp
      simp only at r1 r2 r4
      rw [if_pos (by simpa using hlt), scan_eq a.tr k (by rw [hA.trl]; exact hn) (tr_bd hA), r1]
      simp only [Option.bind_some]
      have hm := more_eq l hV k own balls
      obtain ⟨v1127, q1, q2⟩ := obind hm
      obtain ⟨v1130, q3, q4⟩ := obind q2
      cases q4
      rw [q1]
      simp only [Option.bind_some]
      rw [q3]
      simp only [Option.bind_some, r3]
      rw [w64_id (n := (p1 : Int) - 1 + (p2 : Int)) (by omega) (by omega), w64_id (n := (p1 : Int) - 1 + 1) (by omega) (by omega), hA.trl, List.drop_eq_getElem_cons hlt, hpp]
      unfold cts
      simp only
      have hs1 := sum_cs hA hn p1 (starts a.E k)
      by_cases hset : a.cs.length < p1 + p2
      · rw [if_pos (by simp; omega), if_pos hset]; simp
      · rw [if_neg (by simp; omega), if_neg hset, show ((p1 : Int) - 1 + 1) = (p1 : Int) by omega, b4_eq hA hn own (by omega) (by omega) p1 p2 hent.1 (by omega) hent.2.2]
        simp only [Option.bind_some]
        have hs := sum_cs hA hn (p1 + p2) (starts a.E k)
        rw [r2, split_sum (by omega) (by omega) (by omega), w64_id (by omega) (by omega), app_ok (by simp; omega)]
        simp only [Option.bind_some]
        unfold ref01Counts_k2
        rw [w64_id (by omega) (by omega)]
        generalize hv : sm ((a.cs.take (p1 + p2)).drop (starts a.E k)) = v at hs ⊢
        have hlast : lastO (o ++ [lastO o + v]) = lastO o + v := by simp [lastO]
        have := ih (k + 1, o ++ [lastO o + v]) ⟨by simp only; omega, by simp [h2], by simp only [hlast]; omega, by simp only [hlast]; omega⟩ (by simp only; omega)
        simp only [starts_succ hp, hlast] at this
        rw [show ((k : Int) + 1) = ((k + 1 : Nat) : Int) by omega, this]
        simp
    · have : k = a.E.length := by omega
      subst this
      rw [if_neg (by simp), List.drop_length]
      unfold ref01Counts_k1 cts
      simp

section
variable {l : Ref01Law} (hV : V l) {sheet : List Int} (hk : Ok l (s0 l) sheet) (hn : sheet.length ≤ 90)
include hV hk hn

theorem play_acc : ref01Play 2097152 l sheet = some ((acc l sheet).s.stand, (acc l sheet).tr) := by
  rw [play_ok hV hn hk, acc_s, acc_tr]

theorem rcounts_eq : ref01Counts 2097152 l sheet = some (ctsA (acc l sheet)) := by
  unfold ref01Counts
  rw [play_acc hV hk hn]
  exact rcounts_2 hV (ainv hV hk) (by rw [acc_len]; exact hn)

theorem tail_eq : ref01Tail 2097152 l sheet = some (acc l sheet).s.tail := by
  have hA := ainv hV hk
  have hcl := acc_len l sheet
  unfold ref01Tail
  rw [play_acc hV hk hn]
  generalize acc l sheet = a at *
  simp only [Option.bind_some]
  have hfE := hA.fE
  have hf1 := hA.inv.f1
  have hv1 := hV.f1
  have hv2 := hV.f2
  have h := loopN_rel (ι := Nat) (b := fun rec23 x => ref01Tail_b2 2097152 l a.s.stand a.tr rec23 x.1 x.2)
    (fun k => ((k : Int), Ref01Tail.mk a.s.stand ((a.E.take k).countP fun p => decide (a.cs.length < p.1 + p.2) : Nat) ((a.E.take k).countP fun p => decide (a.cs.length + 1 < p.1 + p.2) : Nat)))
    (fun k => some a.s.tail) (fun k => a.E.length - k) (fun k => k ≤ a.E.length ∧ (k : Int) ≤ l.fFrames - 1) ?_ 2097152 0 ⟨Nat.zero_le _, by omega⟩ (by omega)
  · have h' : loopN (fun rec23 x => ref01Tail_b2 2097152 l a.s.stand a.tr rec23 x.1 x.2) 2097152 (0, Ref01Tail.mk a.s.stand 0 0) = some a.s.tail := by simpa using h
    rw [h']
    rfl
  · rintro k rec ⟨h1, h2⟩ ih
    simp only at h1 h2 ih ⊢
    unfold ref01Tail_b2
    have ef : a.s.stand.fFrame = (a.E.length : Int) := hfE.symm
    rw [ef, w64_id (n := l.fFrames - 1) (by omega) (by omega)]
    by_cases hlt : k < a.E.length
    · have hp : a.E[k]? = some a.E[k] := by simp [hlt]
      generalize hpp : a.E[k] = pp at hp
      obtain ⟨p1, p2⟩ := pp
      have hent := hA.ent _ (List.mem_of_getElem? hp)
      simp only at hent
      obtain ⟨own, balls, r1, r2, r3, r4, r5⟩ := hA.sc k _ hp
      simp only at r1 r2 r4 r3
      rw [if_pos (by simpa using hlt)]
      simp only [Option.bind_some]
      by_cases hl : (k : Int) < l.fFrames - 1
      · rw [if_pos (by simpa using hl)]
        have ht : loopN (fun rec27 x => ref01Tail_b1 2097152 a.tr (k : Int) rec27 x.1 x.2.1 x.2.2.1 x.2.2.2) 2097152 (0, 0, 0, 0) = some (scan k 0 (0, 0, 0) a.tr) := scan_eq a.tr k (by rw [hA.trl, hcl]; exact hn) (tr_bd hA)
        rw [ht, r1]
        simp only [Option.bind_some]
        have hm : (Option.bind (if decide (own = l.fPins) = true then some (decide (balls < 3)) else some false) fun v895 => if v895 = true then some (w64 (3 - balls)) else some 0) = some (p2 : Int) := by
          rw [← r3]
          unfold more
          rw [w64_id (by omega) (by omega)]
          have hb : balls = 1 ∨ balls = 2 ∨ balls = 3 := by omega
          by_cases h4 : own = l.fPins
          · rcases hb with h | h | h <;> simp [hl, h4, h]
          · simp [h4]
        rw [hm]
        simp only [Option.bind_some]
        rw [w64_id (n := (p1 : Int) - 1 + 1) (by omega) (by omega), w64_id (n := (p1 : Int) - 1 + 1 + (p2 : Int)) (by omega) (by omega), hA.trl, w64_id (n := (p1 : Int) - 1 + 1 + (p2 : Int) - (a.cs.length : Int)) (by omega) (by omega)]
        have hc1 : ((a.E.take k).countP fun p => decide (a.cs.length < p.1 + p.2)) ≤ a.E.length := Nat.le_trans List.countP_le_length (by simp; omega)
        have hc2 : ((a.E.take k).countP fun p => decide (a.cs.length + 1 < p.1 + p.2)) ≤ a.E.length := Nat.le_trans List.countP_le_length (by simp; omega)
        have hE : a.E.length ≤ 10 := by omega
        rw [w64_id (n := (((a.E.take k).countP fun p => decide (a.cs.length < p.1 + p.2) : Nat) : Int) + 1) (by omega) (by omega), w64_id (n := (k : Int) + 1) (by omega) (by omega)]
        have := ih (k + 1) ⟨by omega, by omega⟩ (by omega)
        rw [List.take_succ_eq_append_getElem hlt, hpp] at this
        simp only [List.countP_append, List.countP_singleton] at this
        rw [show ((k : Int) + 1) = ((k + 1 : Nat) : Int) by omega]
        by_cases c1 : a.cs.length < p1 + p2
        · rw [if_pos (by simp; omega)]
          simp only [Option.bind_some]
          by_cases c2 : a.cs.length + 1 < p1 + p2
          · rw [if_pos (by simp; omega), w64_id (by omega) (by omega)]
            simp only [Option.bind_some]
            simpa [c1, c2] using this
          · rw [if_neg (by simp; omega)]
            simp only [Option.bind_some]
            simpa [c1, c2] using this
        · have c2 : ¬ a.cs.length + 1 < p1 + p2 := by omega
          rw [if_neg (by simp; omega)]
          simp only [Option.bind_some]
          rw [if_neg (by simp; omega)]
          simp only [Option.bind_some]
          simpa [c1, c2] using this
      · rw [if_neg (by simpa using hl)]
        have hkF : (k : Int) = l.fFrames - 1 := by omega
        have hE2 : a.E.length = k + 1 := by omega
        have hp2 : p2 = 0 := by
          unfold more at r3
          have : ¬ (k : Int) < l.fFrames - 1 := hl
          simp [this] at r3
          omega
        subst hp2
        have e : a.E = a.E.take k ++ [(p1, 0)] := by
          conv => lhs; rw [← List.take_length (l := a.E), hE2, List.take_succ_eq_append_getElem hlt, hpp]
        have e1 := hA.one
        have e2 := hA.two
        rw [e, List.countP_append] at e1 e2
        simp only [List.countP_singleton] at e1 e2
        have n1 : ¬ a.cs.length < p1 := by omega
        have n2 : ¬ a.cs.length + 1 < p1 := by omega
        simp only [n1, n2, decide_false, Bool.false_eq_true, if_false, Nat.add_zero] at e1 e2
        unfold S.tail
        rw [e1, e2]
    · have : k = a.E.length := by omega
      subst this
      rw [if_neg (by simp)]
      simp only [Option.bind_some, List.take_length]
      unfold S.tail
      rw [hA.one, hA.two]
      rfl

theorem rsum_eq : ref01Sum 2097152 l sheet = some (acc l sheet).tot := by
  have key : loopN (fun rec3 x => ref01Sum_b1 2097152 l sheet rec3 x.1 x.2) 2097152 (0, 0) = some (acc l sheet).tot := by
    have h := loopN_rel (ι := Nat) (b := fun rec3 x => ref01Sum_b1 2097152 l sheet rec3 x.1 x.2) (fun i => ((acc l (sheet.take i)).tot, (i : Int)))
      (fun i => some (acc l sheet).tot) (fun i => sheet.length - i) (fun i => i ≤ sheet.length) ?_ 2097152 0 (Nat.zero_le _) (by omega)
    · exact h
    · intro i rec hi ih
      simp only at hi ih ⊢
      unfold ref01Sum_b1
      by_cases hlt : i < sheet.length
      · obtain ⟨x, hx, hm, ha⟩ := at_i hk hlt
        have hA := ainv hV (ok_pre hk i)
        have hb := acc_tot_bd hV (ok_pre hk i)
        have hw := wor_bd hV hA.inv hm.2.2
        have hl : ((sheet.take i).length : Int) ≤ 90 := by simp; omega
        have hc := cnt_le hV hA.inv hm.2.2
        have hs : slc sheet 0 (i : Int) = some (sheet.take i) := by
          have := slc_ok (L := sheet) (a := 0) (b := i) (Nat.zero_le _) hi
          simpa using this
        rw [if_pos (by simpa using hlt), hs, idx_at hx]
        simp only [Option.bind_some]
        rw [tail_eq hV (ok_pre hk i) (by simp; omega)]
        simp only [Option.bind_some]
        have et : (acc l (sheet.take i)).s.tail.fStand = (acc l (sheet.take i)).s.stand := rfl
        have eo : (acc l (sheet.take i)).s.tail.fOne = (acc l (sheet.take i)).s.a := rfl
        rw [et, eo, throw_eq hV hA.inv hm.1 hm.2.2]
        simp only [Option.bind_some]
        rw [mul_3 hc.1 (by have := hA.inv.p1; have := hV.p2; omega) hA.inv.a0 hA.inv.a2]
        have ew : cnt l (acc l (sheet.take i)).s x * (1 + (acc l (sheet.take i)).s.a) = wor l (acc l (sheet.take i)).s x := rfl
        rw [ew, w64_id (by omega) (by omega), w64_id (by omega) (by omega)]
        have := ih (i + 1) (by omega) (by omega)
        rw [ha] at this
        rw [show ((i : Int) + 1) = ((i + 1 : Nat) : Int) by omega]
        exact this
      · have : i = sheet.length := by omega
        subst this
        rw [if_neg (by simp), List.take_length]
  unfold ref01Sum
  rw [key]
  rfl
end
end Go.Proofs.Ythjafigloabfpaa
