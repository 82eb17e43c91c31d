/-
  The program's search of an ending.
-/
import Derived.Test.YthjafigloabfpaaPK
set_option linter.all false
namespace Go.Proofs.Ythjafigloabfpaa
open Go.Kp

def wsum (l : Ref01Law) : S → List Int → Int
  | _, [] => 0
  | s, b :: bs => wor l s b + wsum l (nxt l s b) bs
structure Ext (l : Ref01Law) (s : S) (bs : List Int) (k : Int) : Prop where
  ok : Ok l s bs
  dn : (run l s bs).f = l.fFrames
  nn : ∀ b ∈ bs, 0 ≤ b
  w : wsum l s bs = k

theorem ext_rch {l : Ref01Law} : ∀ {bs : List Int} {s : S} {k : Int}, Ext l s bs k → Rch l s k
  | [], s, k, h => by have := h.w; simp only [wsum] at this; rw [← this]; exact .done h.dn
  | b :: bs, s, k, h => by
    have h2 : Rch l (nxt l s b) (wsum l (nxt l s b) bs) := ext_rch (bs := bs) ⟨h.ok.2, h.dn, fun x hx => h.nn x (by simp [hx]), rfl⟩
    have := h.w
    simp only [wsum] at this
    rw [← this]
    exact .step h.ok.1 (h.nn b (by simp)) h2

theorem tot_app {l : Ref01Law} : ∀ (ys : List Int) (a : A), (ys.foldl (stepA l) a).tot = a.tot + wsum l a.s ys
  | [], a => by simp [wsum]
  | y :: ys, a => by
    rw [List.foldl_cons, tot_app ys]
    simp only [wsum]
    have e1 : (stepA l a y).tot = a.tot + wor l a.s y := rfl
    have e2 : (stepA l a y).s = nxt l a.s y := rfl
    rw [e1, e2]; omega
theorem acc_tot_app (l : Ref01Law) (xs ys : List Int) : (acc l (xs ++ ys)).tot = (acc l xs).tot + wsum l (acc l xs).s ys := by
  unfold acc
  rw [List.foldl_append, tot_app]

theorem at_inj {s s' : S} (h : s.at = s'.at) : s = s' := by
  obtain ⟨f, h1, p, fr, nd, a, c⟩ := s
  obtain ⟨f', h1', p', fr', nd', a', c'⟩ := s'
  simp only [S.at, FrameAt.mk.injEq, Ar2.mk.injEq] at h
  obtain ⟨rfl, rfl, rfl, rfl, rfl, rfl, rfl⟩ := h
  rfl

def MapF (l : Ref01Law) (m : List (FrameGoal × Bool)) : Prop := ∀ s k, Inv2 l s → mget m ⟨s.at, k⟩ = some true → ¬ Rch l s k

abbrev ShR := Option (Bool × List (FrameGoal × Bool) × List Int)
def ShP (l : Ref01Law) (s : S) (left : Int) (out : List Int) (r : ShR) : Prop :=
  ∃ ok m' out', r = some (ok, m', out') ∧ MapF l m' ∧ (ok = true → ∃ ext, out' = out ++ ext ∧ Ext l s ext left) ∧ (ok = false → out' = out ∧ ¬ Rch l s left)

theorem sh_loop {l : Ref01Law} (hV : V l) {s : S} (hi : Inv2 l s) (hf : s.f < l.fFrames) {left : Int} (h0 : 0 ≤ left) (h1 : left ≤ 500) {out : List Int} (hout : out.length ≤ 100)
    (rec1 : (FramePlay × Int × List (FrameGoal × Bool) × List Int) → ShR)
    (hrec : ∀ b, 0 ≤ b → b ≤ s.p → ∀ m, MapF l m → ShP l (nxt l s b) (left - wor l s b) (out ++ [b]) (rec1 ((nxt l s b).play l, left - wor l s b, m, out ++ [b]))) :
    ∀ (n : Nat) (v : Int) (m : List (FrameGoal × Bool)), 0 ≤ v → v ≤ s.p + 1 → (s.p + 1 - v).toNat < n → MapF l m → (∀ b, 0 ≤ b → b < v → b ≤ s.p → ¬ Rch l (nxt l s b) (left - wor l s b)) →
      ShP l s left out (loopN (fun rec3 x => frameShows1_b2 2097152 rec1 (s.play l) left rec3 x.1 x.2.1 x.2.2.1 x.2.2.2) n (s.p + 1, v, m, out)) := by
  intro n
  induction n with
  | zero => intro v m _ _ h; omega
  | succ n ih =>
    intro v m hv0 hv1 hlt hm hno
    have hpp := hi.inv.p1
    have hv2 := hV.p2
    have step : ∀ rec3 : (Int × Int × List (FrameGoal × Bool) × List Int) → ShR,
        (v ≤ s.p → ∀ hh : (∀ m2, MapF l m2 → ¬ Rch l (nxt l s v) (left - wor l s v) → ShP l s left out (rec3 (s.p + 1, v + 1, m2, out))), ShP l s left out (frameShows1_b2 2097152 rec1 (s.play l) left rec3 (s.p + 1) v m out)) ∧
        (¬ v ≤ s.p → frameShows1_b2 2097152 rec1 (s.play l) left rec3 (s.p + 1) v m out = some (false, mput m ⟨s.at, left⟩ true, out)) := by
      intro rec3
      unfold frameShows1_b2
      refine ⟨fun hle hh => ?_, fun hle => by rw [if_neg (by simp; omega)]; rfl⟩
      have hw := wor_bd hV hi.inv hle
      rw [if_pos (by simp; omega), next_eq hV hi.inv hf hle, app1_ok (by omega)]
      simp -implicitDefEqProofs only [Option.bind_some]
      rw [w64_id (n := left - wor l s v) (by omega) (by omega)]
      obtain ⟨ok, m2, out2, e1, e2, e3, e4⟩ := hrec v hv0 hle m hm
      rw [e1]
      simp -implicitDefEqProofs only [Option.bind_some]
      cases ok with
      | true =>
        obtain ⟨ext, e5, e6⟩ := e3 rfl
        refine ⟨true, m2, out2, by simp, e2, fun _ => ⟨v :: ext, by rw [e5]; simp, ?_⟩, fun h => by cases h⟩
        have hm3 : may l s v := ⟨hf, by omega, hle⟩
        refine ⟨⟨hm3, e6.ok⟩, e6.dn, fun b hb => ?_, ?_⟩
        · rcases List.mem_cons.1 hb with rfl | hb
          · exact hv0
          · exact e6.nn b hb
        · simp only [wsum]; rw [e6.w]; omega
      | false =>
        obtain ⟨e5, e6⟩ := e4 rfl
        subst e5
        simp only [Bool.false_eq_true, if_false]
        rw [w64_id (by simp only [List.length_append, List.length_singleton]; omega) (by simp only [List.length_append, List.length_singleton]; omega), w64_id (n := v + 1) (by omega) (by omega)]
        have es : slc (out ++ [v]) 0 (((out ++ [v]).length : Int) - 1) = some out := by
          have := slc_ok (L := out ++ [v]) (a := 0) (b := out.length) (Nat.zero_le _) (by simp)
          rw [show (((out ++ [v]).length : Int) - 1) = ((out.length : Nat) : Int) by simp]
          simpa using this
        rw [es]
        simp -implicitDefEqProofs only [Option.bind_some]
        exact hh m2 e2 e6
    obtain ⟨s1, s2⟩ := step (loopN (fun rec3 x => frameShows1_b2 2097152 rec1 (s.play l) left rec3 x.1 x.2.1 x.2.2.1 x.2.2.2) n)
    by_cases hle : v ≤ s.p
    · show ShP l s left out (frameShows1_b2 2097152 rec1 (s.play l) left _ (s.p + 1) v m out)
      refine s1 hle fun m2 hm2 hr => ih (v + 1) m2 (by omega) (by omega) (by omega) hm2 fun b b0 b1 b2 => ?_
      by_cases e : b = v
      · rw [e]; exact hr
      · exact hno b b0 (by omega) b2
    · show ShP l s left out (frameShows1_b2 2097152 rec1 (s.play l) left _ (s.p + 1) v m out)
      rw [s2 hle]
      have hnr : ¬ Rch l s left := by
        intro h
        cases h with
        | done h => omega
        | @step _ b k hm2 hb h =>
          have := hno b hb (by have := hm2.2.2; omega) hm2.2.2
          rw [show wor l s b + k - wor l s b = k by omega] at this
          exact this h
      refine ⟨false, _, out, rfl, fun s' k hi' hg => ?_, fun h => by (cases h), fun _ => ⟨rfl, hnr⟩⟩
      rw [mget_mput] at hg
      split at hg
      · rename_i e
        simp only [FrameGoal.mk.injEq] at e
        rw [at_inj e.1, e.2]; exact hnr
      · exact hm s' k hi' hg

theorem shows_ex {l : Ref01Law} (hV : V l) : ∀ (n : Nat) (s : S) (left : Int) (m : List (FrameGoal × Bool)) (out : List Int), Inv2 l s → mu l s < n → -30 ≤ left → left ≤ 500 → out.length + mu l s ≤ 100 → MapF l m →
    ShP l s left out (loopN (fun rr x => frameShows1_f 2097152 rr x.1 x.2.1 x.2.2.1 x.2.2.2) n (s.play l, left, m, out)) := by
  intro n
  induction n with
  | zero => intro s left m out _ h; omega
  | succ n ih =>
    intro s left m out hi hlt h0 h1 hout hm
    have step : ∀ rec1, (∀ b, 0 ≤ b → b ≤ s.p → s.f < l.fFrames → 0 ≤ left → ∀ m, MapF l m → ShP l (nxt l s b) (left - wor l s b) (out ++ [b]) (rec1 ((nxt l s b).play l, left - wor l s b, m, out ++ [b]))) →
        ShP l s left out (frameShows1_f 2097152 rec1 (s.play l) left m out) := by
      intro rec1 hrec
      unfold frameShows1_f
      rw [done_eq]
      simp -implicitDefEqProofs only [Option.bind_some]
      by_cases hd : s.f = l.fFrames
      · rw [if_pos (by simpa using hd)]
        refine ⟨decide (left = 0), m, out, rfl, hm, fun h => ⟨[], by simp, ?_⟩, fun h => ⟨rfl, fun hr => ?_⟩⟩
        · have h5 : left = 0 := by simpa using h
          exact ⟨trivial, hd, by simp, by rw [h5]; rfl⟩
        · have h5 : left ≠ 0 := by simpa using h
          have hb := rch_bd hV hr hi
          have hg : G l s = 0 := by unfold G; rw [if_pos hd]
          omega
      · rw [if_neg (by simpa using hd)]
        have hf : s.f < l.fFrames := by have := hi.inv.f1; omega
        have ea : (s.play l).fAt = s.at := rfl
        have ep : s.at.fStanding = s.p := rfl
        rw [ea, ep]
        unfold mgt
        by_cases hneg : left < 0
        · rw [if_pos (by simpa using hneg)]
          simp -implicitDefEqProofs only [Option.bind_some, if_true]
          exact ⟨false, m, out, rfl, hm, fun h => (by cases h), fun _ => ⟨rfl, fun hr => by have := rch_bd hV hr hi; omega⟩⟩
        · rw [if_neg (by simpa using hneg)]
          simp -implicitDefEqProofs only [Option.bind_some]
          cases hget : (mget m ⟨s.at, left⟩).getD false with
          | true =>
            simp only [if_true]
            refine ⟨false, m, out, rfl, hm, fun h => (by cases h), fun _ => ⟨rfl, hm s left hi ?_⟩⟩
            cases hq : mget m ⟨s.at, left⟩ with
            | none => rw [hq] at hget; cases hget
            | some b => rw [hq] at hget; simp at hget; rw [hget]
          | false =>
            simp only [Bool.false_eq_true, if_false]
            have hp0 := hi.inv.p0
            have hp1 := hi.inv.p1
            have hv2 := hV.p2
            rw [w64_id (by omega) (by omega)]
            exact sh_loop hV hi hf (by omega) h1 (by omega) rec1 (fun b b0 b1 m hm => hrec b b0 b1 hf (by omega) m hm) 2097152 0 m (Int.le_refl _) (by omega) (by omega) hm fun b b0 b1 => by omega
    exact step (loopN (fun rr x => frameShows1_f 2097152 rr x.1 x.2.1 x.2.2.1 x.2.2.2) n) fun b b0 b1 hf hl m hm => by
      have hc := cnt_le hV hi.inv b1
      have hw := wor_bd hV hi.inv b1
      have hmu := mu_step hV hi.inv hf hc.1 hc.2
      have hmu' : mu l (nxt l s b) < mu l s := hmu
      exact ih (nxt l s b) (left - wor l s b) m (out ++ [b]) (inv2_nxt hV hi hf b1) (by omega) (by omega) (by omega) (by simp; omega) hm

theorem shows_eq (l : Ref01Law) (sheet : List Int) (hn : sheet.length ≤ 45) (final : Int) : ∃ b e, frameShows 2097152 (fl l) sheet final = some (b, e) ∧ (flt l sheet ≠ 0 → b = [] ∧ e = flt l sheet) ∧
    (flt l sheet = 0 → (Rch l (acc l sheet).s (final - (acc l sheet).tot) → e = 0 ∧ Ext l (acc l sheet).s b (final - (acc l sheet).tot)) ∧ (¬ Rch l (acc l sheet).s (final - (acc l sheet).tot) → e = 9 ∧ b = [])) := by
  unfold frameShows
  rw [check_eq l sheet hn]
  simp -implicitDefEqProofs only [Option.bind_some]
  by_cases h0 : flt l sheet = 0
  · obtain ⟨hV, _, hk⟩ := flt_ok.1 h0
    have hA := ainv hV hk
    have hi := inv2_A hA
    have hg := G_bd hV hi
    have hb := acc_tot_bd hV hk
    have hmu := mu_le hV hA.inv
    have hlen := ok_len hV hk
    rw [if_neg (by simp [h0]), lawSpan_eq hV hk (by omega)]
    simp -implicitDefEqProofs only [Option.bind_some, within_eq]
    by_cases hr : (acc l sheet).tot ≤ final ∧ final ≤ (acc l sheet).tot + G l (acc l sheet).s
    · rw [if_neg (by simp [hr]), behind_eq hV hk (by omega), total_eq hV hk (by omega)]
      simp -implicitDefEqProofs only [Option.bind_some]
      rw [w64_id (by omega) (by omega)]
      obtain ⟨ok, m', out', e1, e2, e3, e4⟩ := shows_ex hV 2097152 (acc l sheet).s (final - (acc l sheet).tot) [] [] hi (by omega) (by omega) (by omega) (by simp; omega) (fun s k _ h => by simp [mget] at h)
      have e1' : frameShows1 2097152 ((acc l sheet).s.play l) (final - (acc l sheet).tot) [] [] = some (ok, m', out') := e1
      rw [e1']
      simp -implicitDefEqProofs only [Option.bind_some]
      cases ok with
      | true =>
        obtain ⟨ext, q1, q2⟩ := e3 rfl
        simp only [List.nil_append] at q1
        subst q1
        have hko : Ok l (s0 l) (sheet ++ out') := (ok_app l _ _ _).2 ⟨hk, by rw [← acc_s]; exact q2.ok⟩
        have hlo := ok_len hV hko
        rw [List.length_append] at hlo
        refine ⟨out', 0, ?_, fun h => absurd h0 h, fun _ => ⟨fun _ => ⟨rfl, q2⟩, fun h => absurd (ext_rch q2) h⟩⟩
        unfold slicesClone slicesClone1
        rw [app_ok (by simp; omega)]
        simp
      | false =>
        obtain ⟨_, q2⟩ := e4 rfl
        exact ⟨[], 9, by simp, fun h => absurd h0 h, fun _ => ⟨fun h => absurd h q2, fun _ => ⟨rfl, rfl⟩⟩⟩
    · rw [if_pos (by simp [hr])]
      refine ⟨[], 9, by simp, fun h => absurd h0 h, fun _ => ⟨fun h => ?_, fun _ => ⟨rfl, rfl⟩⟩⟩
      have := rch_bd hV h hi
      exact absurd ⟨by omega, by omega⟩ hr
  · rw [if_pos (by simp [h0])]
    exact ⟨[], _, rfl, fun _ => ⟨rfl, rfl⟩, fun h => absurd h h0⟩

theorem rfinal_eq {l : Ref01Law} (hV : V l) {sheet : List Int} (hk : Ok l (s0 l) sheet) (hn : sheet.length ≤ 90) (hd : (acc l sheet).s.f = l.fFrames) : ref01Final 2097152 l sheet = some (acc l sheet).tot := by
  have hA := ainv hV hk
  have := hV.f1; have := hV.f2
  unfold ref01Final
  rw [play_acc hV hk hn]
  simp -implicitDefEqProofs only [Option.bind_some]
  have e : (acc l sheet).s.stand.fFrame = l.fFrames := hd
  have e2 : (acc l sheet).tr.length = sheet.length := by rw [hA.trl, acc_len]
  rw [e, e2, if_neg (by simp)]
  simp -implicitDefEqProofs only [Option.bind_some]
  rw [if_neg (by simp), rcounts_eq hV hk hn]
  simp -implicitDefEqProofs only [Option.bind_some]
  rw [w64_id (by omega) (by omega), done_last hV hk hd]
  rfl
/-- what an ending finds: the final count is in the span -/
theorem ending_in {l : Ref01Law} (hV : V l) : ∀ (ys : List Int) {s : S}, Inv2 l s → Ok l s ys → 0 ≤ wsum l s ys ∧ wsum l s ys + G l (run l s ys) ≤ G l s
  | [], s, hi, _ => by simp [wsum, run]
  | y :: ys, s, hi, hk => by
    have hm := hk.1
    obtain ⟨h1, h2⟩ := ending_in hV ys (inv2_nxt hV hi hm.1 hm.2.2) hk.2
    have hw := wor_bd hV hi.inv hm.2.2
    have hc := cnt_le hV hi.inv hm.2.2
    have hs : wor l s y + G l (nxt l s y) ≤ G l s := (G_step hV hi hm.1 hc.1 hc.2).1
    simp only [wsum, run]
    omega

end Go.Proofs.Ythjafigloabfpaa
