/-
  The law FrameEndings, typed, is true.
-/
import Derived.Test.YthjafigloabfpaaPL
import Derived.Test.YthjafigloabfpaaPW
import Derived.Test.YthjafigloabfpaaDFrameEndings
set_option linter.all false
namespace Go.Proofs.Ythjafigloabfpaa
open Go.Kp

/-- what an ending finds: the final count is in the span -/
theorem ending_in {l : Ref01Law} (hV : V l) : ∀ (ys : List Int) {s : S}, Inv2 l s → Ok l s ys → 0 ≤ wsum l s ys ∧ wsum l s ys + G l (run l s ys) ≤ G l s
  | [], s, hi, _ => by simp [wsum, run]
  | y :: ys, s, hi, hk => by
    have hm := hk.1
    obtain ⟨h1, h2⟩ := ending_in hV ys (inv2_nxt hV hi hm.1 hm.2.2) hk.2
    have hw := wor_bd hV hi.inv hm.2.2
    have hc := cnt_le hV hi.inv hm.2.2
    have hs : wor l s y + G l (nxt l s y) ≤ G l s := (G_step hV hi hm.1 hc.1 hc.2).1
    simp only [wsum, run]
    omega

/-- both ends of the span are reached -/
theorem end_ok {l : Ref01Law} {sheet : List Int} (h0 : flt l sheet = 0) {k : Int} (hr : Rch l (acc l sheet).s k) {b : List Int} {e : Int}
    (h : (Rch l (acc l sheet).s k → e = 0 ∧ Ext l (acc l sheet).s b k)) : e = 0 ∧ frameRead 1000 (fl l) (sheet ++ b) = some (gameA l (sheet ++ b), 0) ∧ (gameA l (sheet ++ b)).fDone = true ∧ (((gameA l (sheet ++ b)).fCounts.length : Nat) : Int) = l.fFrames ∧
      idx (gameA l (sheet ++ b)).fCounts (l.fFrames - 1) = some ((acc l sheet).tot + k) ∧ sheet.length + b.length ≤ 30 := by
  obtain ⟨hV, hn, hk⟩ := flt_ok.1 h0
  obtain ⟨q1, q2⟩ := h hr
  have hko : Ok l (s0 l) (sheet ++ b) := (ok_app l _ _ _).2 ⟨hk, by rw [← acc_s]; exact q2.ok⟩
  have hlo := ok_len hV hko
  have hd : (acc l (sheet ++ b)).s.f = l.fFrames := by rw [acc_s, run_app, ← acc_s]; exact q2.dn
  have ht : (acc l (sheet ++ b)).tot = (acc l sheet).tot + k := by rw [acc_tot_app, q2.w]
  have hf : flt l (sheet ++ b) = 0 := flt_ok.2 ⟨hV, by omega, hko⟩
  refine ⟨q1, ?_, by simp [gameA, hd], done_len hV hko hd, ?_, by rwa [List.length_append] at hlo⟩
  · rw [read_eq l _ (by omega), if_pos hf, hf]
  · rw [← ht]; exact done_last hV hko hd

theorem endings_ok (l : Ref01Law) (sheet words : List Int) (hw : ∀ x ∈ words, 0 ≤ x ∧ x ≤ 255) : law01FrameEndings 1000 l sheet words = some true := by
  unfold law01FrameEndings
  simp only [ready_eq, wakes_ok, Option.bind_some]
  by_cases hr : V l ∧ sheet.length ≤ 40 ∧ Ok l (s0 l) sheet
  · obtain ⟨hV, hn, hk⟩ := hr
    rw [if_neg (by simp [hV, hn, hk])]
    obtain ⟨ext, he, hkw, hd, _⟩ := ended_eq hV words hw hk
    have hwl := ok_len hV hkw
    have hwl2 := hwl
    rw [List.length_append] at hwl2
    have h0 : flt l sheet = 0 := flt_ok.2 ⟨hV, hn, hk⟩
    have hw0 : flt l (sheet ++ ext) = 0 := flt_ok.2 ⟨hV, by omega, hkw⟩
    have f1 := hV.f1; have f2 := hV.f2
    have hA := ainv hV hk
    have hi := inv2_A hA
    have hmu := mu_le hV hA.inv
    rw [he]
    simp only [law_eq, Option.bind_some, list_eq (show (sheet ++ ext).length ≤ 1000 by omega), list_eq (show sheet.length ≤ 1000 by omega), read_eq l (sheet ++ ext) (by omega), span_eq l sheet (by omega), h0, hw0, if_true]
    have hdn : (gameA l (sheet ++ ext)).fDone = true := by simp [gameA, hd]
    have hcl : (((gameA l (sheet ++ ext)).fCounts.length : Nat) : Int) = l.fFrames := done_len hV hkw hd
    have hct : idx (gameA l (sheet ++ ext)).fCounts (l.fFrames - 1) = some (acc l (sheet ++ ext)).tot := done_last hV hkw hd
    rw [if_neg (by decide), hdn, hcl]
    simp only [Bool.not_true, Bool.false_eq_true, if_false, decide_true, Option.bind_some]
    rw [w64_id (by omega) (by omega), hct]
    simp only [Option.bind_some]
    have hext : Ok l (acc l sheet).s ext := by rw [acc_s]; exact ((ok_app l _ _ _).1 hkw).2
    have hin := ending_in hV ext hi hext
    have hrun : run l (acc l sheet).s ext = (acc l (sheet ++ ext)).s := by rw [acc_s, acc_s, run_app]
    have hge : G l (acc l (sheet ++ ext)).s = 0 := by unfold G; rw [if_pos hd]
    rw [hrun, hge] at hin
    have htot := acc_tot_app l sheet ext
    rw [if_neg (by simp; omega)]
    simp only [Option.bind_some]
    rw [if_neg (by simp; omega)]
    obtain ⟨r1, r2⟩ := rch_ends hV 1000 (s := (acc l sheet).s) (by omega) hi
    -- the lesser end
    obtain ⟨b1, e1, s1, _, s2⟩ := shows_eq l sheet (by omega) (acc l sheet).tot
    have s3 := (s2 h0).1
    rw [Int.sub_self] at s3
    obtain ⟨g1, g2, g3, g4, g5, g6⟩ := end_ok h0 r1 s3
    rw [s1]
    simp only [Option.bind_some]
    rw [app_ok (by omega)]
    simp only [Option.bind_some]
    rw [g2]
    simp only [Option.bind_some]
    rw [g1, g3, g4, g5]
    simp only [decide_true, Bool.not_true, Bool.false_eq_true, if_false, Option.bind_some, Int.add_zero]
    -- the greater end
    obtain ⟨b2, e2, t1, _, t2⟩ := shows_eq l sheet (by omega) ((acc l sheet).tot + G l (acc l sheet).s)
    have t3 := (t2 h0).1
    rw [show (acc l sheet).tot + G l (acc l sheet).s - (acc l sheet).tot = G l (acc l sheet).s by omega] at t3
    obtain ⟨u1, u2, u3, u4, u5, u6⟩ := end_ok h0 r2 t3
    rw [t1]
    simp only [Option.bind_some]
    rw [app_ok (by omega)]
    simp only [Option.bind_some]
    rw [u2]
    simp only [Option.bind_some]
    rw [u1, u3, u4, u5]
    simp only [decide_true, Bool.not_true, Bool.false_eq_true, if_false, Option.bind_some]
    -- the spans of what is between
    have hloop := loopN_rel (ι := Nat) (b := fun rec3 x => law01FrameEndings_b2 1000 l (sheet ++ ext) (acc l (sheet ++ ext)).tot rec3 x.1 x.2)
      (fun k => ((k : Int), FrameRange.mk (acc l ((sheet ++ ext).take (max (k - 1) sheet.length))).tot ((acc l ((sheet ++ ext).take (max (k - 1) sheet.length))).tot + G l (acc l ((sheet ++ ext).take (max (k - 1) sheet.length))).s)))
      (fun _ => some true) (fun k => (sheet ++ ext).length + 1 - k) (fun k => sheet.length ≤ k ∧ k ≤ (sheet ++ ext).length + 1) ?_ 1000 sheet.length ⟨Nat.le_refl _, by rw [List.length_append]; omega⟩ (by omega)
    · have em : max (sheet.length - 1) sheet.length = sheet.length := by omega
      have et : (sheet ++ ext).take sheet.length = sheet := by simp
      simp only [em, et] at hloop
      exact hloop
    · rintro k rec ⟨hk1, hk2⟩ ih
      try simp only at hk1 hk2 ih ⊢
      unfold law01FrameEndings_b2
      by_cases hle : k ≤ (sheet ++ ext).length
      · have hs : slc (sheet ++ ext) 0 (k : Int) = some ((sheet ++ ext).take k) := by
          have := slc_ok (L := sheet ++ ext) (a := 0) (b := k) (Nat.zero_le _) hle
          simpa using this
        have hkk := ok_pre hkw k
        have hlk := ok_len hV hkk
        have hf0 : flt l ((sheet ++ ext).take k) = 0 := flt_ok.2 ⟨hV, by omega, hkk⟩
        rw [if_pos (decide_eq_true (by omega))]
        simp only [law_eq, Option.bind_some]
        rw [hs]
        simp only [Option.bind_some]
        rw [list_eq (by omega)]
        simp only [Option.bind_some]
        rw [span_eq l _ (by omega)]
        simp only [Option.bind_some, hf0, if_true]
        have hcmp : (acc l ((sheet ++ ext).take (max (k - 1) sheet.length))).tot ≤ (acc l ((sheet ++ ext).take k)).tot ∧
            (acc l ((sheet ++ ext).take k)).tot + G l (acc l ((sheet ++ ext).take k)).s ≤ (acc l ((sheet ++ ext).take (max (k - 1) sheet.length))).tot + G l (acc l ((sheet ++ ext).take (max (k - 1) sheet.length))).s := by
          by_cases hks : k = sheet.length
          · have : max (k - 1) sheet.length = k := by omega
            rw [this]; omega
          · obtain ⟨j, rfl⟩ : ∃ j, k = j + 1 := ⟨k - 1, by omega⟩
            have hm : max (j + 1 - 1) sheet.length = j := by omega
            have hjl : j < (sheet ++ ext).length := by omega
            obtain ⟨x, hx, hmay, ha⟩ := at_i hkw hjl
            have hAj := ainv hV (ok_pre hkw j)
            have hw := wor_bd hV hAj.inv hmay.2.2
            have hc := cnt_le hV hAj.inv hmay.2.2
            have hst := (G_step hV (inv2_A hAj) hmay.1 hc.1 hc.2).1
            rw [hm, ha]
            show (acc l ((sheet ++ ext).take j)).tot ≤ (acc l ((sheet ++ ext).take j)).tot + wor l (acc l ((sheet ++ ext).take j)).s x ∧ (acc l ((sheet ++ ext).take j)).tot + wor l (acc l ((sheet ++ ext).take j)).s x + G l (nxt l (acc l ((sheet ++ ext).take j)).s x) ≤ _
            have hst' : wor l (acc l ((sheet ++ ext).take j)).s x + G l (nxt l (acc l ((sheet ++ ext).take j)).s x) ≤ G l (acc l ((sheet ++ ext).take j)).s := hst
            omega
        have hg := G_bd hV (inv2_A (ainv hV hkk))
        rw [if_neg (by decide)]
        rw [if_neg (by simp; omega), if_neg (by simp; omega)]
        simp only [Option.bind_some]
        rw [if_neg (by simp; omega), w64_id (by omega) (by omega)]
        have := ih (k + 1) ⟨by omega, by omega⟩ (by omega)
        have hm2 : max (k + 1 - 1) sheet.length = k := by omega
        rw [hm2] at this
        rw [show ((k : Int) + 1) = ((k + 1 : Nat) : Int) by omega]
        exact this
      · have hke : k = (sheet ++ ext).length + 1 := by omega
        have hm2 : max (k - 1) sheet.length = (sheet ++ ext).length := by rw [hke, List.length_append]; omega
        rw [if_neg (by rw [decide_eq_true_eq]; omega), hm2, List.take_length, hge]
        unfold law01FrameEndings_k1
        rw [wakes_ok]
        simp
  · rw [if_pos (by rw [decide_eq_false hr]; rfl)]
end Go.Proofs.Ythjafigloabfpaa
