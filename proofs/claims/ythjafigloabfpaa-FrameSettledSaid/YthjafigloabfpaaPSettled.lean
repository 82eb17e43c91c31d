/-
  The law FrameSettled, typed, is true.
-/
import Derived.Test.YthjafigloabfpaaPI
import Derived.Test.YthjafigloabfpaaPW
import Derived.Test.YthjafigloabfpaaDFrameSettled
set_option linter.all false
namespace Go.Proofs.Ythjafigloabfpaa
open Go.Kp

def prevC (l : Ref01Law) (w : List Int) (k : Nat) : List Int := if k = 0 then [] else ctsA (acc l (w.take (k - 1)))

theorem prev_pre {l : Ref01Law} (hV : V l) {w : List Int} (hk : Ok l (s0 l) w) {k : Nat} (hle : k ≤ w.length) : ∃ zs, ctsA (acc l (w.take k)) = prevC l w k ++ zs ∧ zs.length ≤ 3 := by
  cases k with
  | zero => exact ⟨[], by simp [prevC, acc, acc0, ctsA, cts], by simp⟩
  | succ k =>
    have hlt : k < w.length := by omega
    have hp := ok_pre hk (k + 1)
    rw [List.take_succ_eq_append_getElem hlt] at hp
    obtain ⟨zs, h1, h2⟩ := cts_step hV hp
    refine ⟨zs, ?_, h2⟩
    rw [List.take_succ_eq_append_getElem hlt, h1]
    simp [prevC]

theorem settled_ok (l : Ref01Law) (sheet words : List Int) (hw : ∀ x ∈ words, 0 ≤ x ∧ x ≤ 255) : law01FrameSettled 1000 l sheet words = some true := by
  unfold law01FrameSettled
  simp only [ready_eq, wakes_ok, Option.bind_some]
  by_cases hr : V l ∧ sheet.length ≤ 40 ∧ Ok l (s0 l) sheet
  · obtain ⟨hV, hn, hk⟩ := hr
    rw [if_neg (by simp [hV, hn, hk])]
    obtain ⟨ext, he, hkw, hd, _⟩ := ended_eq hV words hw hk
    rw [he]
    simp only [Option.bind_some]
    generalize sheet ++ ext = w at *
    have hwl := ok_len hV hkw
    have h := loopN_rel (ι := Nat) (b := fun rec15 x => law01FrameSettled_b5 1000 l w rec15 x.1 x.2) (fun k => (prevC l w k, (k : Int))) (fun k => some true) (fun k => w.length + 1 - k) (fun k => k ≤ w.length + 1) ?_ 1000 0 (Nat.zero_le _) (by omega)
    · exact h
    · intro k rec hk1 ih
      try simp only at hk1 ih ⊢
      unfold law01FrameSettled_b5
      by_cases hle : k ≤ w.length
      · have hs : slc w 0 (k : Int) = some (w.take k) := by
          have := slc_ok (L := w) (a := 0) (b := k) (Nat.zero_le _) hle
          simpa using this
        have hkk := ok_pre hkw k
        have h0 : flt l (w.take k) = 0 := flt_ok.2 ⟨hV, by simp; omega, hkk⟩
        rw [if_pos (by simp; omega)]
        simp only [law_eq, Option.bind_some]
        rw [hs]
        simp only [Option.bind_some]
        rw [list_eq (by simp; omega)]
        simp only [Option.bind_some]
        rw [read_eq l (w.take k) (by simp; omega)]
        simp only [h0, if_true, Option.bind_some]
        obtain ⟨zs, hz, hz3⟩ := prev_pre hV hkw hle
        have ec : (gameA l (w.take k)).fCounts = prevC l w k ++ zs := hz
        have hpl : (prevC l w k).length ≤ 30 := by
          have h1 := cts_len (acc l (w.take k)).cs (acc l (w.take k)).E 0 0
          have h2 := E_le hV (ainv hV hkk)
          have h3 := congrArg List.length hz
          rw [List.length_append] at h3
          unfold ctsA at h3
          omega
        rw [ec, if_neg (by decide)]
        simp only [List.length_append]
        rw [if_neg (by simp; omega)]
        simp only [Option.bind_some]
        rw [w64_id (by omega) (by omega), if_neg (by simp; omega)]
        have h2 := loopN_rel (ι := Nat) (b := fun rec19 x => law01FrameSettled_b4 1000 (prevC l w k) (k : Int) rec (gameA l (w.take k)) rec19 x) (fun j => (j : Int)) (fun j => some true) (fun j => (prevC l w k).length - j) (fun j => j ≤ (prevC l w k).length) ?_ 1000 0 (Nat.zero_le _) (by omega)
        · exact h2
        · intro j rec2 hj ih2
          try simp only at hj ih2 ⊢
          unfold law01FrameSettled_b4
          by_cases hlt : j < (prevC l w k).length
          · have h5 : (prevC l w k)[j]? = some (prevC l w k)[j] := by simp [hlt]
            have h6 : (gameA l (w.take k)).fCounts[j]? = some (prevC l w k)[j] := by rw [ec, List.getElem?_append_left hlt, h5]
            rw [if_pos (by simpa using hlt), idx_at h5, idx_at h6]
            simp only [Option.bind_some]
            rw [if_neg (by simp), w64_id (by omega) (by omega)]
            have := ih2 (j + 1) (by omega) (by omega)
            rw [show ((j : Int) + 1) = ((j + 1 : Nat) : Int) by omega]
            exact this
          · rw [if_neg (by simpa using hlt)]
            unfold law01FrameSettled_k3 law01FrameSettled_k2
            rw [w64_id (by omega) (by omega)]
            have := ih (k + 1) (by omega) (by omega)
            have e : prevC l w (k + 1) = (gameA l (w.take k)).fCounts := by simp [prevC, gameA]
            rw [← e, show ((k : Int) + 1) = ((k + 1 : Nat) : Int) by omega]
            exact this
      · have : k = w.length + 1 := by omega
        subst this
        rw [if_neg (by simp; omega)]
        unfold law01FrameSettled_k1
        have e : prevC l w (w.length + 1) = ctsA (acc l w) := by simp [prevC]
        rw [e, wakes_ok]
        have := done_len hV hkw hd
        simp [this]
  · rw [if_pos (by rw [decide_eq_false hr]; rfl)]
end Go.Proofs.Ythjafigloabfpaa
