/-
  The law FrameReads, typed, is true.
-/
import Derived.Test.YthjafigloabfpaaPH
import Derived.Test.YthjafigloabfpaaPW
import Derived.Test.YthjafigloabfpaaDFrameReads
set_option linter.all false
namespace Go.Proofs.Ythjafigloabfpaa
open Go.Kp

theorem reads_ok (l : Ref01Law) (sheet : List Int) : law01FrameReads 1000 l sheet = some true := by
  unfold law01FrameReads
  rw [wakes_ok]
  by_cases hn : sheet.length ≤ 45
  · rw [if_neg (by simp; omega)]
    simp only [law_eq, Option.bind_some, list_eq (show sheet.length ≤ 1000 by omega), fault_eq l sheet (by omega), read_eq l sheet hn]
    by_cases h0 : flt l sheet = 0
    · obtain ⟨hV, _, hk⟩ := flt_ok.1 h0
      have hA := ainv hV hk
      have hg := ginv hV hk
      rw [if_neg (by simp [h0]), rread_eq hV hk (by omega)]
      simp only [Option.bind_some, h0, if_true]
      have hsame := same_eq (gameA l sheet) (by have := frames_len hV hk (by omega) (i := sheet.length); rw [List.take_length] at this; show (grA l sheet).length ≤ 900; omega)
        (fun r hr => by have := row_le hr; have e : (gameA l sheet).fFrames.flatten = sheet := hg.flat; rw [e] at this; omega)
        (by have := cts_len (acc l sheet).cs (acc l sheet).E 0 0; show (cts _ 0 0 _).length ≤ 900; have := hA.fE; have := hA.inv.f1; have := hV.f2; omega)
      rw [hsame]
      simp
    · rw [if_pos (by simp [h0])]
      simp only [h0, if_false]
      have hsame := same_eq ⟨[], [], 0, false⟩ (by simp) (by simp) (by simp)
      rw [hsame]
      simp
  · rw [if_pos (by simp; omega)]
    rfl
end Go.Proofs.Ythjafigloabfpaa
