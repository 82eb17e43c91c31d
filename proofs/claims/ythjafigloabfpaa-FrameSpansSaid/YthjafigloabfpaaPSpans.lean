/-
  The law FrameSpans, typed, is true.
-/
import Derived.Test.YthjafigloabfpaaPK
import Derived.Test.YthjafigloabfpaaPW
import Derived.Test.YthjafigloabfpaaDFrameSpans
set_option linter.all false
namespace Go.Proofs.Ythjafigloabfpaa
open Go.Kp

theorem spans_ok (l : Ref01Law) (sheet : List Int) : law01FrameSpans 1000 l sheet = some true := by
  unfold law01FrameSpans
  rw [wakes_ok]
  by_cases hn : sheet.length ≤ 45
  · rw [if_neg (by simp; omega)]
    simp only [law_eq, Option.bind_some, list_eq (show sheet.length ≤ 1000 by omega), fault_eq l sheet (by omega), span_eq l sheet hn]
    by_cases h0 : flt l sheet = 0
    · obtain ⟨hV, _, hk⟩ := flt_ok.1 h0
      rw [if_neg (by simp [h0]), rspan_eq hV hk (by omega)]
      simp [h0]
    · rw [if_pos (by simp [h0])]
      simp [h0]
  · rw [if_pos (by simp; omega)]
    rfl
end Go.Proofs.Ythjafigloabfpaa
