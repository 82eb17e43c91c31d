/-
  The law FrameBads, typed, is true.
-/
import Derived.Test.YthjafigloabfpaaPB
import Derived.Test.YthjafigloabfpaaPW
import Derived.Test.YthjafigloabfpaaDFrameBads
set_option linter.all false
namespace Go.Proofs.Ythjafigloabfpaa
open Go.Kp

theorem bad_eq (l : Ref01Law) (sheet : List Int) (hn : sheet.length ≤ 45) :
    frameBad 1000 (fl l) sheet = some (if flt l sheet = 10 then (good l (s0 l) sheet : Int) else 0, if flt l sheet = 0 then 7 else if flt l sheet = 10 then 0 else flt l sheet) := by
  unfold frameBad
  rw [check_eq l sheet hn]
  simp only [Option.bind_some]
  by_cases h0 : flt l sheet = 0
  · simp [h0]
  · by_cases h1 : flt l sheet = 10
    · have hV := (flt_law.1 h1).1
      rw [lawBad_eq hV sheet hn]
      simp [h1]
    · simp [h0, h1]

theorem bads_ok (l : Ref01Law) (sheet : List Int) : law01FrameBads 1000 l sheet = some true := by
  unfold law01FrameBads
  rw [wakes_ok]
  by_cases hn : sheet.length ≤ 45
  · rw [if_neg (by simp; omega)]
    simp only [law_eq, Option.bind_some, checkLaw_eq, list_eq (show sheet.length ≤ 1000 by omega), isLaw_eq, fault_eq l sheet (by omega), bad_eq l sheet hn]
    have e : (Option.bind (if (decide ((if V l then (0 : Int) else 1) = 0) != decide (V l)) = true then some true else if (!decide ((if V l then (0 : Int) else 1) = 0)) = true then some (!decide ((if V l then (0 : Int) else 1) = 1)) else some false) fun v2 => some v2) = some false := by
      by_cases hV : V l <;> simp [hV]
    obtain ⟨v2, q1, q2⟩ := obind e
    cases q2
    rw [q1]
    simp only [Option.bind_some]
    by_cases h0 : flt l sheet = 0
    · simp [h0]
    · by_cases h1 : flt l sheet = 10
      · have hV := (flt_law.1 h1).1
        rw [play_eq hV sheet (by omega)]
        have h1' := good_le l (s0 l) sheet
        simp [h1, trace_length, Nat.min_eq_left h1']
      · simp [h0, h1]
  · rw [if_pos (by simp; omega)]
    rfl
end Go.Proofs.Ythjafigloabfpaa
