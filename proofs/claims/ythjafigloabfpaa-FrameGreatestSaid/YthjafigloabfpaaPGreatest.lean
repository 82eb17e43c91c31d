/-
  The law FrameGreatest, typed, is true.
-/
import Derived.Test.YthjafigloabfpaaPJ
import Derived.Test.YthjafigloabfpaaPW
import Derived.Test.YthjafigloabfpaaDFrameGreatest
set_option linter.all false
namespace Go.Proofs.Ythjafigloabfpaa
open Go.Kp

theorem greatest_ok (l : Ref01Law) : law01FrameGreatest 1000 l = some true := by
  unfold law01FrameGreatest
  simp only [law_eq, isLaw_eq, wakes_ok, Option.bind_some]
  rw [span_eq l [] (by simp)]
  simp only [Option.bind_some]
  by_cases hV : V l
  · have h0 : flt l [] = 0 := flt_ok.2 ⟨hV, by simp, trivial⟩
    have e1 : (acc l []).tot = 0 := rfl
    have e2 : G l (acc l []).s = 3 * l.fPins * l.fFrames := by
      show G l (s0 l) = _
      have := hV.f1
      unfold G s0
      simp only
      rw [if_neg (by omega), Int.sub_zero, Int.mul_sub, Int.mul_assoc]
      omega
    have b0 := hV.p1; have b1 := hV.p2; have b2 := hV.f1; have b3 := hV.f2
    have k1 : 0 ≤ 3 * l.fPins * l.fFrames := Int.mul_nonneg (by omega) (by omega)
    have k2 : 3 * l.fPins * l.fFrames ≤ 30 * 10 := Int.mul_le_mul (by omega) (by omega) (by omega) (by omega)
    rw [h0, e1, e2, w64_id (n := 3 * l.fPins) (by omega) (by omega), w64_id (by omega) (by omega)]
    simp [hV]
  · have h0 : flt l [] = 1 := by unfold flt; simp [hV]
    simp [h0, hV]
end Go.Proofs.Ythjafigloabfpaa
