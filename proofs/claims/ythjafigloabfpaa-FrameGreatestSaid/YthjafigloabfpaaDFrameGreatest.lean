/-
  The law FrameGreatest, typed.
-/
import Derived.Test.YthjafigloabfpaaDef
namespace Go.Proofs.Ythjafigloabfpaa
open Go.Kp
set_option linter.all false

def law01FrameGreatest (N : Nat) (l1 : Ref01Law) : Option (Bool) :=
  Option.bind (law01Law N l1) fun r2 =>
  Option.bind (frameSpan N r2 ([])) fun (ra2, rb2) =>
  Option.bind (ref01IsLaw N l1) fun r8 =>
  if !r8 then
    Option.bind (
      if decide (rb2 = 1) then
        if decide (ra2 = (FrameRange.mk 0 0)) then
          Option.bind (law01Wakes N) fun r10 =>
          some r10
        else
          some false
      else
        some false
    ) fun v2 =>
    some v2
  else
    Option.bind (
      if decide (rb2 = 0) then
        if decide (ra2 = ((FrameRange.mk 0 (w64 ((w64 (3 * l1.fPins)) * l1.fFrames))))) then
          Option.bind (law01Wakes N) fun r12 =>
          some r12
        else
          some false
      else
        some false
    ) fun v3 =>
    some v3
end Go.Proofs.Ythjafigloabfpaa
