/-
  The law FrameSpans, typed.
-/
import Derived.Test.YthjafigloabfpaaDef
namespace Go.Proofs.Ythjafigloabfpaa
open Go.Kp
set_option linter.all false

def law01FrameSpans (N : Nat) (l1 : Ref01Law) (sheet1 : List Int) : Option (Bool) :=
  if decide (45 < (sheet1.length : Int)) then
    Option.bind (law01Wakes N) fun r4 =>
    some r4
  else
    Option.bind (law01Law N l1) fun r7 =>
    Option.bind (law01List N sheet1) fun r8 =>
    Option.bind (frameSpan N r7 r8) fun (ra2, rb2) =>
    Option.bind (law01Fault N l1 sheet1) fun r14 =>
    if !decide (r14 = 0) then
      Option.bind (
        if decide (rb2 = r14) then
          if decide (ra2 = (FrameRange.mk 0 0)) then
            Option.bind (law01Wakes N) fun r16 =>
            some r16
          else
            some false
        else
          some false
      ) fun v2 =>
      some v2
    else
      Option.bind (ref01Span N l1 sheet1) fun r18 =>
      Option.bind (
        if decide (rb2 = 0) then
          if decide (ra2 = (FrameRange.mk r18.fLo r18.fHi)) then
            Option.bind (law01Wakes N) fun r20 =>
            some r20
          else
            some false
        else
          some false
      ) fun v3 =>
      some v3
end Go.Proofs.Ythjafigloabfpaa
