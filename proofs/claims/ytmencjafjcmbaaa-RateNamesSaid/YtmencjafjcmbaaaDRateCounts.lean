/-
  The law RateCounts, typed.
-/
import Derived.Test.YtmencjafjcmbaaaDef
namespace Go.Proofs.Ytmencjafjcmbaaa
open Go.Kp
set_option linter.all false
noncomputable section

def law07RateCounts (N : Nat) (b1 : Ref07Book) : Option (Bool) :=
  Option.bind (law07Thin N b1) fun r6 =>
  if !r6 then
    Option.bind (law07Wakes N) fun r8 =>
    some r8
  else
    Option.bind (law07Book N b1) fun r11 =>
    Option.bind (rateCheckBook N r11) fun r12 =>
    Option.bind (law07Book N b1) fun r14 =>
    Option.bind (rateCounting N r14) fun (ra2, rb2) =>
    Option.bind (law07Fault N b1) fun r16 =>
    if !decide (r12 = r16) then
      some false
    else
      if !decide (r16 = 0) then
        Option.bind (
          if decide (rb2 = r16) then
            if decide ((ra2.length : Int) = 0) then
              Option.bind (law07Wakes N) fun r20 =>
              some r20
            else
              some false
          else
            some false
        ) fun v2 =>
        some v2
      else
        Option.bind (
          if decide (rb2 = 0) then
            Option.bind (ref07Counting N b1) fun r24 =>
            Option.bind (law07Ints N ra2 r24) fun r25 =>
            if r25 then
              Option.bind (law07Wakes N) fun r26 =>
              some r26
            else
              some false
          else
            some false
        ) fun v3 =>
        some v3
end
end Go.Proofs.Ytmencjafjcmbaaa
