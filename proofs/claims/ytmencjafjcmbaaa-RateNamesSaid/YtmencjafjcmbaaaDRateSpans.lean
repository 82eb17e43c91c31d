/-
  The law RateSpans, typed.
-/
import Derived.Test.YtmencjafjcmbaaaDef
namespace Go.Proofs.Ytmencjafjcmbaaa
open Go.Kp
set_option linter.all false
noncomputable section

def law07RateSpans (N : Nat) (b1 : Ref07Book) (bowler1 : Int) (week1 : Int) (weeks1 : List Int) : Option (Bool) :=
  Option.bind (
    Option.bind (law07Thin N b1) fun r6 =>
    if !r6 then
      some true
    else
      some (decide (30 < (weeks1.length : Int)))
  ) fun v2 =>
  if v2 then
    Option.bind (law07Wakes N) fun r8 =>
    some r8
  else
    Option.bind (law07Book N b1) fun r11 =>
    Option.bind (law07List N weeks1) fun r12 =>
    Option.bind (rateSpan N r11 bowler1 week1 r12) fun (ra2, rb2) =>
    Option.bind (law07Asked N b1 bowler1 week1) fun r14 =>
    Option.bind (
      if decide (r14 = 0) then
        Option.bind (ref07WeeksFault N b1 bowler1 week1 weeks1) fun r16 =>
        some r16
      else
        some r14
    ) fun want1 =>
    if !decide (want1 = 0) then
      Option.bind (
        if decide (rb2 = want1) then
          if decide (ra2 = (RateRange.mk 0 0)) then
            Option.bind (law07Wakes N) fun r20 =>
            some r20
          else
            some false
        else
          some false
      ) fun v4 =>
      some v4
    else
      Option.bind (
        if decide (rb2 = 0) then
          Option.bind (ref07Average N b1 bowler1 week1 (w64 (3 * (weeks1.length : Int))) 0) fun r24 =>
          Option.bind (ref07Average N b1 bowler1 week1 (w64 (3 * (weeks1.length : Int))) (w64 (300 * (w64 (3 * (weeks1.length : Int)))))) fun r25 =>
          if decide (ra2 = (RateRange.mk r24 r25)) then
            Option.bind (law07Wakes N) fun r26 =>
            some r26
          else
            some false
        else
          some false
      ) fun v5 =>
      some v5
end
end Go.Proofs.Ytmencjafjcmbaaa
