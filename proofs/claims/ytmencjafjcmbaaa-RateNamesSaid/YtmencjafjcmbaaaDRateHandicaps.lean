/-
  The law RateHandicaps, typed.
-/
import Derived.Test.YtmencjafjcmbaaaDef
namespace Go.Proofs.Ytmencjafjcmbaaa
open Go.Kp
set_option linter.all false
noncomputable section

def law07RateHandicaps (N : Nat) (b1 : Ref07Book) (bowler1 : Int) (week1 : Int) : Option (Bool) :=
  Option.bind (law07Thin N b1) fun r6 =>
  if !r6 then
    Option.bind (law07Wakes N) fun r8 =>
    some r8
  else
    Option.bind (law07Book N b1) fun r10 =>
    Option.bind (rateHandicap N r10 bowler1 week1) fun (ra2, rb2) =>
    Option.bind (law07Asked N b1 bowler1 week1) fun r16 =>
    if !decide (r16 = 0) then
      Option.bind (
        if decide (rb2 = r16) then
          if decide (ra2 = 0) then
            Option.bind (law07Wakes N) fun r18 =>
            some r18
          else
            some false
        else
          some false
      ) fun v2 =>
      some v2
    else
      Option.bind (
        if decide (rb2 = 0) then
          Option.bind (ref07Handicap N b1 bowler1 week1) fun r21 =>
          if decide (ra2 = r21) then
            Option.bind (law07Wakes N) fun r22 =>
            some r22
          else
            some false
        else
          some false
      ) fun v3 =>
      some v3
end
end Go.Proofs.Ytmencjafjcmbaaa
