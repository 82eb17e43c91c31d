/-
  The law RateMatches, typed.
-/
import Derived.Test.YtmencjafjcmbaaaDef
namespace Go.Proofs.Ytmencjafjcmbaaa
open Go.Kp
set_option linter.all false
noncomputable section

def law07RateMatches (N : Nat) (b1 : Ref07Book) (week1 : Int) (home1 : List Int) (away1 : List Int) : Option (Bool) :=
  Option.bind (
    Option.bind (law07Thin N b1) fun r6 =>
    if !r6 then
      some true
    else
      if decide (8 < (home1.length : Int)) then
        some true
      else
        some (decide (8 < (away1.length : Int)))
  ) fun v2 =>
  if v2 then
    Option.bind (law07Wakes N) fun r8 =>
    some r8
  else
    Option.bind (law07Book N b1) fun r12 =>
    Option.bind (law07List N home1) fun r13 =>
    Option.bind (law07List N away1) fun r14 =>
    Option.bind (rateMatch N r12 week1 r13 r14) fun (ra2, rb2, rc2) =>
    Option.bind (law07Fault N b1) fun r16 =>
    Option.bind (
      Option.bind (
        if decide (r16 = 0) then
          Option.bind (ref07In N week1 1 30) fun r20 =>
          some (!r20)
        else
          some false
      ) fun v4 =>
      if v4 then
        some 2
      else
        some r16
    ) fun want1 =>
    Option.bind (
      if decide (want1 = 0) then
        Option.bind (ref07TeamsFault N b1 home1 away1) fun r22 =>
        some r22
      else
        some want1
    ) fun want2 =>
    if !decide (want2 = 0) then
      Option.bind (
        if decide (rc2 = want2) then
          if decide (ra2 = 0) then
            if decide (rb2 = 0) then
              Option.bind (law07Wakes N) fun r26 =>
              some r26
            else
              some false
          else
            some false
        else
          some false
      ) fun v6 =>
      some v6
    else
      Option.bind (ref07Match N b1 week1 home1 away1) fun (ra4, rb4) =>
      Option.bind (
        if decide (rc2 = 0) then
          if decide (ra2 = ra4) then
            if decide (rb2 = rb4) then
              Option.bind (law07Wakes N) fun r28 =>
              some r28
            else
              some false
          else
            some false
        else
          some false
      ) fun v7 =>
      some v7
end
end Go.Proofs.Ytmencjafjcmbaaa
