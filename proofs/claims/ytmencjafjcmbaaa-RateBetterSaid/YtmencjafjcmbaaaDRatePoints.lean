/-
  The law RatePoints, typed.
-/
import Derived.Test.YtmencjafjcmbaaaDef
namespace Go.Proofs.Ytmencjafjcmbaaa
open Go.Kp
set_option linter.all false
noncomputable section

def law07RatePoints_b1 (N : Nat) (b1 : Ref07Book) (w2 : Int) (l2 : List Int) (rec3 : (Bool × Int) → Option (Bool)) (absent14 : Bool) (i8 : Int) : Option (Bool) :=
  if decide (i8 < (l2.length : Int)) then
    Option.bind (
      Option.bind (
        Option.bind (idx l2 i8) fun x24 =>
        Option.bind (ref07Of N b1 x24 w2) fun (ra28, rb28) =>
        some rb28
      ) fun is12 =>
      if absent14 then
        some (!is12)
      else
        some false
    ) fun absent15 =>
    rec3 ((absent15, w64 (i8 + 1)))
  else
    some absent14

def law07RatePoints (N : Nat) (b1 : Ref07Book) (week1 : Int) (home1 : List Int) (away1 : List Int) : Option (Bool) :=
  Option.bind (
    Option.bind (law07Ready N b1) fun r9 =>
    if !r9 then
      some true
    else
      if decide (4 < (home1.length : Int)) then
        some true
      else
        if decide (4 < (away1.length : Int)) then
          some true
        else
          Option.bind (ref07TeamsFault N b1 home1 away1) fun r10 =>
          some (!decide (r10 = 0))
  ) fun v2 =>
  if v2 then
    Option.bind (law07Wakes N) fun r12 =>
    some r12
  else
    Option.bind (law07Book N b1) fun r16 =>
    Option.bind (law07List N home1) fun r17 =>
    Option.bind (law07List N away1) fun r18 =>
    Option.bind (rateMatch N r16 (w64 (1 + (Int.tmod (w64 week1) 30))) r17 r18) fun (ra2, rb2, rc2) =>
    Option.bind (law07Book N b1) fun r22 =>
    Option.bind (law07List N away1) fun r23 =>
    Option.bind (law07List N home1) fun r24 =>
    Option.bind (rateMatch N r22 (w64 (1 + (Int.tmod (w64 week1) 30))) r23 r24) fun (ra4, rb4, rc4) =>
    Option.bind (
      if !decide (rc2 = 0) then
        some ((w64 (1 + (Int.tmod (w64 week1) 30)), true))
      else
        if !decide (rc4 = 0) then
          some ((w64 (1 + (Int.tmod (w64 week1) 30)), true))
        else
          if !decide ((w64 (ra2 + rb2)) = 8) then
            some ((w64 (1 + (Int.tmod (w64 week1) 30)), true))
          else
            if !decide (ra4 = rb2) then
              some ((w64 (1 + (Int.tmod (w64 week1) 30)), true))
            else
              if !decide (rb4 = ra2) then
                some ((w64 (1 + (Int.tmod (w64 week1) 30)), true))
              else
                if decide (ra2 < 0) then
                  some ((w64 (1 + (Int.tmod (w64 week1) 30)), true))
                else
                  some ((w64 (1 + (Int.tmod (w64 week1) 30)), decide (rb2 < 0)))
    ) fun (w2, v4) =>
    if v4 then
      some false
    else
      Option.bind (law07List N home1) fun r26 =>
      Option.bind (app N r26 away1) fun l2 =>
      Option.bind (
        loopN (fun rec3 x => law07RatePoints_b1 N b1 w2 l2 rec3 x.1 x.2) N (true, 0)
      ) fun absent8 =>
      Option.bind (
        if !absent8 then
          Option.bind (law07Wakes N) fun r34 =>
          some r34
        else
          if decide (ra2 = 0) then
            Option.bind (law07Wakes N) fun r33 =>
            some r33
          else
            if decide (ra2 = 4) then
              Option.bind (law07Wakes N) fun r32 =>
              some r32
            else
              if decide (ra2 = 8) then
                Option.bind (law07Wakes N) fun r31 =>
                some r31
              else
                some false
      ) fun v9 =>
      some v9
end
end Go.Proofs.Ytmencjafjcmbaaa
