/-
  The law LadderNexts, typed.
-/
import Derived.Test.YtbceakhnnnfiaaaDef
namespace Go.Proofs.Ytbceakhnnnfiaaa
open Go.Kp
set_option linter.all false
noncomputable section

def law09LadderNexts_b1 (N : Nat) (r24 : Int) (r26 : List Int) (rec4 : (Int × Int) → Option (Int)) (others14 : Int) (p8 : Int) : Option (Int) :=
  if decide (p8 < (r26.length : Int)) then
    Option.bind (
      Option.bind (
        Option.bind (idx r26 p8) fun x48 =>
        if decide (0 ≤ x48) then
          some (!decide (p8 = r24))
        else
          some false
      ) fun v22 =>
      if v22 then
        some (w64 (others14 + 1))
      else
        some others14
    ) fun others15 =>
    rec4 ((others15, w64 (p8 + 1)))
  else
    some others14

def law09LadderNexts_k2 (N : Nat) (c1 : Ref09Cup) (ra4 : Int) (rb4 : Int)  : Option (Bool) :=
  Option.bind (ref09Won N c1 (w64 (c1.fPlayers - 2))) fun r24 =>
  Option.bind (ref09Least N c1) fun r26 =>
  Option.bind (
    loopN (fun rec4 x => law09LadderNexts_b1 N r24 r26 rec4 x.1 x.2) N (0, 0)
  ) fun others8 =>
  Option.bind (
    if decide (r24 < 0) then
      some (0, 7)
    else
      if decide (0 < others8) then
        some (0, 8)
      else
        some (r24, 0)
  ) fun (due1, want1) =>
  Option.bind (
    if decide (rb4 = want1) then
      if decide (ra4 = due1) then
        Option.bind (law09Wakes N) fun r28 =>
        some r28
      else
        some false
    else
      some false
  ) fun v23 =>
  some v23

def law09LadderNexts_b3 (N : Nat) (c1 : Ref09Cup) (ra2 : List LadderMatch) (ra4 : Int) (rb4 : Int) (r22 : List Ref09Match) (rec5 : (Int) → Option (Bool)) (i8 : Int) : Option (Bool) :=
  if decide (i8 < (ra2.length : Int)) then
    Option.bind (
      Option.bind (idx ra2 i8) fun x71 =>
      Option.bind (idx r22 i8) fun x72 =>
      if !decide (x71.fNumber = x72.fNumber) then
        some true
      else
        if !decide (x71.fFirst = x72.fFirst) then
          some true
        else
          if !decide (x71.fSecond = x72.fSecond) then
            some true
          else
            if !decide (x71.fWon = x72.fWon) then
              some true
            else
              some (!decide (x71.fLost = x72.fLost))
    ) fun v29 =>
    if v29 then
      some false
    else
      rec5 (w64 (i8 + 1))
  else
    law09LadderNexts_k2 N c1 ra4 rb4

def law09LadderNexts (N : Nat) (c1 : Ref09Cup) : Option (Bool) :=
  Option.bind (law09Few N c1) fun r6 =>
  if !r6 then
    Option.bind (law09Wakes N) fun r8 =>
    some r8
  else
    Option.bind (law09Cup N c1) fun r10 =>
    Option.bind (ladderNext N r10) fun (ra2, rb2) =>
    Option.bind (law09Cup N c1) fun r12 =>
    Option.bind (ladderWinnerX N r12) fun (ra4, rb4) =>
    Option.bind (law09Fault N c1) fun r18 =>
    if !decide (r18 = 0) then
      Option.bind (
        if decide (rb2 = r18) then
          if decide (rb4 = r18) then
            if decide ((ra2.length : Int) = 0) then
              if decide (ra4 = 0) then
                Option.bind (law09Wakes N) fun r20 =>
                some r20
              else
                some false
            else
              some false
          else
            some false
        else
          some false
      ) fun v2 =>
      some v2
    else
      Option.bind (ref09Next N c1) fun r22 =>
      Option.bind (
        if !decide (rb2 = 0) then
          some true
        else
          some (!decide ((ra2.length : Int) = (r22.length : Int)))
      ) fun v4 =>
      if v4 then
        some false
      else
        loopN (fun rec5 x => law09LadderNexts_b3 N c1 ra2 ra4 rb4 r22 rec5 x) N 0
end
end Go.Proofs.Ytbceakhnnnfiaaa
