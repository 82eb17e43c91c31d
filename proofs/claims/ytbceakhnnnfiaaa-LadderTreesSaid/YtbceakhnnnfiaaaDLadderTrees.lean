/-
  The law LadderTrees, typed.
-/
import Derived.Test.YtbceakhnnnfiaaaDef
namespace Go.Proofs.Ytbceakhnnnfiaaa
open Go.Kp
set_option linter.all false
noncomputable section

def law09LadderTrees_k1 (N : Nat)   : Option (Bool) :=
  Option.bind (law09Wakes N) fun r30 =>
  some r30

def law09LadderTrees_b2 (N : Nat) (ra2 : List LadderPair) (r28 : List Ref09Pair) (rec3 : (Int) → Option (Bool)) (i8 : Int) : Option (Bool) :=
  if decide (i8 < (ra2.length : Int)) then
    Option.bind (
      Option.bind (idx ra2 i8) fun x46 =>
      some (x46.fFirst, x46.fSecond)
    ) fun (a12, b150) =>
    Option.bind (
      Option.bind (idx r28 i8) fun x48 =>
      if !decide (a12.fPlayer = x48.fFirst.fPlayer) then
        some true
      else
        if !decide (a12.fMatch = x48.fFirst.fMatch) then
          some true
        else
          if !decide (b150.fPlayer = x48.fSecond.fPlayer) then
            some true
          else
            some (!decide (b150.fMatch = x48.fSecond.fMatch))
    ) fun v16 =>
    if v16 then
      some false
    else
      rec3 (w64 (i8 + 1))
  else
    law09LadderTrees_k1 N

def law09LadderTrees (N : Nat) (c1 : Ref09Cup) : Option (Bool) :=
  Option.bind (law09Thin N c1) fun r6 =>
  if !r6 then
    Option.bind (law09Wakes N) fun r8 =>
    some r8
  else
    Option.bind (law09Cup N c1) fun r11 =>
    Option.bind (ladderCheckCup N r11) fun r12 =>
    Option.bind (law09Cup N c1) fun r14 =>
    Option.bind (ladderTree N r14) fun (ra2, rb2) =>
    Option.bind (law09Fault N c1) fun r18 =>
    if !decide (r12 = r18) then
      some false
    else
      Option.bind (ref09IsForm N c1) fun r24 =>
      if !r24 then
        Option.bind (
          if decide (rb2 = 1) then
            if decide ((ra2.length : Int) = 0) then
              Option.bind (law09Wakes N) fun r26 =>
              some r26
            else
              some false
          else
            some false
        ) fun v2 =>
        some v2
      else
        Option.bind (ref09Tree N c1) fun r28 =>
        Option.bind (
          if !decide (rb2 = 0) then
            some true
          else
            some (!decide ((ra2.length : Int) = (r28.length : Int)))
        ) fun v4 =>
        if v4 then
          some false
        else
          loopN (fun rec3 x => law09LadderTrees_b2 N ra2 r28 rec3 x) N 0
end
end Go.Proofs.Ytbceakhnnnfiaaa
