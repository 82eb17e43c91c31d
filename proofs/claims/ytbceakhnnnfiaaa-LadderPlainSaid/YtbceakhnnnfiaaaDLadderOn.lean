/-
  The law LadderOn, typed.
-/
import Derived.Test.YtbceakhnnnfiaaaDef
namespace Go.Proofs.Ytbceakhnnnfiaaa
open Go.Kp
set_option linter.all false
noncomputable section

def law09LadderOn_k1 (N : Nat) (c1 : Ref09Cup) (l5 : List Ref09Result) : Option (Bool) :=
  Option.bind (
    Option.bind (law09Cup N (Ref09Cup.mk c1.fForm c1.fPlayers c1.fGames l5)) fun r31 =>
    Option.bind (ladderCheckCup N r31) fun r32 =>
    if decide (r32 = 0) then
      Option.bind (law09Wakes N) fun r33 =>
      some r33
    else
      some false
  ) fun v7 =>
  some v7

def law09LadderOn (N : Nat) (c1 : Ref09Cup) (which1 : Int) (who1 : Int) : Option (Bool) :=
  Option.bind (law09Ready N c1) fun r6 =>
  if !r6 then
    Option.bind (law09Wakes N) fun r8 =>
    some r8
  else
    Option.bind (law09Cup N c1) fun r10 =>
    Option.bind (ladderNext N r10) fun (ra2, rb2) =>
    Option.bind (ref09Won N c1 (w64 (c1.fPlayers - 2))) fun r12 =>
    Option.bind (
      if !decide (rb2 = 0) then
        some true
      else
        some ((decide ((ra2.length : Int) = 0)) != (decide (0 ≤ r12)))
    ) fun v2 =>
    if v2 then
      some false
    else
      if decide ((ra2.length : Int) = 0) then
        Option.bind (law09Wakes N) fun r16 =>
        some r16
      else
        Option.bind (nz (ra2.length : Int)) fun _ =>
        Option.bind (idx ra2 (Int.tmod (w64 which1) (ra2.length : Int))) fun x2 =>
        Option.bind (
          if decide (x2.fNumber < 0) then
            some true
          else
            if decide ((w64 (c1.fPlayers - 2)) < x2.fNumber) then
              some true
            else
              if decide (c1.fGames < (w64 (2 * x2.fWon))) then
                some true
              else
                some (decide (c1.fGames < (w64 (2 * x2.fLost))))
        ) fun v4 =>
        if v4 then
          some false
        else
          Option.bind (
            if decide ((Int.tmod who1 2) = 1) then
              some x2.fSecond
            else
              some x2.fFirst
          ) fun p1 =>
          Option.bind (app N ([]) c1.fResults) fun l2 =>
          Option.bind (ref09Find N c1 x2.fNumber) fun r35 =>
          if decide (0 ≤ r35) then
            Option.bind (
              Option.bind (idx c1.fResults r35) fun x11 =>
              Option.bind (ref09Wins N x11.fGames x2.fFirst) fun r42 =>
              if !decide (r42 = x2.fWon) then
                some true
              else
                Option.bind (ref09Wins N x11.fGames x2.fSecond) fun r43 =>
                some (!decide (r43 = x2.fLost))
            ) fun v9 =>
            if v9 then
              some false
            else
              Option.bind (idx l2 r35) fun x12 =>
              Option.bind (law09List N x12.fGames) fun r44 =>
              Option.bind (app N r44 ([p1])) fun l6 =>
              law09LadderOn_k1 N c1 ((List.set l2 (Int.toNat r35) (Ref09Result.mk x12.fMatch l6 x12.fProtested)))
          else
            Option.bind (app N l2 ([(Ref09Result.mk x2.fNumber ([p1]) false)])) fun l7 =>
            law09LadderOn_k1 N c1 l7
end
end Go.Proofs.Ytbceakhnnnfiaaa
