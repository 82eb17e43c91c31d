/-
  The law LadderMore, typed.
-/
import Derived.Test.YtbceakhnnnfiaaaDef
namespace Go.Proofs.Ytbceakhnnnfiaaa
open Go.Kp
set_option linter.all false
noncomputable section

def law09LadderMore_k1 (N : Nat) (b5 : List Int)  : Option (Bool) :=
  Option.bind (
    if decide (0 < (b5.length : Int)) then
      Option.bind (law09Wakes N) fun r39 =>
      some r39
    else
      some false
  ) fun v3 =>
  some v3

def law09LadderMore_b2 (N : Nat) (a1 : List Int) (b5 : List Int) (rec3 : (Int) → Option (Bool)) (i8 : Int) : Option (Bool) :=
  if decide (i8 < (b5.length : Int)) then
    Option.bind (idx b5 i8) fun x28 =>
    Option.bind (law09Has N a1 x28) fun r51 =>
    if !r51 then
      some false
    else
      rec3 (w64 (i8 + 1))
  else
    law09LadderMore_k1 N b5

def law09LadderMore_k3 (N : Nat) (c1 : Ref09Cup) (which1 : Int) (ra2 : List Int) (rb2 : Int) (l5 : List Ref09Result) : Option (Bool) :=
  Option.bind (law09Cup N (Ref09Cup.mk c1.fForm c1.fPlayers c1.fGames l5)) fun r25 =>
  Option.bind (ladderMayWin N r25) fun (ra4, rb4) =>
  Option.bind (
    if !decide (rb2 = 0) then
      some true
    else
      some (!decide (rb4 = 0))
  ) fun v2 =>
  if v2 then
    some false
  else
    Option.bind (
      if decide ((Int.tmod which1 2) = 1) then
        some (ra4, ra2)
      else
        some (ra2, ra4)
    ) fun (a1, b5) =>
    loopN (fun rec3 x => law09LadderMore_b2 N a1 b5 rec3 x) N 0

def law09LadderMore (N : Nat) (c1 : Ref09Cup) (which1 : Int) (who1 : Int) : Option (Bool) :=
  Option.bind (law09Ready N c1) fun r6 =>
  if !r6 then
    Option.bind (law09Wakes N) fun r8 =>
    some r8
  else
    Option.bind (law09Cup N c1) fun r10 =>
    Option.bind (ladderMayWin N r10) fun (ra2, rb2) =>
    Option.bind (app N ([]) c1.fResults) fun l2 =>
    if decide ((Int.tmod which1 2) = 0) then
      Option.bind (ref09Next N c1) fun r53 =>
      if decide ((r53.length : Int) = 0) then
        Option.bind (law09Wakes N) fun r57 =>
        some r57
      else
        Option.bind (nz (r53.length : Int)) fun _ =>
        Option.bind (idx r53 (Int.tmod (w64 (Int.tdiv (w64 which1) 2)) (r53.length : Int))) fun x30 =>
        Option.bind (
          if decide ((Int.tmod who1 2) = 1) then
            some x30.fSecond
          else
            some x30.fFirst
        ) fun p2 =>
        Option.bind (ref09Find N c1 x30.fNumber) fun r59 =>
        if decide (0 ≤ r59) then
          Option.bind (idx l2 r59) fun x31 =>
          Option.bind (law09List N x31.fGames) fun r60 =>
          Option.bind (app N r60 ([p2])) fun l6 =>
          law09LadderMore_k3 N c1 which1 ra2 rb2 ((List.set l2 (Int.toNat r59) (Ref09Result.mk x31.fMatch l6 x31.fProtested)))
        else
          Option.bind (app N l2 ([(Ref09Result.mk x30.fNumber ([p2]) false)])) fun l7 =>
          law09LadderMore_k3 N c1 which1 ra2 rb2 l7
    else
      if decide ((l2.length : Int) = 0) then
        Option.bind (law09Wakes N) fun r64 =>
        some r64
      else
        Option.bind (nz (l2.length : Int)) fun _ =>
        Option.bind (idx l2 (Int.tmod (w64 (Int.tdiv (w64 which1) 2)) (l2.length : Int))) fun x32 =>
        law09LadderMore_k3 N c1 which1 ra2 rb2 ((List.set l2 (Int.toNat (Int.tmod (w64 (Int.tdiv (w64 which1) 2)) (l2.length : Int))) (Ref09Result.mk x32.fMatch x32.fGames true)))
end
end Go.Proofs.Ytbceakhnnnfiaaa
