/-
  The law LadderBegins, typed.
-/
import Derived.Test.YtbceakhnnnfiaaaDef
namespace Go.Proofs.Ytbceakhnnnfiaaa
open Go.Kp
set_option linter.all false
noncomputable section

def law09LadderBegins_k1 (N : Nat)   : Option (Bool) :=
  Option.bind (law09Wakes N) fun r30 =>
  some r30

def law09LadderBegins_b2 (N : Nat) (c1 : Ref09Cup) (ra2 : List Int) (rec3 : (Int) → Option (Bool)) (p8 : Int) : Option (Bool) :=
  if decide (p8 < c1.fPlayers) then
    Option.bind (law09Cup N ((Ref09Cup.mk c1.fForm c1.fPlayers c1.fGames ([])))) fun r42 =>
    Option.bind (ladderUpsets N r42 p8) fun (ra32, rb32) =>
    Option.bind (
      Option.bind (idx ra2 p8) fun x24 =>
      if !decide (x24 = p8) then
        some true
      else
        if !decide (rb32 = 0) then
          some true
        else
          if decide (ra32 < 1) then
            some true
          else
            some (decide (p8 < ra32))
    ) fun v14 =>
    if v14 then
      some false
    else
      rec3 (w64 (p8 + 1))
  else
    law09LadderBegins_k1 N

def law09LadderBegins (N : Nat) (c1 : Ref09Cup) : Option (Bool) :=
  Option.bind (law09Ready N c1) fun r6 =>
  if !r6 then
    Option.bind (law09Wakes N) fun r8 =>
    some r8
  else
    Option.bind (law09Cup N ((Ref09Cup.mk c1.fForm c1.fPlayers c1.fGames ([])))) fun r10 =>
    Option.bind (ladderMayWin N r10) fun (ra2, rb2) =>
    Option.bind (law09Cup N ((Ref09Cup.mk c1.fForm c1.fPlayers c1.fGames ([])))) fun r12 =>
    Option.bind (ladderUpsets N r12 0) fun (ra4, rb4) =>
    Option.bind (law09Cup N ((Ref09Cup.mk c1.fForm c1.fPlayers c1.fGames ([])))) fun r14 =>
    Option.bind (ladderHangs N r14) fun (ra6, rb6) =>
    Option.bind (law09Cup N ((Ref09Cup.mk c1.fForm c1.fPlayers c1.fGames ([])))) fun r16 =>
    Option.bind (ladderWinnerX N r16) fun (ra8, rb8) =>
    Option.bind (
      if !decide (rb2 = 0) then
        some true
      else
        if !decide ((ra2.length : Int) = c1.fPlayers) then
          some true
        else
          if !decide (rb4 = 0) then
            some true
          else
            if !decide (ra4 = 0) then
              some true
            else
              if !decide (rb6 = 0) then
                some true
              else
                if !decide ((ra6.length : Int) = 0) then
                  some true
                else
                  some (!decide (rb8 = 7))
    ) fun v2 =>
    if v2 then
      some false
    else
      loopN (fun rec3 x => law09LadderBegins_b2 N c1 ra2 rec3 x) N 1
end
end Go.Proofs.Ytbceakhnnnfiaaa
