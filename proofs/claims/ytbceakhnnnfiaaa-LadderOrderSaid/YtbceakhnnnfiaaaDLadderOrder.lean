/-
  The law LadderOrder, typed.
-/
import Derived.Test.YtbceakhnnnfiaaaDef
namespace Go.Proofs.Ytbceakhnnnfiaaa
open Go.Kp
set_option linter.all false
noncomputable section

def law09LadderOrder_k1 (N : Nat)   : Option (Bool) :=
  Option.bind (law09Wakes N) fun r30 =>
  some r30

def law09LadderOrder_b2 (N : Nat) (ra10 : List LadderMatch) (ra12 : List LadderMatch) (rec3 : (Int) → Option (Bool)) (k8 : Int) : Option (Bool) :=
  if decide (k8 < (ra10.length : Int)) then
    Option.bind (idx ra10 k8) fun x47 =>
    Option.bind (idx ra12 k8) fun x48 =>
    if !decide (x47 = x48) then
      some false
    else
      rec3 (w64 (k8 + 1))
  else
    law09LadderOrder_k1 N

def law09LadderOrder (N : Nat) (c1 : Ref09Cup) (by1 : Int) : Option (Bool) :=
  Option.bind (
    Option.bind (law09Ready N c1) fun r6 =>
    if !r6 then
      some true
    else
      some (decide ((c1.fResults.length : Int) = 0))
  ) fun v2 =>
  if v2 then
    Option.bind (law09Wakes N) fun r8 =>
    some r8
  else
    Option.bind (nz (c1.fResults.length : Int)) fun _ =>
    Option.bind (
      Option.bind (slc c1.fResults (Int.tmod (w64 by1) (c1.fResults.length : Int)) (c1.fResults.length : Int)) fun l6 =>
      Option.bind (app N ([]) l6) fun l7 =>
      Option.bind (slc c1.fResults 0 (Int.tmod (w64 by1) (c1.fResults.length : Int))) fun l8 =>
      Option.bind (app N l7 l8) fun l9 =>
      some l9
    ) fun l5 =>
    Option.bind (law09Cup N c1) fun r10 =>
    Option.bind (ladderMayWin N r10) fun (ra2, rb2) =>
    Option.bind (law09Cup N (Ref09Cup.mk c1.fForm c1.fPlayers c1.fGames l5)) fun r12 =>
    Option.bind (ladderMayWin N r12) fun (ra4, rb4) =>
    Option.bind (law09Cup N c1) fun r14 =>
    Option.bind (ladderHangs N r14) fun (ra6, rb6) =>
    Option.bind (law09Cup N (Ref09Cup.mk c1.fForm c1.fPlayers c1.fGames l5)) fun r16 =>
    Option.bind (ladderHangs N r16) fun (ra8, rb8) =>
    Option.bind (law09Cup N c1) fun r18 =>
    Option.bind (ladderNext N r18) fun (ra10, rb10) =>
    Option.bind (law09Cup N (Ref09Cup.mk c1.fForm c1.fPlayers c1.fGames l5)) fun r20 =>
    Option.bind (ladderNext N r20) fun (ra12, rb12) =>
    Option.bind (
      if !decide (rb2 = 0) then
        some true
      else
        if !decide (rb4 = 0) then
          some true
        else
          Option.bind (law09Ints N ra2 ra4) fun r27 =>
          if !r27 then
            some true
          else
            if !decide (rb6 = 0) then
              some true
            else
              if !decide (rb8 = 0) then
                some true
              else
                Option.bind (law09Ints N ra6 ra8) fun r28 =>
                if !r28 then
                  some true
                else
                  if !decide (rb10 = 0) then
                    some true
                  else
                    if !decide (rb12 = 0) then
                      some true
                    else
                      some (!decide ((ra10.length : Int) = (ra12.length : Int)))
    ) fun v4 =>
    if v4 then
      some false
    else
      loopN (fun rec3 x => law09LadderOrder_b2 N ra10 ra12 rec3 x) N 0
end
end Go.Proofs.Ytbceakhnnnfiaaa
