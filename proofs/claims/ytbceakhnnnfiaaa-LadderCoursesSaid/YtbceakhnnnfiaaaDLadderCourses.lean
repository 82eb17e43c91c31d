/-
  The law LadderCourses, typed.
-/
import Derived.Test.YtbceakhnnnfiaaaDef
namespace Go.Proofs.Ytbceakhnnnfiaaa
open Go.Kp
set_option linter.all false
noncomputable section

def law09LadderCourses_k1 (N : Nat)   : Option (Bool) :=
  Option.bind (law09Wakes N) fun r78 =>
  some r78

def law09LadderCourses_b2 (N : Nat) (c1 : Ref09Cup) (r10 : List Int) (ra6 : List Int) (rec3 : (Int) → Option (Bool)) (i8 : Int) : Option (Bool) :=
  if decide (i8 < (c1.fResults.length : Int)) then
    Option.bind (idx c1.fResults i8) fun x48 =>
    Option.bind (ref09Won N c1 x48.fMatch) fun r100 =>
    Option.bind (
      if decide (0 ≤ r100) then
        if !x48.fProtested then
          Option.bind (law09Has N ra6 x48.fMatch) fun r102 =>
          if !r102 then
            Option.bind (idx r10 x48.fMatch) fun x50 =>
            some (!decide (x50 = r100))
          else
            some false
        else
          some false
      else
        some false
    ) fun v14 =>
    if v14 then
      some false
    else
      rec3 (w64 (i8 + 1))
  else
    law09LadderCourses_k1 N

def law09LadderCourses (N : Nat) (c1 : Ref09Cup) (words1 : List Int) : Option (Bool) :=
  Option.bind (law09Ready N c1) fun r6 =>
  if !r6 then
    Option.bind (law09Wakes N) fun r8 =>
    some r8
  else
    Option.bind (law09Course N c1 words1) fun r10 =>
    Option.bind (idx r10 (w64 ((r10.length : Int) - 1))) fun x2 =>
    Option.bind (law09Cup N c1) fun r12 =>
    Option.bind (ladderMayWin N r12) fun (ra2, rb2) =>
    Option.bind (law09Cup N c1) fun r14 =>
    Option.bind (ladderUpsets N r14 x2) fun (ra4, rb4) =>
    Option.bind (law09Cup N c1) fun r16 =>
    Option.bind (ladderHangs N r16) fun (ra6, rb6) =>
    Option.bind (
      if !decide (rb2 = 0) then
        some true
      else
        Option.bind (law09Has N ra2 x2) fun r44 =>
        if !r44 then
          some true
        else
          if !decide (rb4 = 0) then
            some true
          else
            if !decide (rb6 = 0) then
              some true
            else
              Option.bind (ref09Upsets N c1 r10) fun r45 =>
              if decide (r45 < ra4) then
                some true
              else
                Option.bind (law09Cup N c1) fun r46 =>
                Option.bind (law09List N r10) fun r47 =>
                Option.bind (ref09Upsets N c1 r10) fun r48 =>
                Option.bind (ladderProveWay N r46 r47 r48) fun r49 =>
                if !r49 then
                  some true
                else
                  Option.bind (law09Cup N c1) fun r50 =>
                  Option.bind (law09List N r10) fun r51 =>
                  Option.bind (ladderProveWay N r50 r51 (w64 (ra4 - 1))) fun r52 =>
                  some r52
    ) fun v2 =>
    if v2 then
      some false
    else
      loopN (fun rec3 x => law09LadderCourses_b2 N c1 r10 ra6 rec3 x) N 0
end
end Go.Proofs.Ytbceakhnnnfiaaa
