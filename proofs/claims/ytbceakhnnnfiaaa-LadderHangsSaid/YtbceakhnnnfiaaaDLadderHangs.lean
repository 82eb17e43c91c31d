/-
  The law LadderHangs, typed.
-/
import Derived.Test.YtbceakhnnnfiaaaDef
namespace Go.Proofs.Ytbceakhnnnfiaaa
open Go.Kp
set_option linter.all false
noncomputable section

def law09LadderHangs (N : Nat) (c1 : Ref09Cup) : Option (Bool) :=
  Option.bind (law09Few N c1) fun r6 =>
  if !r6 then
    Option.bind (law09Wakes N) fun r8 =>
    some r8
  else
    Option.bind (law09Cup N c1) fun r10 =>
    Option.bind (ladderHangs N r10) fun (ra2, rb2) =>
    Option.bind (law09Fault N c1) fun r16 =>
    if !decide (r16 = 0) then
      Option.bind (
        if decide (rb2 = r16) then
          if decide ((ra2.length : Int) = 0) then
            Option.bind (law09Wakes N) fun r18 =>
            some r18
          else
            some false
        else
          some false
      ) fun v2 =>
      some v2
    else
      Option.bind (
        if decide (rb2 = 0) then
          Option.bind (ref09Hangs N c1) fun r22 =>
          Option.bind (law09Ints N ra2 r22) fun r23 =>
          if r23 then
            Option.bind (law09Wakes N) fun r24 =>
            some r24
          else
            some false
        else
          some false
      ) fun v3 =>
      some v3
end
end Go.Proofs.Ytbceakhnnnfiaaa
