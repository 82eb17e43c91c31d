/-
  The law LadderProves, typed.
-/
import Derived.Test.YtbceakhnnnfiaaaDef
namespace Go.Proofs.Ytbceakhnnnfiaaa
open Go.Kp
set_option linter.all false
noncomputable section

def law09LadderProves (N : Nat) (c1 : Ref09Cup) (winners1 : List Int) (upsets1 : Int) : Option (Bool) :=
  Option.bind (
    Option.bind (law09Thin N c1) fun r6 =>
    if !r6 then
      some true
    else
      some (decide (20 < (winners1.length : Int)))
  ) fun v2 =>
  if v2 then
    Option.bind (law09Wakes N) fun r8 =>
    some r8
  else
    Option.bind (
      Option.bind (ref09Fault N c1) fun r12 =>
      if decide (r12 = 0) then
        Option.bind (ref09IsCourse N c1 winners1) fun r13 =>
        if r13 then
          Option.bind (ref09Upsets N c1 winners1) fun r14 =>
          some (decide (r14 ≤ upsets1))
        else
          some false
      else
        some false
    ) fun want1 =>
    Option.bind (
      Option.bind (law09Cup N c1) fun r19 =>
      Option.bind (law09List N winners1) fun r20 =>
      Option.bind (ladderProveWay N r19 r20 upsets1) fun r21 =>
      if r21 == want1 then
        Option.bind (law09Wakes N) fun r22 =>
        some r22
      else
        some false
    ) fun v3 =>
    some v3
end
end Go.Proofs.Ytbceakhnnnfiaaa
