/-
  The law LadderMays, typed.
-/
import Derived.Test.YtbceakhnnnfiaaaDef
namespace Go.Proofs.Ytbceakhnnnfiaaa
open Go.Kp
set_option linter.all false
noncomputable section

def law09LadderMays_b1 (N : Nat) (r20 : List Int) (rec3 : (Int × (List Int)) → Option ((List Int))) (p8 : Int) (l24 : List Int) : Option ((List Int)) :=
  if decide (p8 < (r20.length : Int)) then
    Option.bind (
      Option.bind (idx r20 p8) fun x24 =>
      if decide (0 ≤ x24) then
        Option.bind (app N l24 ([p8])) fun l27 =>
        some l27
      else
        some l24
    ) fun l26 =>
    rec3 ((w64 (p8 + 1), l26))
  else
    some l24

def law09LadderMays (N : Nat) (c1 : Ref09Cup) : Option (Bool) :=
  Option.bind (law09Few N c1) fun r6 =>
  if !r6 then
    Option.bind (law09Wakes N) fun r8 =>
    some r8
  else
    Option.bind (law09Cup N c1) fun r10 =>
    Option.bind (ladderMayWin N r10) fun (ra2, rb2) =>
    Option.bind (law09Fault N c1) fun r16 =>
    if !decide (r16 = 0) then
      Option.bind (
        if decide (rb2 = r16) then
          if decide ((ra2.length : Int) = 0) then
            Option.bind (law09Wakes N) fun r18 =>
            some r18
          else
            some false
        else
          some false
      ) fun v2 =>
      some v2
    else
      Option.bind (ref09Least N c1) fun r20 =>
      Option.bind (
        loopN (fun rec3 x => law09LadderMays_b1 N r20 rec3 x.1 x.2) N (0, [])
      ) fun l14 =>
      Option.bind (
        if decide (rb2 = 0) then
          Option.bind (law09Ints N ra2 l14) fun r23 =>
          if r23 then
            Option.bind (law09Wakes N) fun r24 =>
            some r24
          else
            some false
        else
          some false
      ) fun v3 =>
      some v3
end
end Go.Proofs.Ytbceakhnnnfiaaa
