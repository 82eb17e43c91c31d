/-
  The law FrameBads, typed.
-/
import Derived.Test.YthjafigloabfpaaDef
namespace Go.Proofs.Ythjafigloabfpaa
open Go.Kp
set_option linter.all false

def law01FrameBads (N : Nat) (a1 : Ref01Law) (a2 : List Int) : Option (Bool) :=
  if decide (45 < (a2.length : Int)) then
    Option.bind (law01Wakes N) fun r4 =>
    some r4
  else
    Option.bind (law01Law N a1) fun r7 =>
    Option.bind (frameCheckLaw N r7) fun r8 =>
    Option.bind (law01Law N a1) fun r11 =>
    Option.bind (law01List N a2) fun r12 =>
    Option.bind (frameBad N r11 r12) fun (ra2, rb2) =>
    Option.bind (
      Option.bind (ref01IsLaw N a1) fun r16 =>
      if (decide (r8 = 0)) != r16 then
        some true
      else
        if !decide (r8 = 0) then
          some (!decide (r8 = 1))
        else
          some false
    ) fun v2 =>
    if v2 then
      some false
    else
      Option.bind (law01Fault N a1 a2) fun r18 =>
      if decide (r18 = 0) then
        Option.bind (
          if decide (rb2 = 7) then
            if decide (ra2 = 0) then
              Option.bind (law01Wakes N) fun r24 =>
              some r24
            else
              some false
          else
            some false
        ) fun v5 =>
        some v5
      else
        if decide (r18 = 10) then
          Option.bind (ref01Play N a1 a2) fun (ra6, rb6) =>
          Option.bind (
            if decide (rb2 = 0) then
              if decide (ra2 = (rb6.length : Int)) then
                Option.bind (law01Wakes N) fun r26 =>
                some r26
              else
                some false
            else
              some false
          ) fun v6 =>
          some v6
        else
          Option.bind (
            if decide (rb2 = r18) then
              if decide (ra2 = 0) then
                Option.bind (law01Wakes N) fun r28 =>
                some r28
              else
                some false
            else
              some false
          ) fun v7 =>
          some v7
end Go.Proofs.Ythjafigloabfpaa
