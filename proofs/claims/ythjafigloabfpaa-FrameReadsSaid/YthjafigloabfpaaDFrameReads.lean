/-
  The law FrameReads, typed.
-/
import Derived.Test.YthjafigloabfpaaDef
namespace Go.Proofs.Ythjafigloabfpaa
open Go.Kp
set_option linter.all false

def law01FrameReads (N : Nat) (l1 : Ref01Law) (sheet1 : List Int) : Option (Bool) :=
  if decide (45 < (sheet1.length : Int)) then
    Option.bind (law01Wakes N) fun r4 =>
    some r4
  else
    Option.bind (law01Law N l1) fun r7 =>
    Option.bind (law01List N sheet1) fun r8 =>
    Option.bind (frameRead N r7 r8) fun (ra2, rb2) =>
    Option.bind (law01Fault N l1 sheet1) fun r16 =>
    if !decide (r16 = 0) then
      Option.bind (
        if decide (rb2 = r16) then
          Option.bind (law01Same N ra2 ((Ref01Game.mk ([]) ([]) 0 false))) fun r19 =>
          if r19 then
            Option.bind (law01Wakes N) fun r20 =>
            some r20
          else
            some false
        else
          some false
      ) fun v2 =>
      some v2
    else
      Option.bind (
        if decide (rb2 = 0) then
          Option.bind (ref01Read N l1 sheet1) fun r24 =>
          Option.bind (law01Same N ra2 r24) fun r25 =>
          if r25 then
            Option.bind (law01Wakes N) fun r26 =>
            some r26
          else
            some false
        else
          some false
      ) fun v3 =>
      some v3
end Go.Proofs.Ythjafigloabfpaa
