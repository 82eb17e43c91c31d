/-
  The law FrameTaps, typed.
-/
import Derived.Test.YthjafigloabfpaaDef
namespace Go.Proofs.Ythjafigloabfpaa
open Go.Kp
set_option linter.all false

def law01FrameTaps_k1 (N : Nat)   : Option (Bool) :=
  Option.bind (law01Wakes N) fun r46 =>
  some r46

def law01FrameTaps_b2 (N : Nat) (ra2 : FrameGame) (ra4 : FrameGame) (rec4 : (Int) → Option (Bool)) (v26 : Int) : Option (Bool) :=
  Option.bind (
    if decide (v26 < (ra2.fCounts.length : Int)) then
      some (decide (v26 < (ra4.fCounts.length : Int)))
    else
      some false
  ) fun v28 =>
  if v28 then
    Option.bind (idx ra4.fCounts v26) fun x71 =>
    Option.bind (idx ra2.fCounts v26) fun x72 =>
    if decide (x71 < x72) then
      some false
    else
      rec4 (w64 (v26 + 1))
  else
    law01FrameTaps_k1 N

def law01FrameTaps_k3 (N : Nat) (ra2 : FrameGame) (ra4 : FrameGame)  : Option (Bool) :=
  loopN (fun rec4 x => law01FrameTaps_b2 N ra2 ra4 rec4 x) N 0

def law01FrameTaps_b4 (N : Nat) (ra2 : FrameGame) (ra4 : FrameGame) (rec5 : (Int) → Option (Bool)) (v32 : Int) : Option (Bool) :=
  if decide (v32 < (ra2.fFrames.length : Int)) then
    Option.bind (idx ra2.fFrames v32) fun x95 =>
    Option.bind (idx ra4.fFrames v32) fun x96 =>
    Option.bind (law01Ints N x95 x96) fun r68 =>
    if !r68 then
      Option.bind (law01Wakes N) fun r70 =>
      some r70
    else
      rec5 (w64 (v32 + 1))
  else
    law01FrameTaps_k3 N ra2 ra4

def law01FrameTaps (N : Nat) (a1 : Ref01Law) (a2 : List Int) (a3 : Int) : Option (Bool) :=
  Option.bind (law01Ready N a1 a2) fun r6 =>
  if !r6 then
    Option.bind (law01Wakes N) fun r8 =>
    some r8
  else
    Option.bind (nz a1.fTap) fun _ =>
    Option.bind (law01Law N a1) fun r11 =>
    Option.bind (law01List N a2) fun r12 =>
    Option.bind (frameRead N r11 r12) fun (ra2, rb2) =>
    Option.bind (law01Law N ((Ref01Law.mk a1.fFrames a1.fPins a1.fBalls (w64 (1 + (Int.tmod (w64 a3) a1.fTap)))))) fun r15 =>
    Option.bind (law01List N a2) fun r16 =>
    Option.bind (frameRead N r15 r16) fun (ra4, rb4) =>
    Option.bind (
      if !decide (rb2 = 0) then
        some true
      else
        if !decide (rb4 = 0) then
          some (!decide (rb4 = 10))
        else
          some false
    ) fun v2 =>
    if v2 then
      some false
    else
      Option.bind (
        if !decide (rb4 = 0) then
          some true
        else
          some (!decide ((ra2.fFrames.length : Int) = (ra4.fFrames.length : Int)))
      ) fun v4 =>
      if v4 then
        Option.bind (law01Wakes N) fun r20 =>
        some r20
      else
        loopN (fun rec5 x => law01FrameTaps_b4 N ra2 ra4 rec5 x) N 0
end Go.Proofs.Ythjafigloabfpaa
