/-
  The law FrameSettled, typed.
-/
import Derived.Test.YthjafigloabfpaaDef
namespace Go.Proofs.Ythjafigloabfpaa
open Go.Kp
set_option linter.all false

def law01FrameSettled_k1 (N : Nat) (a1 : Ref01Law) (v62 : List Int) : Option (Bool) :=
  Option.bind (
    if decide ((v62.length : Int) = a1.fFrames) then
      Option.bind (law01Wakes N) fun r36 =>
      some r36
    else
      some false
  ) fun v63 =>
  some v63

def law01FrameSettled_k2 (N : Nat) (v101 : Int) (rec15 : ((List Int) × Int) → Option (Bool)) (v113 : List Int) : Option (Bool) :=
  rec15 ((v113, w64 (v101 + 1)))

def law01FrameSettled_k3 (N : Nat) (v101 : Int) (rec15 : ((List Int) × Int) → Option (Bool)) (c12 : FrameGame)  : Option (Bool) :=
  law01FrameSettled_k2 N v101 rec15 c12.fCounts

def law01FrameSettled_b4 (N : Nat) (v100 : List Int) (v101 : Int) (rec15 : ((List Int) × Int) → Option (Bool)) (c12 : FrameGame) (rec19 : (Int) → Option (Bool)) (v124 : Int) : Option (Bool) :=
  if decide (v124 < (v100.length : Int)) then
    Option.bind (idx c12.fCounts v124) fun x383 =>
    Option.bind (idx v100 v124) fun x384 =>
    if !decide (x383 = x384) then
      some false
    else
      rec19 (w64 (v124 + 1))
  else
    law01FrameSettled_k3 N v101 rec15 c12

def law01FrameSettled_b5 (N : Nat) (a1 : Ref01Law) (r10 : List Int) (rec15 : ((List Int) × Int) → Option (Bool)) (v100 : List Int) (v101 : Int) : Option (Bool) :=
  if decide (v101 ≤ (r10.length : Int)) then
    Option.bind (
      Option.bind (law01Law N a1) fun r59 =>
      Option.bind (slc r10 0 v101) fun l24 =>
      Option.bind (law01List N l24) fun r60 =>
      Option.bind (frameRead N r59 r60) fun (ra24, rb24) =>
      some (rb24, ra24)
    ) fun (v114, c12) =>
    Option.bind (
      if !decide (v114 = 0) then
        some true
      else
        if decide ((c12.fCounts.length : Int) < (v100.length : Int)) then
          some true
        else
          some (decide ((w64 ((v100.length : Int) + 3)) < (c12.fCounts.length : Int)))
    ) fun v116 =>
    if v116 then
      some false
    else
      loopN (fun rec19 x => law01FrameSettled_b4 N v100 v101 rec15 c12 rec19 x) N 0
  else
    law01FrameSettled_k1 N a1 v100

def law01FrameSettled (N : Nat) (a1 : Ref01Law) (a2 : List Int) (a3 : List Int) : Option (Bool) :=
  Option.bind (law01Ready N a1 a2) fun r6 =>
  if !r6 then
    Option.bind (law01Wakes N) fun r8 =>
    some r8
  else
    Option.bind (law01Ended N a1 a2 a3) fun r10 =>
    loopN (fun rec15 x => law01FrameSettled_b5 N a1 r10 rec15 x.1 x.2) N ([], 0)
end Go.Proofs.Ythjafigloabfpaa
