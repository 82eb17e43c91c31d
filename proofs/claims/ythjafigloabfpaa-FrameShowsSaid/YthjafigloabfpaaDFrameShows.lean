/-
  The law FrameShows, typed.
-/
import Derived.Test.YthjafigloabfpaaDef
namespace Go.Proofs.Ythjafigloabfpaa
open Go.Kp
set_option linter.all false

def law01FrameShows_b1 (N : Nat) (a3 : Int) (r14 : List Int) (rec3 : (Int × Int) → Option (Int)) (v21 : Int) (v22 : Int) : Option (Int) :=
  if decide (v22 < (r14.length : Int)) then
    Option.bind (
      Option.bind (idx r14 v22) fun x24 =>
      if decide (x24 = a3) then
        some 0
      else
        some v21
    ) fun v23 =>
    rec3 ((v23, w64 (v22 + 1)))
  else
    some v21

def law01FrameShows_k2 (N : Nat) (a1 : Ref01Law) (a2 : List Int) (a3 : Int) (ra2 : List Int) (rb2 : Int)  : Option (Bool) :=
  Option.bind (
    if decide (rb2 = 0) then
      if decide ((ra2.length : Int) ≤ 40) then
        Option.bind (law01List N a2) fun r22 =>
        Option.bind (app N r22 ra2) fun l2 =>
        Option.bind (ref01Final N a1 l2) fun r23 =>
        if decide (r23 = a3) then
          Option.bind (law01Wakes N) fun r24 =>
          some r24
        else
          some false
      else
        some false
    else
      some false
  ) fun v30 =>
  some v30

def law01FrameShows_b3 (N : Nat) (a1 : Ref01Law) (a2 : List Int) (a3 : Int) (ra2 : List Int) (rb2 : Int) (rec5 : (Int) → Option (Bool)) (v34 : Int) : Option (Bool) :=
  if decide (v34 < (ra2.length : Int)) then
    Option.bind (idx ra2 v34) fun x48 =>
    if decide (x48 < 0) then
      some false
    else
      rec5 (w64 (v34 + 1))
  else
    law01FrameShows_k2 N a1 a2 a3 ra2 rb2

def law01FrameShows (N : Nat) (a1 : Ref01Law) (a2 : List Int) (a3 : Int) : Option (Bool) :=
  if decide (45 < (a2.length : Int)) then
    Option.bind (law01Wakes N) fun r4 =>
    some r4
  else
    Option.bind (law01Law N a1) fun r7 =>
    Option.bind (law01List N a2) fun r8 =>
    Option.bind (frameShows N r7 r8 a3) fun (ra2, rb2) =>
    Option.bind (law01Fault N a1 a2) fun r10 =>
    Option.bind (
      if decide (r10 = 0) then
        Option.bind (ref01Finals N a1 a2) fun r14 =>
        loopN (fun rec3 x => law01FrameShows_b1 N a3 r14 rec3 x.1 x.2) N (9, 0)
      else
        some r10
    ) fun v12 =>
    if !decide (v12 = 0) then
      Option.bind (
        if decide (rb2 = v12) then
          if decide ((ra2.length : Int) = 0) then
            Option.bind (law01Wakes N) fun r18 =>
            some r18
          else
            some false
        else
          some false
      ) fun v25 =>
      some v25
    else
      loopN (fun rec5 x => law01FrameShows_b3 N a1 a2 a3 ra2 rb2 rec5 x) N 0
end Go.Proofs.Ythjafigloabfpaa
