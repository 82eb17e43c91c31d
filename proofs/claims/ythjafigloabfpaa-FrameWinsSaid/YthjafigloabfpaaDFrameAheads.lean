/-
  The law FrameAheads, typed.
-/
import Derived.Test.YthjafigloabfpaaDef
namespace Go.Proofs.Ythjafigloabfpaa
open Go.Kp
set_option linter.all false

def law01FrameAheads_b1 (N : Nat) (a1 : Ref01Law) (a2 : List (List Int)) (rec4 : (Int × Int) → Option (Int)) (v48 : Int) (v49 : Int) : Option (Int) :=
  Option.bind (
    if decide (v49 < (a2.length : Int)) then
      some (decide (v48 = 0))
    else
      some false
  ) fun v51 =>
  if v51 then
    Option.bind (
      Option.bind (idx a2 v49) fun x54 =>
      Option.bind (ref01Is N a1 x54) fun r64 =>
      if !r64 then
        some 10
      else
        some v48
    ) fun v52 =>
    rec4 ((v52, w64 (v49 + 1)))
  else
    some v48

def law01FrameAheads_b2 (N : Nat) (a1 : Ref01Law) (a2 : List (List Int)) (v818 : Int) (c160 : Ref01Range) (rec30 : (Bool × Bool × Int) → Option (Bool × Bool)) (v960 : Bool) (v961 : Bool) (v962 : Int) : Option (Bool × Bool) :=
  if decide (v962 < (a2.length : Int)) then
    Option.bind (
      Option.bind (
        Option.bind (idx a2 v962) fun x398 =>
        Option.bind (ref01Span N a1 x398) fun r412 =>
        some r412
      ) fun c172 =>
      Option.bind (
        if v960 then
          if decide (v962 = v818) then
            some true
          else
            some (decide (c172.fLo ≤ c160.fHi))
        else
          some false
      ) fun v966 =>
      if v961 then
        if decide (v962 = v818) then
          some (v966, true)
        else
          some ((v966, decide (c172.fHi < c160.fLo)))
      else
        some (v966, false)
    ) fun (v964, v965) =>
    rec30 ((v964, v965, w64 (v962 + 1)))
  else
    some (v960, v961)

def law01FrameAheads_b3 (N : Nat) (a1 : Ref01Law) (a2 : List (List Int)) (rec26 : (Int × (List Int) × (List Int)) → Option ((List Int) × (List Int))) (v818 : Int) (l78 : List Int) (l79 : List Int) : Option ((List Int) × (List Int)) :=
  if decide (v818 < (a2.length : Int)) then
    Option.bind (
      Option.bind (
        Option.bind (idx a2 v818) fun x374 =>
        Option.bind (ref01Span N a1 x374) fun r388 =>
        some r388
      ) fun c160 =>
      Option.bind (
        loopN (fun rec30 x => law01FrameAheads_b2 N a1 a2 v818 c160 rec30 x.1 x.2.1 x.2.2) N (true, true, 0)
      ) fun (v929, v930) =>
      Option.bind (
        if v929 then
          Option.bind (app N l78 ([v818])) fun l88 =>
          some l88
        else
          some l78
      ) fun l87 =>
      if v930 then
        Option.bind (app N l79 ([v818])) fun l89 =>
        some (l87, l89)
      else
        some (l87, l79)
    ) fun (l84, l85) =>
    rec26 ((w64 (v818 + 1), l84, l85))
  else
    some (l78, l79)

def law01FrameAheads_k4 (N : Nat) (a1 : Ref01Law) (a2 : List (List Int)) (v16 : Bool) (l11 : List (List Int)) : Option (Bool) :=
  Option.bind (law01Law N a1) fun r36 =>
  Option.bind (frameAhead N r36 l11) fun (ra2, rb2, rc2) =>
  Option.bind (
    Option.bind (ref01IsLaw N a1) fun r40 =>
    if !r40 then
      some 1
    else
      if v16 then
        some 3
      else
        if decide ((a2.length : Int) = 0) then
          some 1
        else
          some 0
  ) fun v17 =>
  Option.bind (
    loopN (fun rec4 x => law01FrameAheads_b1 N a1 a2 rec4 x.1 x.2) N (v17, 0)
  ) fun v35 =>
  if !decide (v35 = 0) then
    Option.bind (
      if decide (rc2 = v35) then
        if decide ((w64 ((ra2.length : Int) + (rb2.length : Int))) = 0) then
          Option.bind (law01Wakes N) fun r68 =>
          some r68
        else
          some false
      else
        some false
    ) fun v54 =>
    some v54
  else
    Option.bind (
      loopN (fun rec26 x => law01FrameAheads_b3 N a1 a2 rec26 x.1 x.2.1 x.2.2) N (0, [], [])
    ) fun (l50, l51) =>
    Option.bind (
      if decide (rc2 = 0) then
        Option.bind (law01Ints N ra2 l50) fun r416 =>
        if r416 then
          Option.bind (law01Ints N rb2 l51) fun r417 =>
          if r417 then
            Option.bind (law01Wakes N) fun r418 =>
            some r418
          else
            some false
        else
          some false
      else
        some false
    ) fun v967 =>
    some v967

def law01FrameAheads_b5 (N : Nat) (a1 : Ref01Law) (a2 : List (List Int)) (rec31 : (Bool × Int × (List (List Int))) → Option (Bool)) (v979 : Bool) (v980 : Int) (l97 : List (List Int)) : Option (Bool) :=
  if decide (v980 < (a2.length : Int)) then
    Option.bind (idx a2 v980) fun x427 =>
    if decide (45 < (x427.length : Int)) then
      Option.bind (law01Wakes N) fun r447 =>
      some r447
    else
      Option.bind (
        if v979 then
          some true
        else
          some (decide (40 < (x427.length : Int)))
      ) fun v982 =>
      Option.bind (idx a2 v980) fun x428 =>
      Option.bind (law01List N x428) fun r448 =>
      Option.bind (app N l97 ([r448])) fun l99 =>
      rec31 ((v982, w64 (v980 + 1), l99))
  else
    law01FrameAheads_k4 N a1 a2 v979 l97

def law01FrameAheads (N : Nat) (a1 : Ref01Law) (a2 : List (List Int)) : Option (Bool) :=
  if decide (8 < (a2.length : Int)) then
    Option.bind (law01Wakes N) fun r4 =>
    some r4
  else
    loopN (fun rec31 x => law01FrameAheads_b5 N a1 a2 rec31 x.1 x.2.1 x.2.2) N ((decide (6 < (a2.length : Int)), 0, []))
end Go.Proofs.Ythjafigloabfpaa
