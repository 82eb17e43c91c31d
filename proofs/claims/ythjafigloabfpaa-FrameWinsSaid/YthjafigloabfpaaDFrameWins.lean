/-
  The law FrameWins, typed.
-/
import Derived.Test.YthjafigloabfpaaDef
namespace Go.Proofs.Ythjafigloabfpaa
open Go.Kp
set_option linter.all false

def law01FrameWins_k1 (N : Nat)   : Option (Bool) :=
  Option.bind (law01Wakes N) fun r108 =>
  some r108

def law01FrameWins_k2 (N : Nat) (v363 : Int) (rec25 : (Int) → Option (Bool))  : Option (Bool) :=
  rec25 (w64 (v363 + 1))

def law01FrameWins_b3 (N : Nat) (ra2 : List Int) (l72 : List Int) (v363 : Int) (rec29 : (Bool × Int) → Option (Bool)) (v420 : Bool) (v421 : Int) : Option (Bool) :=
  if decide (v421 < (ra2.length : Int)) then
    Option.bind (
      if v420 then
        some true
      else
        Option.bind (idx ra2 v421) fun x397 =>
        Option.bind (idx l72 v363) fun x398 =>
        some (decide (x397 = x398))
    ) fun v422 =>
    rec29 ((v422, w64 (v421 + 1)))
  else
    some v420

def law01FrameWins_b4 (N : Nat) (ra2 : List Int) (rb2 : List Int) (l72 : List Int) (rec25 : (Int) → Option (Bool)) (v363 : Int) : Option (Bool) :=
  if decide (v363 < (l72.length : Int)) then
    Option.bind (
      loopN (fun rec29 x => law01FrameWins_b3 N ra2 l72 v363 rec29 x.1 x.2) N (false, 0)
    ) fun v408 =>
    Option.bind (
      if !v408 then
        some true
      else
        if decide ((rb2.length : Int) = 1) then
          Option.bind (idx l72 v363) fun x401 =>
          Option.bind (idx rb2 0) fun x402 =>
          some (!decide (x401 = x402))
        else
          some false
    ) fun v423 =>
    if v423 then
      some false
    else
      law01FrameWins_k2 N v363 rec25
  else
    law01FrameWins_k1 N

def law01FrameWins_k5 (N : Nat) (a1 : Ref01Law) (l52 : List (List Int)) (ra2 : List Int) (rb2 : List Int) (l70 : List Int) : Option (Bool) :=
  Option.bind (law01Law N a1) fun r102 =>
  Option.bind (frameAhead N r102 l52) fun (ra16, rb16, rc4) =>
  Option.bind (
    if !decide (rc4 = 0) then
      some (true, l70)
    else
      Option.bind (law01Ints N ra16 l70) fun r106 =>
      if !r106 then
        some (true, l70)
      else
        some (((decide ((rb16.length : Int) = 1)) != (decide ((l70.length : Int) = 1)), l70))
  ) fun (v55, l72) =>
  if v55 then
    some false
  else
    loopN (fun rec25 x => law01FrameWins_b4 N ra2 rb2 l72 rec25 x) N 0

def law01FrameWins_k6 (N : Nat) (v449 : Int) (rec30 : (Int × Int × (List Int)) → Option (Bool)) (v454 : Int) (l87 : List Int) : Option (Bool) :=
  rec30 ((v454, w64 (v449 + 1), l87))

def law01FrameWins_b7 (N : Nat) (a1 : Ref01Law) (l52 : List (List Int)) (ra2 : List Int) (rb2 : List Int) (rec30 : (Int × Int × (List Int)) → Option (Bool)) (v448 : Int) (v449 : Int) (l84 : List Int) : Option (Bool) :=
  if decide (v449 < (l52.length : Int)) then
    Option.bind (
      Option.bind (idx l52 v449) fun x424 =>
      Option.bind (law01Law N a1) fun r131 =>
      Option.bind (law01List N x424) fun r132 =>
      Option.bind (frameRead N r131 r132) fun (ra28, rb28) =>
      some (rb28, ra28)
    ) fun (v455, c12) =>
    Option.bind (
      if !decide (v455 = 0) then
        some true
      else
        some (!decide ((c12.fCounts.length : Int) = a1.fFrames))
    ) fun v457 =>
    if v457 then
      some false
    else
      Option.bind (idx c12.fCounts (w64 (a1.fFrames - 1))) fun x426 =>
      Option.bind (
        if decide (v448 < x426) then
          some (x426, [])
        else
          some (v448, l84)
      ) fun (v458, l88) =>
      if decide (x426 = v458) then
        Option.bind (app N l88 ([v449])) fun l89 =>
        law01FrameWins_k6 N v449 rec30 v458 l89
      else
        law01FrameWins_k6 N v449 rec30 v458 l88
  else
    law01FrameWins_k5 N a1 l52 ra2 rb2 l84

def law01FrameWins_k8 (N : Nat) (a1 : Ref01Law) (l51 : List (List Int)) (l52 : List (List Int)) : Option (Bool) :=
  Option.bind (law01Law N a1) fun r72 =>
  Option.bind (frameAhead N r72 l51) fun (ra2, rb2, rc2) =>
  Option.bind (
    if !decide (rc2 = 0) then
      some true
    else
      if decide ((ra2.length : Int) = 0) then
        some true
      else
        if decide (1 < (rb2.length : Int)) then
          some true
        else
          if decide ((rb2.length : Int) = 1) then
            Option.bind (law01Ints N ra2 rb2) fun r76 =>
            some (!r76)
          else
            some false
  ) fun v18 =>
  if v18 then
    some false
  else
    loopN (fun rec30 x => law01FrameWins_b7 N a1 l52 ra2 rb2 rec30 x.1 x.2.1 x.2.2) N (((-1), 0, []))

def law01FrameWins_b9 (N : Nat) (a1 : Ref01Law) (a2 : List (List Int)) (rec31 : ((List Int) × Int × (List (List Int)) × (List (List Int))) → Option (Bool)) (v469 : List Int) (v470 : Int) (l124 : List (List Int)) (l125 : List (List Int)) : Option (Bool) :=
  if decide (v470 < (a2.length : Int)) then
    Option.bind (idx a2 v470) fun x465 =>
    Option.bind (law01Ready N a1 x465) fun r193 =>
    if !r193 then
      Option.bind (law01Wakes N) fun r195 =>
      some r195
    else
      Option.bind (law01List N x465) fun r197 =>
      Option.bind (app N l124 ([r197])) fun l134 =>
      Option.bind (
        if decide (0 < (v469.length : Int)) then
          Option.bind (idx v469 0) fun x467 =>
          Option.bind (slc v469 1 (v469.length : Int)) fun l137 =>
          Option.bind (appB l137 ([x467])) fun l138 =>
          some l138
        else
          some v469
      ) fun v472 =>
      Option.bind (idx a2 v470) fun x468 =>
      Option.bind (law01Ended N a1 x468 v472) fun r198 =>
      Option.bind (app N l125 ([r198])) fun l139 =>
      rec31 ((v472, w64 (v470 + 1), l134, l139))
  else
    law01FrameWins_k8 N a1 l124 l125

def law01FrameWins (N : Nat) (a1 : Ref01Law) (a2 : List (List Int)) (a3 : List Int) : Option (Bool) :=
  Option.bind (
    if decide ((a2.length : Int) = 0) then
      some true
    else
      some (decide (6 < (a2.length : Int)))
  ) fun v2 =>
  if v2 then
    Option.bind (law01Wakes N) fun r4 =>
    some r4
  else
    loopN (fun rec31 x => law01FrameWins_b9 N a1 a2 rec31 x.1 x.2.1 x.2.2.1 x.2.2.2) N (a3, 0, [], [])
end Go.Proofs.Ythjafigloabfpaa
