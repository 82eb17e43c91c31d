/-
  The law FrameFirst, typed.
-/
import Derived.Test.YthjafigloabfpaaDef
namespace Go.Proofs.Ythjafigloabfpaa
open Go.Kp
set_option linter.all false

def law01FrameFirst (N : Nat) (a1 : Ref01Law) (a2 : List Int) : Option (Bool) :=
  Option.bind (
    Option.bind (ref01IsLaw N a1) fun r6 =>
    if !r6 then
      some true
    else
      some (decide (40 < (a2.length : Int)))
  ) fun v2 =>
  if v2 then
    Option.bind (law01Wakes N) fun r8 =>
    some r8
  else
    Option.bind (law01Law N a1) fun r11 =>
    Option.bind (law01List N a2) fun r12 =>
    Option.bind (frameBad N r11 r12) fun (ra2, rb2) =>
    if !decide (rb2 = 0) then
      Option.bind (law01Law N a1) fun r21 =>
      Option.bind (law01List N a2) fun r22 =>
      Option.bind (frameRead N r21 r22) fun (ra6, rb6) =>
      Option.bind (
        if decide (rb2 = 7) then
          if decide (rb6 = 0) then
            Option.bind (law01Wakes N) fun r24 =>
            some r24
          else
            some false
        else
          some false
      ) fun v4 =>
      some v4
    else
      Option.bind (
        if decide (ra2 < 0) then
          some true
        else
          some (decide ((a2.length : Int) ≤ ra2))
      ) fun v6 =>
      if v6 then
        some false
      else
        Option.bind (
          Option.bind (law01Law N a1) fun r27 =>
          Option.bind (slc a2 0 ra2) fun l2 =>
          Option.bind (law01List N l2) fun r28 =>
          Option.bind (frameRead N r27 r28) fun (ra8, rb8) =>
          some (rb8, ra8)
        ) fun (v7, c1) =>
        Option.bind (
          Option.bind (law01Law N a1) fun r31 =>
          Option.bind (slc a2 0 (w64 (ra2 + 1))) fun l4 =>
          Option.bind (law01List N l4) fun r32 =>
          Option.bind (frameRead N r31 r32) fun (ra10, rb10) =>
          some rb10
        ) fun v8 =>
        Option.bind (
          Option.bind (law01Law N a1) fun r35 =>
          Option.bind (slc a2 0 ra2) fun l7 =>
          Option.bind (law01List N l7) fun r36 =>
          Option.bind (app N r36 ([0])) fun l8 =>
          Option.bind (frameRead N r35 l8) fun (ra12, rb12) =>
          some (rb12, ra12)
        ) fun (v9, c2) =>
        Option.bind (
          if !decide (v7 = 0) then
            some true
          else
            some (!decide (v8 = 10))
        ) fun v11 =>
        if v11 then
          some false
        else
          if c1.fDone then
            Option.bind (
              if decide (v9 = 10) then
                Option.bind (law01Wakes N) fun r40 =>
                some r40
              else
                some false
            ) fun v13 =>
            some v13
          else
            Option.bind (
              if decide (v9 = 0) then
                if decide ((c1.fFrames.length : Int) ≤ (c2.fFrames.length : Int)) then
                  Option.bind (idx a2 ra2) fun x2 =>
                  if decide (x2 < (-1)) then
                    Option.bind (law01Wakes N) fun r43 =>
                    some r43
                  else
                    if decide (c1.fStanding < x2) then
                      Option.bind (law01Wakes N) fun r44 =>
                      some r44
                    else
                      some false
                else
                  some false
              else
                some false
            ) fun v14 =>
            some v14
end Go.Proofs.Ythjafigloabfpaa
