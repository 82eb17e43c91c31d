/-
  The law FrameEndings, typed.
-/
import Derived.Test.YthjafigloabfpaaDef
namespace Go.Proofs.Ythjafigloabfpaa
open Go.Kp
set_option linter.all false

def law01FrameEndings_k1 (N : Nat) (x2 : Int) (c11 : FrameRange) : Option (Bool) :=
  Option.bind (
    if decide (c11.fLo = x2) then
      if decide (c11.fHi = x2) then
        Option.bind (law01Wakes N) fun r108 =>
        some r108
      else
        some false
    else
      some false
  ) fun v36 =>
  some v36

def law01FrameEndings_b2 (N : Nat) (a1 : Ref01Law) (r10 : List Int) (x2 : Int) (rec3 : (Int × FrameRange) → Option (Bool)) (v53 : Int) (c19 : FrameRange) : Option (Bool) :=
  if decide (v53 ≤ (r10.length : Int)) then
    Option.bind (
      Option.bind (law01Law N a1) fun r131 =>
      Option.bind (slc r10 0 v53) fun l40 =>
      Option.bind (law01List N l40) fun r132 =>
      Option.bind (frameSpan N r131 r132) fun (ra60, rb60) =>
      some (rb60, ra60)
    ) fun (v57, c21) =>
    Option.bind (
      if !decide (v57 = 0) then
        some true
      else
        if decide (c21.fLo < c19.fLo) then
          some true
        else
          if decide (c19.fHi < c21.fHi) then
            some true
          else
            some (decide (c21.fHi < c21.fLo))
    ) fun v59 =>
    if v59 then
      some false
    else
      rec3 ((w64 (v53 + 1), c21))
  else
    law01FrameEndings_k1 N x2 c19

def law01FrameEndings (N : Nat) (a1 : Ref01Law) (a2 : List Int) (a3 : List Int) : Option (Bool) :=
  Option.bind (law01Ready N a1 a2) fun r6 =>
  if !r6 then
    Option.bind (law01Wakes N) fun r8 =>
    some r8
  else
    Option.bind (law01Ended N a1 a2 a3) fun r10 =>
    Option.bind (law01Law N a1) fun r13 =>
    Option.bind (law01List N r10) fun r14 =>
    Option.bind (frameRead N r13 r14) fun (ra2, rb2) =>
    Option.bind (law01Law N a1) fun r17 =>
    Option.bind (law01List N a2) fun r18 =>
    Option.bind (frameSpan N r17 r18) fun (ra4, rb4) =>
    Option.bind (
      if !decide (rb2 = 0) then
        some true
      else
        if !ra2.fDone then
          some true
        else
          if !decide ((ra2.fCounts.length : Int) = a1.fFrames) then
            some true
          else
            some (!decide (rb4 = 0))
    ) fun v2 =>
    if v2 then
      some false
    else
      Option.bind (idx ra2.fCounts (w64 (a1.fFrames - 1))) fun x2 =>
      Option.bind (
        if decide (x2 < ra4.fLo) then
          some true
        else
          some (decide (ra4.fHi < x2))
      ) fun v4 =>
      if v4 then
        some false
      else
        Option.bind (law01Law N a1) fun r61 =>
        Option.bind (law01List N a2) fun r62 =>
        Option.bind (frameShows N r61 r62 ra4.fLo) fun (ra26, rb26) =>
        Option.bind (law01Law N a1) fun r65 =>
        Option.bind (law01List N a2) fun r66 =>
        Option.bind (app N r66 ra26) fun l12 =>
        Option.bind (frameRead N r65 l12) fun (ra28, rb28) =>
        Option.bind (
          if !decide (rb26 = 0) then
            some true
          else
            if !decide (rb28 = 0) then
              some true
            else
              if !ra28.fDone then
                some true
              else
                if !decide ((ra28.fCounts.length : Int) = a1.fFrames) then
                  some true
                else
                  Option.bind (idx ra28.fCounts (w64 (a1.fFrames - 1))) fun x14 =>
                  some (!decide (x14 = ra4.fLo))
        ) fun v10 =>
        if v10 then
          some false
        else
          Option.bind (law01Law N a1) fun r77 =>
          Option.bind (law01List N a2) fun r78 =>
          Option.bind (frameShows N r77 r78 ra4.fHi) fun (ra34, rb34) =>
          Option.bind (law01Law N a1) fun r81 =>
          Option.bind (law01List N a2) fun r82 =>
          Option.bind (app N r82 ra34) fun l16 =>
          Option.bind (frameRead N r81 l16) fun (ra36, rb36) =>
          Option.bind (
            if !decide (rb34 = 0) then
              some true
            else
              if !decide (rb36 = 0) then
                some true
              else
                if !ra36.fDone then
                  some true
                else
                  if !decide ((ra36.fCounts.length : Int) = a1.fFrames) then
                    some true
                  else
                    Option.bind (idx ra36.fCounts (w64 (a1.fFrames - 1))) fun x18 =>
                    some (!decide (x18 = ra4.fHi))
          ) fun v12 =>
          if v12 then
            some false
          else
            loopN (fun rec3 x => law01FrameEndings_b2 N a1 r10 x2 rec3 x.1 x.2) N (((a2.length : Int), ra4))
end Go.Proofs.Ythjafigloabfpaa
