/-
  The law FrameNames, typed.
-/
import Derived.Test.YthjafigloabfpaaDef
namespace Go.Proofs.Ythjafigloabfpaa
open Go.Kp
set_option linter.all false

def law01FrameNames (N : Nat)  : Option (Bool) :=
  Option.bind (law01Ten N) fun r3 =>
  Option.bind (law01Evening N) fun r4 =>
  Option.bind (frameRead N r3 r4) fun (ra2, rb2) =>
  Option.bind (law01Ten N) fun r6 =>
  Option.bind (frameBad N r6 ([10, 10, 5, 5])) fun (ra4, rb4) =>
  Option.bind (law01Ten N) fun r9 =>
  Option.bind (law01Many N 10 10 ([9])) fun r10 =>
  Option.bind (frameSpan N r9 r10) fun (ra6, rb6) =>
  Option.bind (law01Ten N) fun r14 =>
  Option.bind (law01Many N 10 10 ([9, 1])) fun r15 =>
  Option.bind (law01Many N 10 11 ([])) fun r16 =>
  Option.bind (frameAhead N r14 ([r15, r16])) fun (ra8, rb8, rc2) =>
  Option.bind (
    if !decide (rb2 = 0) then
      some true
    else
      if !decide ((ra2.fFrames.length : Int) = 4) then
        some true
      else
        Option.bind (idx ra2.fFrames 0) fun x10 =>
        Option.bind (law01Ints N x10 ([10])) fun r32 =>
        if !r32 then
          some true
        else
          Option.bind (idx ra2.fFrames 2) fun x11 =>
          Option.bind (law01Ints N x11 ([9, (-1)])) fun r33 =>
          if !r33 then
            some true
          else
            Option.bind (idx ra2.fFrames 3) fun x12 =>
            Option.bind (law01Ints N x12 ([4])) fun r34 =>
            if !r34 then
              some true
            else
              if !decide (rb4 = 7) then
                some true
              else
                if !decide (rb6 = 0) then
                  some true
                else
                  if !decide (ra6 = (FrameRange.mk 288 289)) then
                    some true
                  else
                    if !decide (rc2 = 0) then
                      some true
                    else
                      Option.bind (law01Ints N ra8 ([1])) fun r35 =>
                      if !r35 then
                        some true
                      else
                        Option.bind (law01Ints N rb8 ([1])) fun r36 =>
                        some (!r36)
  ) fun v2 =>
  if v2 then
    some false
  else
    Option.bind (law01Ten N) fun r38 =>
    Option.bind (frameRead N r38 ([7, 4])) fun (ra10, rb10) =>
    Option.bind (law01Ten N) fun r41 =>
    Option.bind (law01Many N 10 10 ([9])) fun r42 =>
    Option.bind (frameShows N r41 r42 290) fun (ra12, rb12) =>
    Option.bind (
      Option.bind (law01Ten N) fun r44 =>
      Option.bind (mkl N 41 0) fun l2 =>
      Option.bind (frameBad N r44 l2) fun (ra14, rb14) =>
      some rb14
    ) fun v3 =>
    Option.bind (law01Ten N) fun r46 =>
    Option.bind (frameAhead N r46 ([])) fun (ra16, rb16, rc4) =>
    Option.bind (
      Option.bind (law01Ten N) fun r48 =>
      Option.bind (mkl N 7 ([])) fun l4 =>
      Option.bind (frameAhead N r48 l4) fun (ra18, rb18, rc6) =>
      some rc6
    ) fun v4 =>
    Option.bind (law01Ten N) fun r50 =>
    Option.bind (frameAhead N r50 ([[], [11]])) fun (ra20, rb20, rc8) =>
    Option.bind (law01Ten N) fun r53 =>
    Option.bind (law01Many N 10 13 ([])) fun r54 =>
    Option.bind (frameBad N r53 r54) fun (ra22, rb22) =>
    Option.bind (law01Ten N) fun r56 =>
    Option.bind (frameRead N (FrameLaw.mk r56.fFrames r56.fPins r56.fBalls 9) ([9, 9, 1, 0])) fun (ra24, rb24) =>
    Option.bind (
      if decide (rb10 = 10) then
        if decide (rb12 = 9) then
          if decide (v3 = 3) then
            if decide (rc4 = 1) then
              if decide (v4 = 3) then
                if decide (rc8 = 10) then
                  if decide (rb22 = 0) then
                    if decide (ra22 = 12) then
                      if decide (rb24 = 0) then
                        Option.bind (law01Ints N ra24.fCounts ([21, 32, 33])) fun r62 =>
                        if r62 then
                          Option.bind (frameCheckLaw N (FrameLaw.mk 0 0 0 0)) fun r63 =>
                          if decide (r63 = 1) then
                            Option.bind (frameCheckLaw N (FrameLaw.mk 10 10 2 11)) fun r64 =>
                            if decide (r64 = 1) then
                              Option.bind (frameCheckLaw N (FrameLaw.mk 1 1 3 1)) fun r65 =>
                              if decide (r65 = 0) then
                                Option.bind (law01Wakes N) fun r66 =>
                                some r66
                              else
                                some false
                            else
                              some false
                          else
                            some false
                        else
                          some false
                      else
                        some false
                    else
                      some false
                  else
                    some false
                else
                  some false
              else
                some false
            else
              some false
          else
            some false
        else
          some false
      else
        some false
    ) fun v5 =>
    some v5
end Go.Proofs.Ythjafigloabfpaa
