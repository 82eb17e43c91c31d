/-
  The functions of the program and of the document, typed, by fuel; printed by a program off the translation. No program in sight.
-/
import Derived.Test.YthjafigloabfpaaPre
namespace Go.Proofs.Ythjafigloabfpaa
open Go.Kp
set_option linter.all false

structure Ref01Law where
  fFrames : Int
  fPins : Int
  fBalls : Int
  fTap : Int
  deriving DecidableEq

structure FrameLaw where
  fFrames : Int
  fPins : Int
  fBalls : Int
  fTap : Int
  deriving DecidableEq

structure FrameGame where
  fFrames : List (List Int)
  fCounts : List Int
  fStanding : Int
  fDone : Bool
  deriving DecidableEq

structure FrameAt where
  fFrame : Int
  fThrown : Int
  fStanding : Int
  fFresh : Bool
  fNeed : Int
  fAfter : Ar2 Int
  deriving DecidableEq

structure FramePlay where
  fLaw : FrameLaw
  fAt : FrameAt
  deriving DecidableEq

structure FrameRange where
  fLo : Int
  fHi : Int
  deriving DecidableEq

structure FrameGoal where
  fAt : FrameAt
  fLeft : Int
  deriving DecidableEq

structure Ref01Stand where
  fFrame : Int
  fThrown : Int
  fStanding : Int
  fSet : Bool
  fHas : Int
  deriving DecidableEq

structure Ref01Ball where
  fFrame : Int
  fCount : Int
  deriving DecidableEq

structure Ref01Game where
  fFrames : List (List Int)
  fCounts : List Int
  fStanding : Int
  fDone : Bool
  deriving DecidableEq

structure Ref01Range where
  fLo : Int
  fHi : Int
  deriving DecidableEq

structure Ref01Tail where
  fStand : Ref01Stand
  fOne : Int
  fTwo : Int
  deriving DecidableEq

def law01Ten (N : Nat)  : Option (FrameLaw) :=
  some (FrameLaw.mk 10 10 2 10)

def law01Evening (N : Nat)  : Option ((List Int)) :=
  some ([10, 7, 3, 9, (-1), 4])

def frameWithin (N : Nat) (n1 : Int) (low1 : Int) (high1 : Int) : Option (Bool) :=
  Option.bind (
    if decide (low1 ≤ n1) then
      some (decide (n1 ≤ high1))
    else
      some false
  ) fun v1 =>
  some v1

def frameCheckLaw (N : Nat) (l1 : FrameLaw) : Option (Int) :=
  Option.bind (
    Option.bind (frameWithin N l1.fFrames 1 10) fun r13 =>
    if !r13 then
      some true
    else
      Option.bind (frameWithin N l1.fPins 1 10) fun r14 =>
      if !r14 then
        some true
      else
        Option.bind (frameWithin N l1.fBalls 2 3) fun r15 =>
        if !r15 then
          some true
        else
          Option.bind (frameWithin N l1.fTap 1 l1.fPins) fun r16 =>
          some (!r16)
  ) fun v2 =>
  if v2 then
    some 1
  else
    some 0

def frameLawBalls (N : Nat) (l1 : FrameLaw) (sheet1 : List Int) : Option (FrameLaw × (List Int)) :=
  some (l1, sheet1)

def frameLawBegin (N : Nat) (l1 : FrameLaw) : Option (FramePlay) :=
  some ((FramePlay.mk l1 (FrameAt.mk 0 0 l1.fPins true l1.fBalls (Ar2.mk 0 0))))

def framePlayDone (N : Nat) (p1 : FramePlay) : Option (Bool) :=
  some (decide (p1.fAt.fFrame = p1.fLaw.fFrames))

def framePlayMay (N : Nat) (p1 : FramePlay) (ball1 : Int) : Option (Bool) :=
  Option.bind (
    Option.bind (framePlayDone N p1) fun r3 =>
    if !r3 then
      Option.bind (frameWithin N ball1 (-1) p1.fAt.fStanding) fun r4 =>
      some r4
    else
      some false
  ) fun v1 =>
  some v1

def framePlayNext (N : Nat) (a1 : FramePlay) (a2 : Int) : Option (FramePlay × Int × Int) :=
  Option.bind (
    Option.bind (
      if a1.fAt.fFresh then
        some ((max 0 a2, decide (a1.fLaw.fTap ≤ (max 0 a2))))
      else
        some (max 0 a2, false)
    ) fun (v4, v5) =>
    if v5 then
      some a1.fLaw.fPins
    else
      some v4
  ) fun v3 =>
  Option.bind (
    Option.bind (
      if decide (a1.fAt.fFrame = (w64 (a1.fLaw.fFrames - 1))) then
        if decide ((w64 (a1.fAt.fStanding - v3)) = 0) then
          some ((w64 (v3 * (w64 (1 + a1.fAt.fAfter.a0))), decide ((w64 (a1.fAt.fStanding - v3)) = 0), decide (a1.fAt.fFrame = (w64 (a1.fLaw.fFrames - 1))), decide ((w64 (a1.fAt.fThrown + 1)) < 3), (FramePlay.mk a1.fLaw (FrameAt.mk a1.fAt.fFrame (w64 (a1.fAt.fThrown + 1)) (w64 (a1.fAt.fStanding - v3)) false a1.fAt.fNeed (Ar2.mk a1.fAt.fAfter.a1 0)))))
        else
          some ((w64 (v3 * (w64 (1 + a1.fAt.fAfter.a0))), decide ((w64 (a1.fAt.fStanding - v3)) = 0), decide (a1.fAt.fFrame = (w64 (a1.fLaw.fFrames - 1))), false, (FramePlay.mk a1.fLaw (FrameAt.mk a1.fAt.fFrame (w64 (a1.fAt.fThrown + 1)) (w64 (a1.fAt.fStanding - v3)) false a1.fAt.fNeed (Ar2.mk a1.fAt.fAfter.a1 0)))))
      else
        some ((w64 (v3 * (w64 (1 + a1.fAt.fAfter.a0))), decide ((w64 (a1.fAt.fStanding - v3)) = 0), decide (a1.fAt.fFrame = (w64 (a1.fLaw.fFrames - 1))), false, (FramePlay.mk a1.fLaw (FrameAt.mk a1.fAt.fFrame (w64 (a1.fAt.fThrown + 1)) (w64 (a1.fAt.fStanding - v3)) false a1.fAt.fNeed (Ar2.mk a1.fAt.fAfter.a1 0)))))
    ) fun (v15, v16, v17, v18, c3) =>
    if v18 then
      some ((v15, v16, v17, (FramePlay.mk c3.fLaw (FrameAt.mk c3.fAt.fFrame c3.fAt.fThrown c3.fLaw.fPins true 3 c3.fAt.fAfter))))
    else
      Option.bind (
        if !v17 then
          if v16 then
            some (decide (c3.fAt.fThrown = 1))
          else
            some false
        else
          some false
      ) fun v19 =>
      if v19 then
        some ((v15, v16, v17, (FramePlay.mk c3.fLaw (FrameAt.mk c3.fAt.fFrame c3.fAt.fThrown c3.fAt.fStanding c3.fAt.fFresh c3.fAt.fNeed (Ar2.mk (w64 (c3.fAt.fAfter.a0 + 1)) (w64 (c3.fAt.fAfter.a1 + 1)))))))
      else
        Option.bind (
          if !v17 then
            if v16 then
              some (decide (c3.fAt.fThrown = 2))
            else
              some false
          else
            some false
        ) fun v20 =>
        if v20 then
          some ((v15, v16, v17, (FramePlay.mk c3.fLaw (FrameAt.mk c3.fAt.fFrame c3.fAt.fThrown c3.fAt.fStanding c3.fAt.fFresh c3.fAt.fNeed (Ar2.mk (w64 (c3.fAt.fAfter.a0 + 1)) c3.fAt.fAfter.a1)))))
        else
          some (v15, v16, v17, c3)
  ) fun (v12, v13, v14, c2) =>
  Option.bind (
    Option.bind (
      if decide (c2.fAt.fThrown = c2.fAt.fNeed) then
        some true
      else
        if !v14 then
          some v13
        else
          some false
    ) fun v22 =>
    if v22 then
      some ((FramePlay.mk c2.fLaw (FrameAt.mk (w64 (c2.fAt.fFrame + 1)) 0 c2.fLaw.fPins true c2.fLaw.fBalls c2.fAt.fAfter)))
    else
      some c2
  ) fun c4 =>
  some (c4, v3, v12)

def frameLawBad_b1 (N : Nat) (rb16 : List Int) (rec3 : (Int × Int × FramePlay × Int) → Option (Int)) (v17 : Int) (v18 : Int) (c16 : FramePlay) (c17 : Int) : Option (Int) :=
  if decide (v18 < v17) then
    Option.bind (idx rb16 v18) fun x24 =>
    Option.bind (framePlayMay N c16 x24) fun r52 =>
    if !r52 then
      some c17
    else
      Option.bind (framePlayNext N c16 x24) fun (ra28, rb28, rc26) =>
      rec3 ((v17, w64 (v18 + 1), ra28, w64 (v18 + 1)))
  else
    some c17

def frameLawBad (N : Nat) (l1 : FrameLaw) (sheet1 : List Int) : Option (Int) :=
  Option.bind (
    Option.bind (frameLawBalls N l1 sheet1) fun (ra16, rb16) =>
    Option.bind (frameLawBegin N ra16) fun r28 =>
    loopN (fun rec3 x => frameLawBad_b1 N rb16 rec3 x.1 x.2.1 x.2.2.1 x.2.2.2) N (((rb16.length : Int), 0, r28, 0))
  ) fun c9 =>
  some c9

def frameLawCheck (N : Nat) (l1 : FrameLaw) (sheet1 : List Int) : Option (Int) :=
  Option.bind (frameCheckLaw N l1) fun r6 =>
  if !decide (r6 = 0) then
    some r6
  else
    if decide (40 < (sheet1.length : Int)) then
      some 3
    else
      Option.bind (frameLawBad N l1 sheet1) fun r8 =>
      if decide (r8 < (sheet1.length : Int)) then
        some 10
      else
        some 0

def frameSum_b1 (N : Nat) (l1 : List Int) (rec3 : (Int × Int × Int) → Option (Int)) (n10 : Int) (v17 : Int) (v18 : Int) : Option (Int) :=
  if decide (v18 < v17) then
    Option.bind (idx l1 v18) fun x24 =>
    rec3 ((w64 (n10 + x24), v17, w64 (v18 + 1)))
  else
    some n10

def frameSum (N : Nat) (l1 : List Int) : Option (Int) :=
  Option.bind (
    loopN (fun rec3 x => frameSum_b1 N l1 rec3 x.1 x.2.1 x.2.2) N ((0, (l1.length : Int), 0))
  ) fun n6 =>
  some n6

def frameLawCounts_b1 (N : Nat) (a1 : FrameLaw) (rb16 : List Int) (rec3 : (Int × Int × FramePlay × (List Int) × (List Int) × (List Int) × (List Int)) → Option ((List Int) × (List Int) × (List Int))) (v57 : Int) (v58 : Int) (c8 : FramePlay) (l474 : List Int) (l475 : List Int) (l476 : List Int) (l477 : List Int) : Option ((List Int) × (List Int) × (List Int)) :=
  if decide (v58 < v57) then
    Option.bind (idx rb16 v58) fun x288 =>
    Option.bind (framePlayMay N c8 x288) fun r140 =>
    if !r140 then
      some (l474, l475, l476)
    else
      Option.bind (framePlayNext N c8 x288) fun (ra28, rb28, rc26) =>
      Option.bind (
        Option.bind (app N l474 ([rb28])) fun l558 =>
        Option.bind (idx l477 c8.fAt.fFrame) fun x308 =>
        if decide (c8.fAt.fFrame < ra28.fAt.fFrame) then
          Option.bind (app N l475 ([w64 (v58 + 1)])) fun l560 =>
          Option.bind (app N l476 ([0])) fun l562 =>
          Option.bind (idx ((List.set l477 (Int.toNat c8.fAt.fFrame) (w64 (x308 + 1)))) c8.fAt.fFrame) fun x310 =>
          Option.bind (slc l558 (w64 ((w64 (v58 + 1)) - x310)) (l558.length : Int)) fun l564 =>
          Option.bind (frameSum N l564) fun r148 =>
          Option.bind (
            if decide (c8.fAt.fFrame < (w64 (a1.fFrames - 1))) then
              if decide (r148 = a1.fPins) then
                some ((decide (x310 < 3), (List.set l477 (Int.toNat c8.fAt.fFrame) (w64 (x308 + 1)))))
              else
                some ((false, (List.set l477 (Int.toNat c8.fAt.fFrame) (w64 (x308 + 1)))))
            else
              some ((false, (List.set l477 (Int.toNat c8.fAt.fFrame) (w64 (x308 + 1)))))
          ) fun (v66, l565) =>
          if v66 then
            Option.bind (idx l565 c8.fAt.fFrame) fun x311 =>
            Option.bind (idx l562 c8.fAt.fFrame) fun x312 =>
            some ((l558, l560, (List.set l562 (Int.toNat c8.fAt.fFrame) (w64 (3 - x311))), l565))
          else
            some (l558, l560, l562, l565)
        else
          some ((l558, l475, l476, (List.set l477 (Int.toNat c8.fAt.fFrame) (w64 (x308 + 1)))))
      ) fun (l553, l554, l555, l556) =>
      rec3 ((v57, w64 (v58 + 1), ra28, l553, l554, l555, l556))
  else
    some (l474, l475, l476)

def frameLawCounts_k2 (N : Nat)  (l594 : List Int) : Option ((List Int)) :=
  some l594

def frameLawCounts_b3 (N : Nat) (l283 : List Int) (l284 : List Int) (l285 : List Int) (rec5 : (Int × Int × Int × (List Int)) → Option ((List Int))) (v96 : Int) (v97 : Int) (v98 : Int) (l614 : List Int) : Option ((List Int)) :=
  if decide (v98 < v97) then
    Option.bind (idx l284 v98) fun x394 =>
    Option.bind (idx l285 v98) fun x398 =>
    if decide ((l283.length : Int) < (w64 (x394 + x398))) then
      some l614
    else
      Option.bind (slc l283 v96 (w64 (x394 + x398))) fun l620 =>
      Option.bind (frameSum N l620) fun r186 =>
      Option.bind (
        if decide (0 < v98) then
          Option.bind (idx l614 (w64 (v98 - 1))) fun x400 =>
          Option.bind (frameSum N ([r186, x400])) fun r188 =>
          some r188
        else
          some r186
      ) fun v100 =>
      Option.bind (app N l614 ([v100])) fun l622 =>
      rec5 ((x394, v97, w64 (v98 + 1), l622))
  else
    frameLawCounts_k2 N l614

def frameLawCounts (N : Nat) (a1 : FrameLaw) (a2 : List Int) : Option ((List Int)) :=
  Option.bind (mkl N a1.fFrames 0) fun l2 =>
  Option.bind (
    Option.bind (frameLawBalls N a1 a2) fun (ra16, rb16) =>
    Option.bind (frameLawBegin N ra16) fun r76 =>
    loopN (fun rec3 x => frameLawCounts_b1 N a1 rb16 rec3 x.1 x.2.1 x.2.2.1 x.2.2.2.1 x.2.2.2.2.1 x.2.2.2.2.2.1 x.2.2.2.2.2.2) N (((rb16.length : Int), 0, r76, [], [], [], l2))
  ) fun (l283, l284, l285) =>
  loopN (fun rec5 x => frameLawCounts_b3 N l283 l284 l285 rec5 x.1 x.2.1 x.2.2.1 x.2.2.2) N ((0, (l284.length : Int), 0, []))

def frameLawBehind_b1 (N : Nat) (rb16 : List Int) (rec3 : (Int × Int × FramePlay × FramePlay) → Option (FramePlay)) (v17 : Int) (v18 : Int) (c8 : FramePlay) (p9 : FramePlay) : Option (FramePlay) :=
  if decide (v18 < v17) then
    Option.bind (idx rb16 v18) fun x24 =>
    Option.bind (framePlayMay N c8 x24) fun r54 =>
    if !r54 then
      some p9
    else
      Option.bind (framePlayNext N c8 x24) fun (ra28, rb28, rc26) =>
      rec3 ((v17, w64 (v18 + 1), ra28, ra28))
  else
    some p9

def frameLawBehind (N : Nat) (l1 : FrameLaw) (sheet1 : List Int) : Option (FramePlay) :=
  Option.bind (frameLawBegin N l1) fun r2 =>
  Option.bind (
    Option.bind (frameLawBalls N l1 sheet1) fun (ra16, rb16) =>
    Option.bind (frameLawBegin N ra16) fun r30 =>
    loopN (fun rec3 x => frameLawBehind_b1 N rb16 rec3 x.1 x.2.1 x.2.2.1 x.2.2.2) N (((rb16.length : Int), 0, r30, r2))
  ) fun p5 =>
  some p5

def frameRead_b1 (N : Nat) (rb16 : List Int) (rec3 : (Int × Int × FramePlay × (List (List Int))) → Option ((List (List Int)))) (v17 : Int) (v18 : Int) (c8 : FramePlay) (l137 : List (List Int)) : Option ((List (List Int))) :=
  if decide (v18 < v17) then
    Option.bind (idx rb16 v18) fun x68 =>
    Option.bind (framePlayMay N c8 x68) fun r58 =>
    if !r58 then
      some l137
    else
      Option.bind (framePlayNext N c8 x68) fun (ra28, rb28, rc26) =>
      Option.bind (
        if decide (c8.fAt.fFrame = (l137.length : Int)) then
          Option.bind (app N l137 [[]]) fun l168 =>
          some l168
        else
          some l137
      ) fun l167 =>
      Option.bind (idx l167 c8.fAt.fFrame) fun x72 =>
      Option.bind (app N x72 ([x68])) fun l169 =>
      rec3 ((v17, w64 (v18 + 1), ra28, (List.set l167 (Int.toNat c8.fAt.fFrame) l169)))
  else
    some l137

def frameRead (N : Nat) (a1 : FrameLaw) (a2 : List Int) : Option (FrameGame × Int) :=
  Option.bind (frameLawCheck N a1 a2) fun r4 =>
  if !decide (r4 = 0) then
    some (((FrameGame.mk ([]) ([]) 0 false), r4))
  else
    Option.bind (frameLawCounts N a1 a2) fun r6 =>
    Option.bind (
      Option.bind (frameLawBalls N a1 a2) fun (ra16, rb16) =>
      Option.bind (frameLawBegin N ra16) fun r34 =>
      loopN (fun rec3 x => frameRead_b1 N rb16 rec3 x.1 x.2.1 x.2.2.1 x.2.2.2) N (((rb16.length : Int), 0, r34, []))
    ) fun l85 =>
    Option.bind (frameLawBehind N a1 a2) fun r60 =>
    Option.bind (
      Option.bind (framePlayDone N r60) fun r64 =>
      if !r64 then
        some (r60.fAt.fStanding, r64)
      else
        some (0, r64)
    ) fun (c9, c10) =>
    some (((FrameGame.mk l85 r6 c9 c10), 0))

def frameBad (N : Nat) (l1 : FrameLaw) (balls1 : List Int) : Option (Int × Int) :=
  Option.bind (frameLawCheck N l1 balls1) fun r2 =>
  if decide (r2 = 0) then
    some (0, 7)
  else
    if decide (r2 = 10) then
      Option.bind (frameLawBad N l1 balls1) fun r4 =>
      some (r4, 0)
    else
      some (0, r2)

def frameLawTotal_b1 (N : Nat) (sheet1 : List Int) (rec3 : (Int × Int × Int × FramePlay) → Option (Int)) (n10 : Int) (v17 : Int) (v18 : Int) (p8 : FramePlay) : Option (Int) :=
  if decide (v18 < v17) then
    Option.bind (idx sheet1 v18) fun x24 =>
    Option.bind (framePlayNext N p8 x24) fun (ra24, rb24, rc24) =>
    Option.bind (frameSum N ([n10, rc24])) fun r14 =>
    rec3 ((r14, v17, w64 (v18 + 1), ra24))
  else
    some n10

def frameLawTotal (N : Nat) (l1 : FrameLaw) (sheet1 : List Int) : Option (Int) :=
  Option.bind (frameLawBegin N l1) fun r2 =>
  Option.bind (
    loopN (fun rec3 x => frameLawTotal_b1 N sheet1 rec3 x.1 x.2.1 x.2.2.1 x.2.2.2) N ((0, (sheet1.length : Int), 0, r2))
  ) fun n6 =>
  some n6

def framePlayLeast (N : Nat) (p1 : FramePlay) : Option (Int) :=
  some 0

def frameLawFinal_b1 (N : Nat)  (rec3 : (Int × FramePlay) → Option (Int)) (n10 : Int) (p8 : FramePlay) : Option (Int) :=
  Option.bind (framePlayDone N p8) fun r62 =>
  if !r62 then
    Option.bind (
      Option.bind (framePlayLeast N p8) fun r67 =>
      Option.bind (framePlayNext N p8 r67) fun (ra24, rb24, rc24) =>
      some (rc24, ra24)
    ) fun (worth12, now12) =>
    Option.bind (frameSum N ([n10, worth12])) fun r68 =>
    rec3 (r68, now12)
  else
    some n10

def frameLawFinal (N : Nat) (l1 : FrameLaw) (sheet1 : List Int) : Option (Int) :=
  Option.bind (frameLawTotal N l1 sheet1) fun r2 =>
  Option.bind (
    Option.bind (frameLawBehind N l1 sheet1) fun r37 =>
    loopN (fun rec3 x => frameLawFinal_b1 N rec3 x.1 x.2) N (r2, r37)
  ) fun n6 =>
  some n6

def framePlayMost (N : Nat) (p1 : FramePlay) : Option (Int) :=
  some p1.fAt.fStanding

def frameLawFinalX_b1 (N : Nat)  (rec3 : (Int × FramePlay) → Option (Int)) (n10 : Int) (p8 : FramePlay) : Option (Int) :=
  Option.bind (framePlayDone N p8) fun r62 =>
  if !r62 then
    Option.bind (
      Option.bind (framePlayMost N p8) fun r67 =>
      Option.bind (framePlayNext N p8 r67) fun (ra24, rb24, rc24) =>
      some (rc24, ra24)
    ) fun (worth12, now12) =>
    Option.bind (frameSum N ([n10, worth12])) fun r68 =>
    rec3 (r68, now12)
  else
    some n10

def frameLawFinalX (N : Nat) (l1 : FrameLaw) (sheet1 : List Int) : Option (Int) :=
  Option.bind (frameLawTotal N l1 sheet1) fun r2 =>
  Option.bind (
    Option.bind (frameLawBehind N l1 sheet1) fun r37 =>
    loopN (fun rec3 x => frameLawFinalX_b1 N rec3 x.1 x.2) N (r2, r37)
  ) fun n6 =>
  some n6

def frameLawSpan (N : Nat) (l1 : FrameLaw) (sheet1 : List Int) : Option (FrameRange) :=
  Option.bind (
    Option.bind (frameLawFinal N l1 sheet1) fun r3 =>
    Option.bind (frameLawFinalX N l1 sheet1) fun r4 =>
    some (FrameRange.mk r3 r4)
  ) fun c1 =>
  some c1

def frameSpan (N : Nat) (l1 : FrameLaw) (balls1 : List Int) : Option (FrameRange × Int) :=
  Option.bind (frameLawCheck N l1 balls1) fun r4 =>
  if !decide (r4 = 0) then
    some (((FrameRange.mk 0 0), r4))
  else
    Option.bind (frameLawSpan N l1 balls1) fun r6 =>
    some (r6, 0)

def law01Many_b1 (N : Nat) (ball1 : Int) (times1 : Int) (rec3 : (Int × (List Int)) → Option ((List Int))) (i8 : Int) (l19 : List Int) : Option ((List Int)) :=
  if decide (i8 < times1) then
    Option.bind (app N l19 ([ball1])) fun l21 =>
    rec3 ((w64 (i8 + 1), l21))
  else
    some l19

def law01Many (N : Nat) (ball1 : Int) (times1 : Int) (more1 : List Int) : Option ((List Int)) :=
  Option.bind (
    loopN (fun rec3 x => law01Many_b1 N ball1 times1 rec3 x.1 x.2) N (0, [])
  ) fun l11 =>
  Option.bind (app N l11 more1) fun l23 =>
  some l23

def frameShows1_k1 (N : Nat) (p1 : FramePlay) (left1 : Int) (m6 : List (FrameGoal × Bool)) (l24 : List Int) : Option (Bool × (List (FrameGoal × Bool)) × (List Int)) :=
  some ((false, (mput m6 (FrameGoal.mk p1.fAt left1) true), l24))

def frameShows1_b2 (N : Nat) (rec1 : (FramePlay × Int × (List (FrameGoal × Bool)) × (List Int)) → Option (Bool × (List (FrameGoal × Bool)) × (List Int))) (p1 : FramePlay) (left1 : Int) (rec3 : (Int × Int × (List (FrameGoal × Bool)) × (List Int)) → Option (Bool × (List (FrameGoal × Bool)) × (List Int))) (v23 : Int) (v24 : Int) (m10 : List (FrameGoal × Bool)) (l40 : List Int) : Option (Bool × (List (FrameGoal × Bool)) × (List Int)) :=
  if decide (v24 < v23) then
    Option.bind (framePlayNext N p1 v24) fun (ra68, rb68, rc68) =>
    Option.bind (app N l40 ([v24])) fun l45 =>
    Option.bind (rec1 ((ra68, w64 (left1 - rc68), m10, l45))) fun (ra72, rb72, rc72) =>
    if ra72 then
      some (true, rb72, rc72)
    else
      Option.bind (slc rc72 0 (w64 ((rc72.length : Int) - 1))) fun l46 =>
      rec3 ((v23, w64 (v24 + 1), rb72, l46))
  else
    frameShows1_k1 N p1 left1 m10 l40

def frameShows1_f (N : Nat) (rec1 : (FramePlay × Int × (List (FrameGoal × Bool)) × (List Int)) → Option (Bool × (List (FrameGoal × Bool)) × (List Int))) (p1 : FramePlay) (left1 : Int) (m1 : List (FrameGoal × Bool)) (l1 : List Int) : Option (Bool × (List (FrameGoal × Bool)) × (List Int)) :=
  Option.bind (framePlayDone N p1) fun r4 =>
  if r4 then
    some ((decide (left1 = 0), m1, l1))
  else
    Option.bind (
      if decide (left1 < 0) then
        some true
      else
        Option.bind (mgt m1 (FrameGoal.mk p1.fAt left1) false) fun (v6, is4) =>
        some v6
    ) fun v5 =>
    if v5 then
      some (false, m1, l1)
    else
      loopN (fun rec3 x => frameShows1_b2 N rec1 p1 left1 rec3 x.1 x.2.1 x.2.2.1 x.2.2.2) N ((w64 (p1.fAt.fStanding + 1), 0, m1, l1))

def frameShows1 (N : Nat) (p1 : FramePlay) (left1 : Int) (m1 : List (FrameGoal × Bool)) (l1 : List Int) : Option (Bool × (List (FrameGoal × Bool)) × (List Int)) :=
  loopN (fun rr x => frameShows1_f N rr x.1 x.2.1 x.2.2.1 x.2.2.2) N (p1, left1, m1, l1)

def slicesClone0 (N : Nat)  : Option ((List Int)) :=
  some ([])

def slicesClone1 (N : Nat) (s1 : List Int) : Option ((List Int)) :=
  Option.bind (app N ([]) s1) fun l2 =>
  some l2

def slicesClone (N : Nat) (l : List Int) : Option ((List Int)) := slicesClone1 N l

def frameShows (N : Nat) (l1 : FrameLaw) (balls1 : List Int) (final1 : Int) : Option ((List Int) × Int) :=
  Option.bind (frameLawCheck N l1 balls1) fun r4 =>
  if !decide (r4 = 0) then
    some ([], r4)
  else
    Option.bind (frameLawSpan N l1 balls1) fun r14 =>
    Option.bind (
      Option.bind (frameWithin N final1 r14.fLo r14.fHi) fun r18 =>
      if !r18 then
        some (true, [])
      else
        Option.bind (frameLawBehind N l1 balls1) fun r19 =>
        Option.bind (frameLawTotal N l1 balls1) fun r20 =>
        Option.bind (frameShows1 N r19 (w64 (final1 - r20)) ([]) ([])) fun (ra4, rb4, rc4) =>
        some (!ra4, rc4)
    ) fun (v2, l3) =>
    if v2 then
      some ([], 9)
    else
      Option.bind (slicesClone N l3) fun r22 =>
      some (r22, 0)

def law01Ints_k1 (N : Nat)   : Option (Bool) :=
  some true

def law01Ints_b2 (N : Nat) (a1 : List Int) (b1 : List Int) (rec3 : (Int) → Option (Bool)) (i8 : Int) : Option (Bool) :=
  if decide (i8 < (a1.length : Int)) then
    Option.bind (idx a1 i8) fun x47 =>
    Option.bind (idx b1 i8) fun x48 =>
    if !decide (x47 = x48) then
      some false
    else
      rec3 (w64 (i8 + 1))
  else
    law01Ints_k1 N

def law01Ints (N : Nat) (a1 : List Int) (b1 : List Int) : Option (Bool) :=
  if !decide ((a1.length : Int) = (b1.length : Int)) then
    some false
  else
    loopN (fun rec3 x => law01Ints_b2 N a1 b1 rec3 x) N 0

def law01Wakes (N : Nat)  : Option (Bool) :=
  Option.bind (law01Ten N) fun r3 =>
  Option.bind (law01Evening N) fun r4 =>
  Option.bind (frameRead N r3 r4) fun (ra2, rb2) =>
  Option.bind (law01Ten N) fun r6 =>
  Option.bind (frameBad N r6 ([7, 4])) fun (ra4, rb4) =>
  Option.bind (law01Ten N) fun r9 =>
  Option.bind (law01Evening N) fun r10 =>
  Option.bind (frameSpan N r9 r10) fun (ra6, rb6) =>
  Option.bind (law01Ten N) fun r13 =>
  Option.bind (law01Many N 10 10 ([9])) fun r14 =>
  Option.bind (frameShows N r13 r14 289) fun (ra8, rb8) =>
  Option.bind (
    if decide (rb2 = 0) then
      Option.bind (law01Ints N ra2.fCounts ([20, 39, 48])) fun r17 =>
      if r17 then
        if decide (ra2.fStanding = 6) then
          if !ra2.fDone then
            if decide (rb4 = 0) then
              if decide (ra4 = 1) then
                if decide (rb6 = 0) then
                  if decide (ra6 = (FrameRange.mk 52 248)) then
                    if decide (rb8 = 0) then
                      Option.bind (law01Ints N ra8 ([1])) fun r18 =>
                      some r18
                    else
                      some false
                  else
                    some false
                else
                  some false
              else
                some false
            else
              some false
          else
            some false
        else
          some false
      else
        some false
    else
      some false
  ) fun v1 =>
  some v1

def law01Law (N : Nat) (l1 : Ref01Law) : Option (FrameLaw) :=
  some (FrameLaw.mk l1.fFrames l1.fPins l1.fBalls l1.fTap)

def law01List (N : Nat) (l1 : List Int) : Option ((List Int)) :=
  Option.bind (app N ([]) l1) fun l3 =>
  some l3

def ref01In (N : Nat) (n1 : Int) (low1 : Int) (high1 : Int) : Option (Bool) :=
  Option.bind (
    if decide (low1 ≤ n1) then
      some (decide (n1 ≤ high1))
    else
      some false
  ) fun v1 =>
  some v1

def ref01IsLaw (N : Nat) (l1 : Ref01Law) : Option (Bool) :=
  Option.bind (
    Option.bind (ref01In N l1.fFrames 1 10) fun r5 =>
    if r5 then
      Option.bind (ref01In N l1.fPins 1 10) fun r6 =>
      if r6 then
        Option.bind (ref01In N l1.fBalls 2 3) fun r7 =>
        if r7 then
          Option.bind (ref01In N l1.fTap 1 l1.fPins) fun r8 =>
          some r8
        else
          some false
      else
        some false
    else
      some false
  ) fun v1 =>
  some v1

def ref01Begin (N : Nat) (l1 : Ref01Law) : Option (Ref01Stand) :=
  some (Ref01Stand.mk 0 0 l1.fPins true l1.fBalls)

def ref01Fits (N : Nat) (l1 : Ref01Law) (s1 : Ref01Stand) (ball1 : Int) : Option (Bool) :=
  Option.bind (
    if decide (s1.fFrame < l1.fFrames) then
      Option.bind (ref01In N ball1 (-1) s1.fStanding) fun r2 =>
      some r2
    else
      some false
  ) fun v1 =>
  some v1

def ref01Throw (N : Nat) (a1 : Ref01Law) (a2 : Ref01Stand) (a3 : Int) : Option (Ref01Stand × Int) :=
  Option.bind (
    if decide (a3 < 0) then
      some 0
    else
      some a3
  ) fun v1 =>
  Option.bind (
    Option.bind (
      if a2.fSet then
        some (decide (a1.fTap ≤ v1))
      else
        some false
    ) fun v4 =>
    if v4 then
      some a1.fPins
    else
      some v1
  ) fun v3 =>
  if decide (a2.fFrame < (w64 (a1.fFrames - 1))) then
    Option.bind (
      Option.bind (
        if decide ((w64 (a2.fStanding - v3)) = 0) then
          some ((true, (Ref01Stand.mk a2.fFrame (w64 (a2.fThrown + 1)) (w64 (a2.fStanding - v3)) false a2.fHas)))
        else
          some ((decide ((w64 (a2.fThrown + 1)) = a1.fBalls), (Ref01Stand.mk a2.fFrame (w64 (a2.fThrown + 1)) (w64 (a2.fStanding - v3)) false a2.fHas)))
      ) fun (v8, c6) =>
      if v8 then
        some ((Ref01Stand.mk (w64 (a2.fFrame + 1)) 0 a1.fPins true a1.fBalls))
      else
        some c6
    ) fun c5 =>
    some (c5, v3)
  else
    Option.bind (
      Option.bind (
        if decide ((w64 (a2.fStanding - v3)) = 0) then
          some ((decide ((w64 (a2.fThrown + 1)) < 3), (Ref01Stand.mk a2.fFrame (w64 (a2.fThrown + 1)) (w64 (a2.fStanding - v3)) false a2.fHas)))
        else
          some ((false, (Ref01Stand.mk a2.fFrame (w64 (a2.fThrown + 1)) (w64 (a2.fStanding - v3)) false a2.fHas)))
      ) fun (v10, c9) =>
      if v10 then
        some (Ref01Stand.mk c9.fFrame c9.fThrown c9.fStanding c9.fSet 3)
      else
        some c9
    ) fun c8 =>
    if decide (c8.fThrown = c8.fHas) then
      some (((Ref01Stand.mk a1.fFrames 0 a1.fPins true a1.fBalls), v3))
    else
      Option.bind (
        if decide (c8.fStanding = 0) then
          some (Ref01Stand.mk c8.fFrame c8.fThrown a1.fPins true c8.fHas)
        else
          some c8
      ) fun c10 =>
      some (c10, v3)

def ref01Play_b1 (N : Nat) (l1 : Ref01Law) (sheet1 : List Int) (rec3 : (Int × Ref01Stand × (List Ref01Ball)) → Option (Ref01Stand × (List Ref01Ball))) (i8 : Int) (s9 : Ref01Stand) (l30 : List Ref01Ball) : Option (Ref01Stand × (List Ref01Ball)) :=
  Option.bind (
    if decide (i8 < (sheet1.length : Int)) then
      Option.bind (idx sheet1 i8) fun x44 =>
      Option.bind (ref01Fits N l1 s9 x44) fun r26 =>
      some r26
    else
      some false
  ) fun v12 =>
  if v12 then
    Option.bind (
      Option.bind (idx sheet1 i8) fun x48 =>
      Option.bind (ref01Throw N l1 s9 x48) fun (ra24, rb24) =>
      some (rb24, ra24)
    ) fun (n14, next12) =>
    Option.bind (app N l30 ([(Ref01Ball.mk s9.fFrame n14)])) fun l34 =>
    rec3 ((w64 (i8 + 1), next12, l34))
  else
    some (s9, l30)

def ref01Play (N : Nat) (l1 : Ref01Law) (sheet1 : List Int) : Option (Ref01Stand × (List Ref01Ball)) :=
  Option.bind (ref01Begin N l1) fun r2 =>
  Option.bind (
    loopN (fun rec3 x => ref01Play_b1 N l1 sheet1 rec3 x.1 x.2.1 x.2.2) N (0, r2, [])
  ) fun (s5, l18) =>
  some (s5, l18)

def ref01Is (N : Nat) (l1 : Ref01Law) (sheet1 : List Int) : Option (Bool) :=
  Option.bind (ref01Play N l1 sheet1) fun (ra2, rb2) =>
  some (decide ((rb2.length : Int) = (sheet1.length : Int)))

def law01Fault (N : Nat) (l1 : Ref01Law) (sheet1 : List Int) : Option (Int) :=
  Option.bind (ref01IsLaw N l1) fun r6 =>
  if !r6 then
    some 1
  else
    if decide (40 < (sheet1.length : Int)) then
      some 3
    else
      Option.bind (ref01Is N l1 sheet1) fun r8 =>
      if !r8 then
        some 10
      else
        some 0

def law01Same_k1 (N : Nat)   : Option (Bool) :=
  some true

def law01Same_b2 (N : Nat) (a1 : FrameGame) (b1 : Ref01Game) (rec3 : (Int) → Option (Bool)) (i8 : Int) : Option (Bool) :=
  if decide (i8 < (a1.fFrames.length : Int)) then
    Option.bind (idx a1.fFrames i8) fun x47 =>
    Option.bind (idx b1.fFrames i8) fun x48 =>
    Option.bind (law01Ints N x47 x48) fun r28 =>
    if !r28 then
      some false
    else
      rec3 (w64 (i8 + 1))
  else
    law01Same_k1 N

def law01Same (N : Nat) (a1 : FrameGame) (b1 : Ref01Game) : Option (Bool) :=
  Option.bind (
    if !decide ((a1.fFrames.length : Int) = (b1.fFrames.length : Int)) then
      some true
    else
      Option.bind (law01Ints N a1.fCounts b1.fCounts) fun r4 =>
      if !r4 then
        some true
      else
        if !decide (a1.fStanding = b1.fStanding) then
          some true
        else
          some (a1.fDone != b1.fDone)
  ) fun v2 =>
  if v2 then
    some false
  else
    loopN (fun rec3 x => law01Same_b2 N a1 b1 rec3 x) N 0

def ref01Counts_k1 (N : Nat)  (l14 : List Int) : Option ((List Int)) :=
  some l14

def ref01Counts_k2 (N : Nat) (v961 : Int) (rec43 : (Int × Int × (List Int)) → Option ((List Int))) (v1056 : Int) (l26 : List Int) : Option ((List Int)) :=
  rec43 ((v1056, w64 (v961 + 1), l26))

def ref01Counts_b3 (N : Nat) (rb2 : List Ref01Ball) (v961 : Int) (rec49 : (Int × Int × Int × Int) → Option (Int × Int × Int)) (v1119 : Int) (v1120 : Int) (v1121 : Int) (v1122 : Int) : Option (Int × Int × Int) :=
  if decide (v1122 < (rb2.length : Int)) then
    Option.bind (
      Option.bind (idx rb2 v1122) fun x516 =>
      if decide (x516.fFrame = v961) then
        some ((w64 (v1119 + x516.fCount), w64 (v1120 + 1), v1122))
      else
        some (v1119, v1120, v1121)
    ) fun (v1123, v1124, v1125) =>
    rec49 ((v1123, v1124, v1125, w64 (v1122 + 1)))
  else
    some (v1119, v1120, v1121)

def ref01Counts_b4 (N : Nat) (rb2 : List Ref01Ball) (v1092 : Int) (v1130 : Int) (rec51 : (Int × Int) → Option (Int)) (v1149 : Int) (v1150 : Int) : Option (Int) :=
  if decide (v1150 ≤ (w64 (v1092 + v1130))) then
    Option.bind (idx rb2 v1150) fun x528 =>
    rec51 ((w64 (v1149 + x528.fCount), w64 (v1150 + 1)))
  else
    some v1149

def ref01Counts_b5 (N : Nat) (a1 : Ref01Law) (ra2 : Ref01Stand) (rb2 : List Ref01Ball) (rec43 : (Int × Int × (List Int)) → Option ((List Int))) (v960 : Int) (v961 : Int) (l24 : List Int) : Option ((List Int)) :=
  if decide (v961 < ra2.fFrame) then
    Option.bind (
      loopN (fun rec49 x => ref01Counts_b3 N rb2 v961 rec49 x.1 x.2.1 x.2.2.1 x.2.2.2) N (0, 0, 0, 0)
    ) fun (v1090, v1091, v1092) =>
    Option.bind (
      Option.bind (
        if decide (v961 < (w64 (a1.fFrames - 1))) then
          if decide (v1090 = a1.fPins) then
            some (decide (v1091 = 1))
          else
            some false
        else
          some false
      ) fun v1128 =>
      if v1128 then
        some 2
      else
        some 0
    ) fun v1127 =>
    Option.bind (
      Option.bind (
        if decide (v961 < (w64 (a1.fFrames - 1))) then
          if decide (v1090 = a1.fPins) then
            some (decide (v1091 = 2))
          else
            some false
        else
          some false
      ) fun v1131 =>
      if v1131 then
        some 1
      else
        some v1127
    ) fun v1130 =>
    if decide ((rb2.length : Int) ≤ (w64 (v1092 + v1130))) then
      some l24
    else
      Option.bind (
        loopN (fun rec51 x => ref01Counts_b4 N rb2 v1092 v1130 rec51 x.1 x.2) N ((v1090, w64 (v1092 + 1)))
      ) fun v1141 =>
      Option.bind (app N l24 ([w64 (v960 + v1141)])) fun l27 =>
      ref01Counts_k2 N v961 rec43 (w64 (v960 + v1141)) l27
  else
    ref01Counts_k1 N l24

def ref01Counts (N : Nat) (a1 : Ref01Law) (a2 : List Int) : Option ((List Int)) :=
  Option.bind (ref01Play N a1 a2) fun (ra2, rb2) =>
  loopN (fun rec43 x => ref01Counts_b5 N a1 ra2 rb2 rec43 x.1 x.2.1 x.2.2) N (0, 0, [])

def ref01Read_b1 (N : Nat) (a2 : List Int) (rb2 : List Ref01Ball) (rec3 : (Int × (List (List Int))) → Option ((List (List Int)))) (v8 : Int) (l46 : List (List Int)) : Option ((List (List Int))) :=
  if decide (v8 < (rb2.length : Int)) then
    Option.bind (
      Option.bind (
        Option.bind (idx rb2 v8) fun x81 =>
        if decide ((l46.length : Int) ≤ x81.fFrame) then
          Option.bind (app N l46 [[]]) fun l54 =>
          some l54
        else
          some l46
      ) fun l53 =>
      Option.bind (idx rb2 v8) fun x82 =>
      Option.bind (idx l53 x82.fFrame) fun x83 =>
      Option.bind (idx a2 v8) fun x84 =>
      Option.bind (app N x83 ([x84])) fun l55 =>
      some ((List.set l53 (Int.toNat x82.fFrame) l55))
    ) fun l51 =>
    rec3 ((w64 (v8 + 1), l51))
  else
    some l46

def ref01Read (N : Nat) (a1 : Ref01Law) (a2 : List Int) : Option (Ref01Game) :=
  Option.bind (ref01Play N a1 a2) fun (ra2, rb2) =>
  Option.bind (
    Option.bind (ref01Counts N a1 a2) fun r2 =>
    some ((r2, decide (ra2.fFrame = a1.fFrames)))
  ) fun (c1, c2) =>
  Option.bind (
    loopN (fun rec3 x => ref01Read_b1 N a2 rb2 rec3 x.1 x.2) N (0, [])
  ) fun l28 =>
  Option.bind (
    if !c2 then
      some ra2.fStanding
    else
      some 0
  ) fun c3 =>
  some (Ref01Game.mk l28 c1 c3 c2)

def ref01Tail_b1 (N : Nat) (rb2 : List Ref01Ball) (v748 : Int) (rec27 : (Int × Int × Int × Int) → Option (Int × Int × Int)) (v886 : Int) (v887 : Int) (v888 : Int) (v889 : Int) : Option (Int × Int × Int) :=
  if decide (v889 < (rb2.length : Int)) then
    Option.bind (
      Option.bind (idx rb2 v889) fun x384 =>
      if decide (x384.fFrame = v748) then
        some ((w64 (v886 + x384.fCount), w64 (v887 + 1), v889))
      else
        some (v886, v887, v888)
    ) fun (v890, v891, v892) =>
    rec27 ((v890, v891, v892, w64 (v889 + 1)))
  else
    some (v886, v887, v888)

def ref01Tail_b2 (N : Nat) (a1 : Ref01Law) (ra2 : Ref01Stand) (rb2 : List Ref01Ball) (rec23 : (Int × Ref01Tail) → Option (Ref01Tail)) (v748 : Int) (c24 : Ref01Tail) : Option (Ref01Tail) :=
  Option.bind (
    if decide (v748 < ra2.fFrame) then
      some (decide (v748 < (w64 (a1.fFrames - 1))))
    else
      some false
  ) fun v750 =>
  if v750 then
    Option.bind (
      Option.bind (
        loopN (fun rec27 x => ref01Tail_b1 N rb2 v748 rec27 x.1 x.2.1 x.2.2.1 x.2.2.2) N (0, 0, 0, 0)
      ) fun (v857, v858, v859) =>
      Option.bind (
        Option.bind (
          if decide (v857 = a1.fPins) then
            some (decide (v858 < 3))
          else
            some false
        ) fun v895 =>
        if v895 then
          some (w64 (3 - v858))
        else
          some 0
      ) fun v894 =>
      Option.bind (
        if decide (1 ≤ (w64 ((w64 ((w64 (v859 + 1)) + v894)) - (rb2.length : Int)))) then
          some ((w64 ((w64 ((w64 (v859 + 1)) + v894)) - (rb2.length : Int)), (Ref01Tail.mk c24.fStand (w64 (c24.fOne + 1)) c24.fTwo)))
        else
          some ((w64 ((w64 ((w64 (v859 + 1)) + v894)) - (rb2.length : Int)), c24))
      ) fun (v896, c27) =>
      if decide (2 ≤ v896) then
        some ((Ref01Tail.mk c27.fStand c27.fOne (w64 (c27.fTwo + 1))))
      else
        some c27
    ) fun c26 =>
    rec23 ((w64 (v748 + 1), c26))
  else
    some c24

def ref01Tail (N : Nat) (a1 : Ref01Law) (a2 : List Int) : Option (Ref01Tail) :=
  Option.bind (ref01Play N a1 a2) fun (ra2, rb2) =>
  Option.bind (
    loopN (fun rec23 x => ref01Tail_b2 N a1 ra2 rb2 rec23 x.1 x.2) N ((0, (Ref01Tail.mk ra2 0 0)))
  ) fun c14 =>
  some c14

def ref01Sum_b1 (N : Nat) (l1 : Ref01Law) (sheet1 : List Int) (rec3 : (Int × Int) → Option (Int)) (n10 : Int) (i8 : Int) : Option (Int) :=
  if decide (i8 < (sheet1.length : Int)) then
    Option.bind (
      Option.bind (slc sheet1 0 i8) fun l25 =>
      Option.bind (ref01Tail N l1 l25) fun r24 =>
      some r24
    ) fun t12 =>
    Option.bind (
      Option.bind (idx sheet1 i8) fun x24 =>
      Option.bind (ref01Throw N l1 t12.fStand x24) fun (ra24, rb24) =>
      some rb24
    ) fun own12 =>
    rec3 ((w64 (n10 + (w64 (own12 * (w64 (1 + t12.fOne))))), w64 (i8 + 1)))
  else
    some n10

def ref01Sum (N : Nat) (l1 : Ref01Law) (sheet1 : List Int) : Option (Int) :=
  Option.bind (
    loopN (fun rec3 x => ref01Sum_b1 N l1 sheet1 rec3 x.1 x.2) N (0, 0)
  ) fun n6 =>
  some n6

def ref01ThrowX (N : Nat) (l1 : Ref01Law) (t1 : Ref01Tail) (ball1 : Int) : Option (Ref01Tail × Int) :=
  Option.bind (ref01Throw N l1 t1.fStand ball1) fun (ra2, rb2) =>
  Option.bind (
    Option.bind (
      if decide (t1.fStand.fFrame < (w64 (l1.fFrames - 1))) then
        some ((w64 (rb2 * (w64 (1 + t1.fOne))), decide (t1.fStand.fStanding = rb2)))
      else
        some ((w64 (rb2 * (w64 (1 + t1.fOne))), false))
    ) fun (worth3, v2) =>
    if v2 then
      Option.bind (
        if decide (t1.fStand.fThrown = 0) then
          some ((Ref01Tail.mk ra2 (w64 (t1.fTwo + 1)) 1))
        else
          some (Ref01Tail.mk ra2 t1.fTwo 0)
      ) fun out3 =>
      if decide (t1.fStand.fThrown = 1) then
        some ((worth3, (Ref01Tail.mk out3.fStand (w64 (out3.fOne + 1)) out3.fTwo)))
      else
        some (worth3, out3)
    else
      some ((worth3, (Ref01Tail.mk ra2 t1.fTwo 0)))
  ) fun (worth2, out2) =>
  some (out2, worth2)

def ref01Rest_k1 (N : Nat) (l1178 : List Bool) (rec159 : ((List Bool)) → Option ((List Bool)))  : Option ((List Bool)) :=
  Option.bind (app N l1178 ([false])) fun l1179 =>
  rec159 l1179

def ref01Rest_b2 (N : Nat) (rb46 : Int) (v60 : Int) (rec159 : ((List Bool)) → Option ((List Bool))) (l1178 : List Bool) : Option ((List Bool)) :=
  if decide ((l1178.length : Int) ≤ (w64 (rb46 + v60))) then
    ref01Rest_k1 N l1178 rec159
  else
    some l1178

def ref01Rest_b3 (N : Nat) (rb46 : Int) (ra48 : List Bool) (rb48 : List (Ref01Tail × List Bool)) (rec155 : (Int × (List Bool)) → Option ((List (Ref01Tail × List Bool)) × (List Bool))) (v60 : Int) (l1148 : List Bool) : Option ((List (Ref01Tail × List Bool)) × (List Bool)) :=
  if decide (v60 < (ra48.length : Int)) then
    Option.bind (
      Option.bind (
        loopN (fun rec159 x => ref01Rest_b2 N rb46 v60 rec159 x) N l1148
      ) fun l1172 =>
      Option.bind (idx l1172 (w64 (rb46 + v60))) fun x143 =>
      if x143 then
        some ((List.set l1172 (Int.toNat (w64 (rb46 + v60))) true))
      else
        Option.bind (idx ra48 v60) fun x144 =>
        some ((List.set l1172 (Int.toNat (w64 (rb46 + v60))) x144))
    ) fun l1164 =>
    rec155 ((w64 (v60 + 1), l1164))
  else
    some (rb48, l1148)

def ref01Rest_b4 (N : Nat) (rec1 : (Ref01Law × Ref01Tail × (List (Ref01Tail × List Bool))) → Option ((List Bool) × (List (Ref01Tail × List Bool)))) (a1 : Ref01Law) (a2 : Ref01Tail) (rec133 : (Int × (List (Ref01Tail × List Bool)) × (List Bool)) → Option ((List (Ref01Tail × List Bool)) × (List Bool))) (v52 : Int) (m15 : List (Ref01Tail × List Bool)) (l984 : List Bool) : Option ((List (Ref01Tail × List Bool)) × (List Bool)) :=
  if decide (v52 ≤ a2.fStand.fStanding) then
    Option.bind (
      Option.bind (ref01ThrowX N a1 a2 v52) fun (ra46, rb46) =>
      Option.bind (rec1 (a1, ra46, m15)) fun (ra48, rb48) =>
      loopN (fun rec155 x => ref01Rest_b3 N rb46 ra48 rb48 rec155 x.1 x.2) N (0, l984)
    ) fun (m16, l1082) =>
    rec133 ((w64 (v52 + 1), m16, l1082))
  else
    some (m15, l984)

def ref01Rest_f (N : Nat) (rec1 : (Ref01Law × Ref01Tail × (List (Ref01Tail × List Bool))) → Option ((List Bool) × (List (Ref01Tail × List Bool)))) (a1 : Ref01Law) (a2 : Ref01Tail) (m1 : List (Ref01Tail × List Bool)) : Option ((List Bool) × (List (Ref01Tail × List Bool))) :=
  if decide (a2.fStand.fFrame = a1.fFrames) then
    some ([true], m1)
  else
    Option.bind (mgt m1 a2 ([])) fun (v4, is4) =>
    if is4 then
      some (v4, m1)
    else
      Option.bind (
        loopN (fun rec133 x => ref01Rest_b4 N rec1 a1 a2 rec133 x.1 x.2.1 x.2.2) N (0, m1, [])
      ) fun (m9, l590) =>
      some ((l590, (mput m9 a2 l590)))

def ref01Rest (N : Nat) (a1 : Ref01Law) (a2 : Ref01Tail) (m1 : List (Ref01Tail × List Bool)) : Option ((List Bool) × (List (Ref01Tail × List Bool))) :=
  loopN (fun rr x => ref01Rest_f N rr x.1 x.2.1 x.2.2) N (a1, a2, m1)

def ref01Finals_b1 (N : Nat) (n1 : Int) (rest1 : List Bool) (rec3 : (Int × (List Int)) → Option ((List Int))) (k8 : Int) (l25 : List Int) : Option ((List Int)) :=
  if decide (k8 < (rest1.length : Int)) then
    Option.bind (
      Option.bind (idx rest1 k8) fun x24 =>
      if x24 then
        Option.bind (app N l25 ([w64 (n1 + k8)])) fun l28 =>
        some l28
      else
        some l25
    ) fun l27 =>
    rec3 ((w64 (k8 + 1), l27))
  else
    some l25

def ref01Finals (N : Nat) (l1 : Ref01Law) (sheet1 : List Int) : Option ((List Int)) :=
  Option.bind (
    Option.bind (ref01Sum N l1 sheet1) fun r3 =>
    Option.bind (ref01Tail N l1 sheet1) fun r4 =>
    Option.bind (ref01Rest N l1 r4 ([])) fun (ra2, rb2) =>
    some (r3, ra2)
  ) fun (n1, rest1) =>
  Option.bind (
    loopN (fun rec3 x => ref01Finals_b1 N n1 rest1 rec3 x.1 x.2) N (0, [])
  ) fun l15 =>
  some l15

def ref01Span (N : Nat) (l1 : Ref01Law) (sheet1 : List Int) : Option (Ref01Range) :=
  Option.bind (ref01Finals N l1 sheet1) fun r2 =>
  Option.bind (idx r2 0) fun x3 =>
  Option.bind (idx r2 (w64 ((r2.length : Int) - 1))) fun x4 =>
  some (Ref01Range.mk x3 x4)

def ref01Final (N : Nat) (l1 : Ref01Law) (sheet1 : List Int) : Option (Int) :=
  Option.bind (ref01Play N l1 sheet1) fun (ra4, rb4) =>
  Option.bind (
    if decide (ra4.fFrame < l1.fFrames) then
      some true
    else
      some (decide ((rb4.length : Int) < (sheet1.length : Int)))
  ) fun v2 =>
  if v2 then
    some (-1)
  else
    Option.bind (ref01Counts N l1 sheet1) fun r2 =>
    Option.bind (idx r2 (w64 (l1.fFrames - 1))) fun x2 =>
    some x2

def law01Ready (N : Nat) (l1 : Ref01Law) (sheet1 : List Int) : Option (Bool) :=
  Option.bind (
    Option.bind (ref01IsLaw N l1) fun r3 =>
    if r3 then
      if decide ((sheet1.length : Int) ≤ 40) then
        Option.bind (ref01Is N l1 sheet1) fun r4 =>
        some r4
      else
        some false
    else
      some false
  ) fun v1 =>
  some v1

def law01Ended_b1 (N : Nat) (l1 : Ref01Law) (words1 : List Int) (rec3 : (Int × (List Int) × Ref01Stand) → Option ((List Int))) (k8 : Int) (l30 : List Int) (s8 : Ref01Stand) : Option ((List Int)) :=
  Option.bind (
    if decide (k8 < 40) then
      some (decide (s8.fFrame < l1.fFrames))
    else
      some false
  ) fun v16 =>
  if v16 then
    Option.bind (
      if decide (0 < (words1.length : Int)) then
        Option.bind (nz (words1.length : Int)) fun _ =>
        Option.bind (idx words1 (Int.tmod k8 (words1.length : Int))) fun x24 =>
        some (w64 x24)
      else
        some 0
    ) fun w12 =>
    Option.bind (nz (w64 (s8.fStanding + 1))) fun _ =>
    Option.bind (app N l30 ([Int.tmod w12 (w64 (s8.fStanding + 1))])) fun l34 =>
    Option.bind (ref01Throw N l1 s8 (Int.tmod w12 (w64 (s8.fStanding + 1)))) fun (ra14, rb14) =>
    rec3 ((w64 (k8 + 1), l34, ra14))
  else
    some l30

def law01Ended (N : Nat) (l1 : Ref01Law) (sheet1 : List Int) (words1 : List Int) : Option ((List Int)) :=
  Option.bind (law01List N sheet1) fun r2 =>
  Option.bind (ref01Play N l1 sheet1) fun (ra2, rb2) =>
  Option.bind (
    loopN (fun rec3 x => law01Ended_b1 N l1 words1 rec3 x.1 x.2.1 x.2.2) N (0, r2, ra2)
  ) fun l18 =>
  some l18

def frameAhead1 (N : Nat) (sheet1 : List Int) : Option (Bool) :=
  some (decide ((sheet1.length : Int) ≤ 40))

def frameAll1 (N : Nat) (x1 : List Int) : Option (Bool) :=
  Option.bind (frameAhead1 N x1) fun r2 =>
  some (!r2)

def slicesIndexFunc_k1 (N : Nat)   : Option (Int) :=
  some (-1)

def slicesIndexFunc_b2 (N : Nat) (s1 : List (List Int)) (rec3 : (Int × Int) → Option (Int)) (v17 : Int) (v18 : Int) : Option (Int) :=
  if decide (v18 < v17) then
    Option.bind (idx s1 v18) fun x24 =>
    Option.bind (frameAll1 N x24) fun r24 =>
    if r24 then
      some v18
    else
      rec3 ((v17, w64 (v18 + 1)))
  else
    slicesIndexFunc_k1 N

def slicesIndexFunc (N : Nat) (s1 : List (List Int)) : Option (Int) :=
  loopN (fun rec3 x => slicesIndexFunc_b2 N s1 rec3 x.1 x.2) N (((s1.length : Int), 0))

def slicesContainsFunc (N : Nat) (s1 : List (List Int)) : Option (Bool) :=
  Option.bind (slicesIndexFunc N s1) fun r2 =>
  some (decide (0 ≤ r2))

def frameAll (N : Nat) (l1 : List (List Int)) : Option (Bool) :=
  Option.bind (slicesContainsFunc N l1) fun r2 =>
  some (!r2)

def frameAhead2 (N : Nat) (sheet1 : List Int) (a1 : FrameLaw) : Option (Bool) :=
  Option.bind (frameLawCheck N a1 sheet1) fun r2 =>
  some (decide (r2 = 0))

def frameAll1X (N : Nat) (x1 : List Int) (a1 : FrameLaw) : Option (Bool) :=
  Option.bind (frameAhead2 N x1 a1) fun r2 =>
  some (!r2)

def slicesIndexFuncX_k1 (N : Nat)   : Option (Int) :=
  some (-1)

def slicesIndexFuncX_b2 (N : Nat) (s1 : List (List Int)) (f1 : FrameLaw) (rec3 : (Int × Int) → Option (Int)) (v17 : Int) (v18 : Int) : Option (Int) :=
  if decide (v18 < v17) then
    Option.bind (idx s1 v18) fun x24 =>
    Option.bind (frameAll1X N x24 f1) fun r24 =>
    if r24 then
      some v18
    else
      rec3 ((v17, w64 (v18 + 1)))
  else
    slicesIndexFuncX_k1 N

def slicesIndexFuncX (N : Nat) (s1 : List (List Int)) (f1 : FrameLaw) : Option (Int) :=
  loopN (fun rec3 x => slicesIndexFuncX_b2 N s1 f1 rec3 x.1 x.2) N (((s1.length : Int), 0))

def slicesContainsFuncX (N : Nat) (s1 : List (List Int)) (f1 : FrameLaw) : Option (Bool) :=
  Option.bind (slicesIndexFuncX N s1 f1) fun r2 =>
  some (decide (0 ≤ r2))

def frameAllX (N : Nat) (l1 : List (List Int)) (right1 : FrameLaw) : Option (Bool) :=
  Option.bind (slicesContainsFuncX N l1 right1) fun r2 =>
  some (!r2)

def frameAhead_b1 (N : Nat) (a1 : FrameLaw) (a2 : List (List Int)) (rec3 : (Int × Int × (List FrameRange)) → Option ((List FrameRange))) (v19 : Int) (v20 : Int) (l19 : List FrameRange) : Option ((List FrameRange)) :=
  if decide (v20 < v19) then
    Option.bind (idx a2 v20) fun x24 =>
    Option.bind (frameLawSpan N a1 x24) fun r24 =>
    Option.bind (app N l19 ([r24])) fun l21 =>
    rec3 ((v19, w64 (v20 + 1), l21))
  else
    some l19

def frameAhead_k2 (N : Nat) (v460 : Int) (l78 : List Int) (l79 : List Int) (v519 : Bool) : Option ((List Int) × (List Int)) :=
  Option.bind (app N l78 ([v460])) fun l86 =>
  if v519 then
    Option.bind (app N l79 ([v460])) fun l87 =>
    some (l86, l87)
  else
    some (l86, l79)

def frameAhead_k3 (N : Nat) (v536 : Int) (v537 : Int) (rec29 : (Bool × Int × Int) → Option ((List Int) × (List Int))) (v538 : Bool) : Option ((List Int) × (List Int)) :=
  rec29 ((v538, v536, w64 (v537 + 1)))

def frameAhead_b4 (N : Nat) (l11 : List FrameRange) (v460 : Int) (l78 : List Int) (l79 : List Int) (x344 : FrameRange) (rec29 : (Bool × Int × Int) → Option ((List Int) × (List Int))) (v535 : Bool) (v536 : Int) (v537 : Int) : Option ((List Int) × (List Int)) :=
  if decide (v537 < v536) then
    Option.bind (idx l11 v537) fun x368 =>
    if decide (x344.fHi < x368.fLo) then
      some (l78, l79)
    else
      if v535 then
        if decide (v537 = v460) then
          frameAhead_k3 N v536 v537 rec29 true
        else
          frameAhead_k3 N v536 v537 rec29 (decide (x368.fHi < x344.fLo))
      else
        frameAhead_k3 N v536 v537 rec29 false
  else
    frameAhead_k2 N v460 l78 l79 v535

def frameAhead_b5 (N : Nat) (l11 : List FrameRange) (rec25 : (Int × Int × (List Int) × (List Int)) → Option ((List Int) × (List Int))) (v459 : Int) (v460 : Int) (l78 : List Int) (l79 : List Int) : Option ((List Int) × (List Int)) :=
  if decide (v460 < v459) then
    Option.bind (
      Option.bind (idx l11 v460) fun x344 =>
      loopN (fun rec29 x => frameAhead_b4 N l11 v460 l78 l79 x344 rec29 x.1 x.2.1 x.2.2) N ((true, (l11.length : Int), 0))
    ) fun (l83, l84) =>
    rec25 ((v459, w64 (v460 + 1), l83, l84))
  else
    some (l78, l79)

def frameAhead (N : Nat) (a1 : FrameLaw) (a2 : List (List Int)) : Option ((List Int) × (List Int) × Int) :=
  Option.bind (frameCheckLaw N a1) fun r4 =>
  if !decide (r4 = 0) then
    some ([], [], r4)
  else
    Option.bind (
      if decide (6 < (a2.length : Int)) then
        some true
      else
        Option.bind (frameAll N a2) fun r10 =>
        some (!r10)
    ) fun v2 =>
    if v2 then
      some ([], [], 3)
    else
      if decide ((a2.length : Int) = 0) then
        some ([], [], 1)
      else
        Option.bind (frameAllX N a2 a1) fun r12 =>
        if !r12 then
          some ([], [], 10)
        else
          Option.bind (
            loopN (fun rec3 x => frameAhead_b1 N a1 a2 rec3 x.1 x.2.1 x.2.2) N (((a2.length : Int), 0, []))
          ) fun l11 =>
          Option.bind (
            loopN (fun rec25 x => frameAhead_b5 N l11 rec25 x.1 x.2.1 x.2.2.1 x.2.2.2) N (((l11.length : Int), 0, [], []))
          ) fun (l54, l55) =>
          some (l54, l55, 0)
end Go.Proofs.Ythjafigloabfpaa
