/-
  The functions of the program and of the document, typed, by fuel; printed by a program off the translation. No program in sight.
-/
import Derived.Test.YthbifolpofillaaPre
namespace Go.Proofs.Ythbifolpofillaa
open Go.Kp
set_option linter.all false

structure Ref01Law where
  fFrames : Int
  fPins : Int
  fBalls : Int
  fTap : Int
  deriving DecidableEq

structure FrameLaw where
  fFrames : Int
  fPins : Int
  fBalls : Int
  fTap : Int
  deriving DecidableEq

structure FrameRange where
  fLo : Int
  fHi : Int
  deriving DecidableEq

structure FrameAt where
  fFrame : Int
  fThrown : Int
  fStanding : Int
  fFresh : Bool
  fNeed : Int
  fAfter : Ar2 Int
  deriving DecidableEq

structure FramePlay where
  fLaw : FrameLaw
  fAt : FrameAt
  deriving DecidableEq

structure RateLaw where
  fBase : Int
  fPercent : Int
  fCap : Int
  fLeast : Int
  fBlind : Int
  deriving DecidableEq

structure RateSheet where
  fNumber : Int
  fBowler : Int
  fWeek : Int
  fGames : Ar3 Int
  deriving DecidableEq

structure RateBook where
  fLaw : RateLaw
  fBowlers : List Int
  fSheets : List RateSheet
  fWithdrawn : List Int
  deriving DecidableEq

structure RateTurn where
  fBowler : Int
  fWeek : Int
  deriving DecidableEq

structure Ref01Stand where
  fFrame : Int
  fThrown : Int
  fStanding : Int
  fSet : Bool
  fHas : Int
  deriving DecidableEq

structure Ref01Ball where
  fFrame : Int
  fCount : Int
  deriving DecidableEq

structure FrameGame where
  fFrames : List (List Int)
  fCounts : List Int
  fStanding : Int
  fDone : Bool
  deriving DecidableEq

def ref01In (N : Nat) (n1 : Int) (low1 : Int) (high1 : Int) : Option (Bool) :=
  Option.bind (
    if decide (low1 ≤ n1) then
      some (decide (n1 ≤ high1))
    else
      some false
  ) fun v1 =>
  some v1

def ref01IsLaw (N : Nat) (l1 : Ref01Law) : Option (Bool) :=
  Option.bind (
    Option.bind (ref01In N l1.fFrames 1 10) fun r5 =>
    if r5 then
      Option.bind (ref01In N l1.fPins 1 10) fun r6 =>
      if r6 then
        Option.bind (ref01In N l1.fBalls 2 3) fun r7 =>
        if r7 then
          Option.bind (ref01In N l1.fTap 1 l1.fPins) fun r8 =>
          some r8
        else
          some false
      else
        some false
    else
      some false
  ) fun v1 =>
  some v1

def frameWithin (N : Nat) (n1 : Int) (low1 : Int) (high1 : Int) : Option (Bool) :=
  Option.bind (
    if decide (low1 ≤ n1) then
      some (decide (n1 ≤ high1))
    else
      some false
  ) fun v1 =>
  some v1

def frameCheckLaw (N : Nat) (l1 : FrameLaw) : Option (Int) :=
  Option.bind (
    Option.bind (frameWithin N l1.fFrames 1 10) fun r13 =>
    if !r13 then
      some true
    else
      Option.bind (frameWithin N l1.fPins 1 10) fun r14 =>
      if !r14 then
        some true
      else
        Option.bind (frameWithin N l1.fBalls 2 3) fun r15 =>
        if !r15 then
          some true
        else
          Option.bind (frameWithin N l1.fTap 1 l1.fPins) fun r16 =>
          some (!r16)
  ) fun v2 =>
  if v2 then
    some 1
  else
    some 0

def frameLawBalls (N : Nat) (l1 : FrameLaw) (sheet1 : List Int) : Option (FrameLaw × (List Int)) :=
  some (l1, sheet1)

def frameLawBegin (N : Nat) (l1 : FrameLaw) : Option (FramePlay) :=
  some ((FramePlay.mk l1 (FrameAt.mk 0 0 l1.fPins true l1.fBalls (Ar2.mk 0 0))))

def framePlayDone (N : Nat) (p1 : FramePlay) : Option (Bool) :=
  some (decide (p1.fAt.fFrame = p1.fLaw.fFrames))

def framePlayMay (N : Nat) (p1 : FramePlay) (ball1 : Int) : Option (Bool) :=
  Option.bind (
    Option.bind (framePlayDone N p1) fun r3 =>
    if !r3 then
      Option.bind (frameWithin N ball1 (-1) p1.fAt.fStanding) fun r4 =>
      some r4
    else
      some false
  ) fun v1 =>
  some v1

def framePlayNext (N : Nat) (a1 : FramePlay) (a2 : Int) : Option (FramePlay × Int × Int) :=
  Option.bind (
    Option.bind (
      if a1.fAt.fFresh then
        some ((max 0 a2, decide (a1.fLaw.fTap ≤ (max 0 a2))))
      else
        some (max 0 a2, false)
    ) fun (v4, v5) =>
    if v5 then
      some a1.fLaw.fPins
    else
      some v4
  ) fun v3 =>
  Option.bind (
    Option.bind (
      if decide (a1.fAt.fFrame = (w64 (a1.fLaw.fFrames - 1))) then
        if decide ((w64 (a1.fAt.fStanding - v3)) = 0) then
          some ((w64 (v3 * (w64 (1 + a1.fAt.fAfter.a0))), decide ((w64 (a1.fAt.fStanding - v3)) = 0), decide (a1.fAt.fFrame = (w64 (a1.fLaw.fFrames - 1))), decide ((w64 (a1.fAt.fThrown + 1)) < 3), (FramePlay.mk a1.fLaw (FrameAt.mk a1.fAt.fFrame (w64 (a1.fAt.fThrown + 1)) (w64 (a1.fAt.fStanding - v3)) false a1.fAt.fNeed (Ar2.mk a1.fAt.fAfter.a1 0)))))
        else
          some ((w64 (v3 * (w64 (1 + a1.fAt.fAfter.a0))), decide ((w64 (a1.fAt.fStanding - v3)) = 0), decide (a1.fAt.fFrame = (w64 (a1.fLaw.fFrames - 1))), false, (FramePlay.mk a1.fLaw (FrameAt.mk a1.fAt.fFrame (w64 (a1.fAt.fThrown + 1)) (w64 (a1.fAt.fStanding - v3)) false a1.fAt.fNeed (Ar2.mk a1.fAt.fAfter.a1 0)))))
      else
        some ((w64 (v3 * (w64 (1 + a1.fAt.fAfter.a0))), decide ((w64 (a1.fAt.fStanding - v3)) = 0), decide (a1.fAt.fFrame = (w64 (a1.fLaw.fFrames - 1))), false, (FramePlay.mk a1.fLaw (FrameAt.mk a1.fAt.fFrame (w64 (a1.fAt.fThrown + 1)) (w64 (a1.fAt.fStanding - v3)) false a1.fAt.fNeed (Ar2.mk a1.fAt.fAfter.a1 0)))))
    ) fun (v15, v16, v17, v18, c3) =>
    if v18 then
      some ((v15, v16, v17, (FramePlay.mk c3.fLaw (FrameAt.mk c3.fAt.fFrame c3.fAt.fThrown c3.fLaw.fPins true 3 c3.fAt.fAfter))))
    else
      Option.bind (
        if !v17 then
          if v16 then
            some (decide (c3.fAt.fThrown = 1))
          else
            some false
        else
          some false
      ) fun v19 =>
      if v19 then
        some ((v15, v16, v17, (FramePlay.mk c3.fLaw (FrameAt.mk c3.fAt.fFrame c3.fAt.fThrown c3.fAt.fStanding c3.fAt.fFresh c3.fAt.fNeed (Ar2.mk (w64 (c3.fAt.fAfter.a0 + 1)) (w64 (c3.fAt.fAfter.a1 + 1)))))))
      else
        Option.bind (
          if !v17 then
            if v16 then
              some (decide (c3.fAt.fThrown = 2))
            else
              some false
          else
            some false
        ) fun v20 =>
        if v20 then
          some ((v15, v16, v17, (FramePlay.mk c3.fLaw (FrameAt.mk c3.fAt.fFrame c3.fAt.fThrown c3.fAt.fStanding c3.fAt.fFresh c3.fAt.fNeed (Ar2.mk (w64 (c3.fAt.fAfter.a0 + 1)) c3.fAt.fAfter.a1)))))
        else
          some (v15, v16, v17, c3)
  ) fun (v12, v13, v14, c2) =>
  Option.bind (
    Option.bind (
      if decide (c2.fAt.fThrown = c2.fAt.fNeed) then
        some true
      else
        if !v14 then
          some v13
        else
          some false
    ) fun v22 =>
    if v22 then
      some ((FramePlay.mk c2.fLaw (FrameAt.mk (w64 (c2.fAt.fFrame + 1)) 0 c2.fLaw.fPins true c2.fLaw.fBalls c2.fAt.fAfter)))
    else
      some c2
  ) fun c4 =>
  some (c4, v3, v12)

def frameLawBad_b1 (N : Nat) (rb16 : List Int) (rec3 : (Int × Int × FramePlay × Int) → Option (Int)) (v17 : Int) (v18 : Int) (c16 : FramePlay) (c17 : Int) : Option (Int) :=
  if decide (v18 < v17) then
    Option.bind (idx rb16 v18) fun x24 =>
    Option.bind (framePlayMay N c16 x24) fun r52 =>
    if !r52 then
      some c17
    else
      Option.bind (framePlayNext N c16 x24) fun (ra28, rb28, rc26) =>
      rec3 ((v17, w64 (v18 + 1), ra28, w64 (v18 + 1)))
  else
    some c17

def frameLawBad (N : Nat) (l1 : FrameLaw) (sheet1 : List Int) : Option (Int) :=
  Option.bind (
    Option.bind (frameLawBalls N l1 sheet1) fun (ra16, rb16) =>
    Option.bind (frameLawBegin N ra16) fun r28 =>
    loopN (fun rec3 x => frameLawBad_b1 N rb16 rec3 x.1 x.2.1 x.2.2.1 x.2.2.2) N (((rb16.length : Int), 0, r28, 0))
  ) fun c9 =>
  some c9

def frameLawCheck (N : Nat) (l1 : FrameLaw) (sheet1 : List Int) : Option (Int) :=
  Option.bind (frameCheckLaw N l1) fun r6 =>
  if !decide (r6 = 0) then
    some r6
  else
    if decide (40 < (sheet1.length : Int)) then
      some 3
    else
      Option.bind (frameLawBad N l1 sheet1) fun r8 =>
      if decide (r8 < (sheet1.length : Int)) then
        some 10
      else
        some 0

def frameSum_b1 (N : Nat) (l1 : List Int) (rec3 : (Int × Int × Int) → Option (Int)) (n10 : Int) (v17 : Int) (v18 : Int) : Option (Int) :=
  if decide (v18 < v17) then
    Option.bind (idx l1 v18) fun x24 =>
    rec3 ((w64 (n10 + x24), v17, w64 (v18 + 1)))
  else
    some n10

def frameSum (N : Nat) (l1 : List Int) : Option (Int) :=
  Option.bind (
    loopN (fun rec3 x => frameSum_b1 N l1 rec3 x.1 x.2.1 x.2.2) N ((0, (l1.length : Int), 0))
  ) fun n6 =>
  some n6

def frameLawTotal_b1 (N : Nat) (sheet1 : List Int) (rec3 : (Int × Int × Int × FramePlay) → Option (Int)) (n10 : Int) (v17 : Int) (v18 : Int) (p8 : FramePlay) : Option (Int) :=
  if decide (v18 < v17) then
    Option.bind (idx sheet1 v18) fun x24 =>
    Option.bind (framePlayNext N p8 x24) fun (ra24, rb24, rc24) =>
    Option.bind (frameSum N ([n10, rc24])) fun r14 =>
    rec3 ((r14, v17, w64 (v18 + 1), ra24))
  else
    some n10

def frameLawTotal (N : Nat) (l1 : FrameLaw) (sheet1 : List Int) : Option (Int) :=
  Option.bind (frameLawBegin N l1) fun r2 =>
  Option.bind (
    loopN (fun rec3 x => frameLawTotal_b1 N sheet1 rec3 x.1 x.2.1 x.2.2.1 x.2.2.2) N ((0, (sheet1.length : Int), 0, r2))
  ) fun n6 =>
  some n6

def frameLawBehind_b1 (N : Nat) (rb16 : List Int) (rec3 : (Int × Int × FramePlay × FramePlay) → Option (FramePlay)) (v17 : Int) (v18 : Int) (c8 : FramePlay) (p9 : FramePlay) : Option (FramePlay) :=
  if decide (v18 < v17) then
    Option.bind (idx rb16 v18) fun x24 =>
    Option.bind (framePlayMay N c8 x24) fun r54 =>
    if !r54 then
      some p9
    else
      Option.bind (framePlayNext N c8 x24) fun (ra28, rb28, rc26) =>
      rec3 ((v17, w64 (v18 + 1), ra28, ra28))
  else
    some p9

def frameLawBehind (N : Nat) (l1 : FrameLaw) (sheet1 : List Int) : Option (FramePlay) :=
  Option.bind (frameLawBegin N l1) fun r2 =>
  Option.bind (
    Option.bind (frameLawBalls N l1 sheet1) fun (ra16, rb16) =>
    Option.bind (frameLawBegin N ra16) fun r30 =>
    loopN (fun rec3 x => frameLawBehind_b1 N rb16 rec3 x.1 x.2.1 x.2.2.1 x.2.2.2) N (((rb16.length : Int), 0, r30, r2))
  ) fun p5 =>
  some p5

def framePlayLeast (N : Nat) (p1 : FramePlay) : Option (Int) :=
  some 0

def frameLawFinal_b1 (N : Nat)  (rec3 : (Int × FramePlay) → Option (Int)) (n10 : Int) (p8 : FramePlay) : Option (Int) :=
  Option.bind (framePlayDone N p8) fun r62 =>
  if !r62 then
    Option.bind (
      Option.bind (framePlayLeast N p8) fun r67 =>
      Option.bind (framePlayNext N p8 r67) fun (ra24, rb24, rc24) =>
      some (rc24, ra24)
    ) fun (worth12, now12) =>
    Option.bind (frameSum N ([n10, worth12])) fun r68 =>
    rec3 (r68, now12)
  else
    some n10

def frameLawFinal (N : Nat) (l1 : FrameLaw) (sheet1 : List Int) : Option (Int) :=
  Option.bind (frameLawTotal N l1 sheet1) fun r2 =>
  Option.bind (
    Option.bind (frameLawBehind N l1 sheet1) fun r37 =>
    loopN (fun rec3 x => frameLawFinal_b1 N rec3 x.1 x.2) N (r2, r37)
  ) fun n6 =>
  some n6

def framePlayMost (N : Nat) (p1 : FramePlay) : Option (Int) :=
  some p1.fAt.fStanding

def frameLawFinalX_b1 (N : Nat)  (rec3 : (Int × FramePlay) → Option (Int)) (n10 : Int) (p8 : FramePlay) : Option (Int) :=
  Option.bind (framePlayDone N p8) fun r62 =>
  if !r62 then
    Option.bind (
      Option.bind (framePlayMost N p8) fun r67 =>
      Option.bind (framePlayNext N p8 r67) fun (ra24, rb24, rc24) =>
      some (rc24, ra24)
    ) fun (worth12, now12) =>
    Option.bind (frameSum N ([n10, worth12])) fun r68 =>
    rec3 (r68, now12)
  else
    some n10

def frameLawFinalX (N : Nat) (l1 : FrameLaw) (sheet1 : List Int) : Option (Int) :=
  Option.bind (frameLawTotal N l1 sheet1) fun r2 =>
  Option.bind (
    Option.bind (frameLawBehind N l1 sheet1) fun r37 =>
    loopN (fun rec3 x => frameLawFinalX_b1 N rec3 x.1 x.2) N (r2, r37)
  ) fun n6 =>
  some n6

def frameLawSpan (N : Nat) (l1 : FrameLaw) (sheet1 : List Int) : Option (FrameRange) :=
  Option.bind (
    Option.bind (frameLawFinal N l1 sheet1) fun r3 =>
    Option.bind (frameLawFinalX N l1 sheet1) fun r4 =>
    some (FrameRange.mk r3 r4)
  ) fun c1 =>
  some c1

def frameSpan (N : Nat) (l1 : FrameLaw) (balls1 : List Int) : Option (FrameRange × Int) :=
  Option.bind (frameLawCheck N l1 balls1) fun r4 =>
  if !decide (r4 = 0) then
    some (((FrameRange.mk 0 0), r4))
  else
    Option.bind (frameLawSpan N l1 balls1) fun r6 =>
    some (r6, 0)

def rateWithin (N : Nat) (n1 : Int) (low1 : Int) (high1 : Int) : Option (Bool) :=
  Option.bind (
    if decide (low1 ≤ n1) then
      some (decide (n1 ≤ high1))
    else
      some false
  ) fun v1 =>
  some v1

def rateCount (N : Nat) (n1 : Int) : Option (Bool) :=
  Option.bind (rateWithin N n1 0 300) fun r2 =>
  some r2

def rateLawValid (N : Nat) (l1 : RateLaw) : Option (Bool) :=
  Option.bind (
    Option.bind (rateCount N l1.fBase) fun r6 =>
    if r6 then
      Option.bind (rateWithin N l1.fPercent 0 100) fun r7 =>
      if r7 then
        Option.bind (rateCount N l1.fCap) fun r8 =>
        if r8 then
          Option.bind (rateWithin N l1.fLeast 1 30) fun r9 =>
          if r9 then
            Option.bind (rateCount N l1.fBlind) fun r10 =>
            some r10
          else
            some false
        else
          some false
      else
        some false
    else
      some false
  ) fun v1 =>
  some v1

def rateAll1 (N : Nat) (x1 : Int) : Option (Bool) :=
  Option.bind (rateCount N x1) fun r2 =>
  some (!r2)

def slicesIndexFunc_k1 (N : Nat)   : Option (Int) :=
  some (-1)

def slicesIndexFunc_b2 (N : Nat) (s1 : List Int) (rec3 : (Int × Int) → Option (Int)) (v17 : Int) (v18 : Int) : Option (Int) :=
  if decide (v18 < v17) then
    Option.bind (idx s1 v18) fun x24 =>
    Option.bind (rateAll1 N x24) fun r24 =>
    if r24 then
      some v18
    else
      rec3 ((v17, w64 (v18 + 1)))
  else
    slicesIndexFunc_k1 N

def slicesIndexFunc (N : Nat) (s1 : List Int) : Option (Int) :=
  loopN (fun rec3 x => slicesIndexFunc_b2 N s1 rec3 x.1 x.2) N (((s1.length : Int), 0))

def slicesContainsFunc (N : Nat) (s1 : List Int) : Option (Bool) :=
  Option.bind (slicesIndexFunc N s1) fun r2 =>
  some (decide (0 ≤ r2))

def rateAll (N : Nat) (l1 : List Int) : Option (Bool) :=
  Option.bind (slicesContainsFunc N l1) fun r2 =>
  some (!r2)

def rateNumber (N : Nat) (n1 : Int) : Option (Bool) :=
  Option.bind (rateWithin N n1 1 999) fun r2 =>
  some r2

def rateBookBowler (N : Nat) (b1 : RateBook) (n1 : Int) : Option (Bool) :=
  Option.bind (rateWithin N n1 0 (w64 ((b1.fBowlers.length : Int) - 1))) fun r2 =>
  some r2

def rateWeek (N : Nat) (n1 : Int) : Option (Bool) :=
  Option.bind (rateWithin N n1 1 30) fun r2 =>
  some r2

def rateBookSheet (N : Nat) (b1 : RateBook) (s1 : RateSheet) : Option (Bool) :=
  Option.bind (
    Option.bind (rateNumber N s1.fNumber) fun r5 =>
    if r5 then
      Option.bind (rateBookBowler N b1 s1.fBowler) fun r6 =>
      if r6 then
        Option.bind (rateWeek N s1.fWeek) fun r7 =>
        if r7 then
          Option.bind (rateAll N ([s1.fGames.a0, s1.fGames.a1, s1.fGames.a2] : List Int)) fun r8 =>
          some r8
        else
          some false
      else
        some false
    else
      some false
  ) fun v1 =>
  some v1

def rateAll1X (N : Nat) (x1 : RateSheet) (a1 : RateBook) : Option (Bool) :=
  Option.bind (rateBookSheet N a1 x1) fun r2 =>
  some (!r2)

def slicesIndexFuncX_k1 (N : Nat)   : Option (Int) :=
  some (-1)

def slicesIndexFuncX_b2 (N : Nat) (s1 : List RateSheet) (f1 : RateBook) (rec3 : (Int × Int) → Option (Int)) (v17 : Int) (v18 : Int) : Option (Int) :=
  if decide (v18 < v17) then
    Option.bind (idx s1 v18) fun x24 =>
    Option.bind (rateAll1X N x24 f1) fun r24 =>
    if r24 then
      some v18
    else
      rec3 ((v17, w64 (v18 + 1)))
  else
    slicesIndexFuncX_k1 N

def slicesIndexFuncX (N : Nat) (s1 : List RateSheet) (f1 : RateBook) : Option (Int) :=
  loopN (fun rec3 x => slicesIndexFuncX_b2 N s1 f1 rec3 x.1 x.2) N (((s1.length : Int), 0))

def slicesContainsFuncX (N : Nat) (s1 : List RateSheet) (f1 : RateBook) : Option (Bool) :=
  Option.bind (slicesIndexFuncX N s1 f1) fun r2 =>
  some (decide (0 ≤ r2))

def rateAllX (N : Nat) (l1 : List RateSheet) (right1 : RateBook) : Option (Bool) :=
  Option.bind (slicesContainsFuncX N l1 right1) fun r2 =>
  some (!r2)

def rateAll1XX (N : Nat) (x1 : Int) : Option (Bool) :=
  Option.bind (rateNumber N x1) fun r2 =>
  some (!r2)

def slicesIndexFuncXX_k1 (N : Nat)   : Option (Int) :=
  some (-1)

def slicesIndexFuncXX_b2 (N : Nat) (s1 : List Int) (rec3 : (Int × Int) → Option (Int)) (v17 : Int) (v18 : Int) : Option (Int) :=
  if decide (v18 < v17) then
    Option.bind (idx s1 v18) fun x24 =>
    Option.bind (rateAll1XX N x24) fun r24 =>
    if r24 then
      some v18
    else
      rec3 ((v17, w64 (v18 + 1)))
  else
    slicesIndexFuncXX_k1 N

def slicesIndexFuncXX (N : Nat) (s1 : List Int) : Option (Int) :=
  loopN (fun rec3 x => slicesIndexFuncXX_b2 N s1 rec3 x.1 x.2) N (((s1.length : Int), 0))

def slicesContainsFuncXX (N : Nat) (s1 : List Int) : Option (Bool) :=
  Option.bind (slicesIndexFuncXX N s1) fun r2 =>
  some (decide (0 ≤ r2))

def rateAllXX (N : Nat) (l1 : List Int) : Option (Bool) :=
  Option.bind (slicesContainsFuncXX N l1) fun r2 =>
  some (!r2)

def rateRising_k1 (N : Nat)   : Option (Bool) :=
  some true

def rateRising_b2 (N : Nat) (l1 : List Int) (rec3 : (Int × Int) → Option (Bool)) (v23 : Int) (v24 : Int) : Option (Bool) :=
  if decide (v24 < v23) then
    Option.bind (
      if decide (0 < v24) then
        Option.bind (idx l1 v24) fun x31 =>
        Option.bind (idx l1 (w64 (v24 - 1))) fun x32 =>
        some (decide (x31 ≤ x32))
      else
        some false
    ) fun v26 =>
    if v26 then
      some false
    else
      rec3 ((v23, w64 (v24 + 1)))
  else
    rateRising_k1 N

def rateRising (N : Nat) (l1 : List Int) : Option (Bool) :=
  loopN (fun rec3 x => rateRising_b2 N l1 rec3 x.1 x.2) N (((l1.length : Int), 0))

def rateCheckBook_k1 (N : Nat)   : Option (Int) :=
  some 0

def rateCheckBook_k2 (N : Nat) (v171 : Int) (v172 : Int) (rec13 : (Int × Int) → Option (Int))  : Option (Int) :=
  rec13 ((v171, w64 (v172 + 1)))

def rateCheckBook_b3 (N : Nat) (v171 : Int) (v172 : Int) (rec13 : (Int × Int) → Option (Int)) (x156 : RateSheet) (l24 : List RateSheet) (rec15 : (Int × Int) → Option (Int)) (v199 : Int) (v200 : Int) : Option (Int) :=
  if decide (v200 < v199) then
    Option.bind (idx l24 v200) fun x168 =>
    Option.bind (
      if decide (x156.fNumber = x168.fNumber) then
        if !decide (x156.fBowler = x168.fBowler) then
          some true
        else
          if !decide (x156.fWeek = x168.fWeek) then
            some true
          else
            some (!decide (x156.fGames = x168.fGames))
      else
        some false
    ) fun v202 =>
    if v202 then
      some 6
    else
      rec15 ((v199, w64 (v200 + 1)))
  else
    rateCheckBook_k2 N v171 v172 rec13

def rateCheckBook_b4 (N : Nat) (a1 : RateBook) (rec13 : (Int × Int) → Option (Int)) (v171 : Int) (v172 : Int) : Option (Int) :=
  if decide (v172 < v171) then
    Option.bind (idx a1.fSheets v172) fun x156 =>
    Option.bind (slc a1.fSheets 0 v172) fun l24 =>
    loopN (fun rec15 x => rateCheckBook_b3 N v171 v172 rec13 x156 l24 rec15 x.1 x.2) N (((l24.length : Int), 0))
  else
    rateCheckBook_k1 N

def rateCheckBook (N : Nat) (a1 : RateBook) : Option (Int) :=
  Option.bind (
    if decide (8 < (a1.fBowlers.length : Int)) then
      some true
    else
      if decide (40 < (a1.fSheets.length : Int)) then
        some true
      else
        some (decide (40 < (a1.fWithdrawn.length : Int)))
  ) fun v3 =>
  if v3 then
    some 3
  else
    Option.bind (
      Option.bind (rateLawValid N a1.fLaw) fun r16 =>
      if !r16 then
        some true
      else
        Option.bind (rateAll N a1.fBowlers) fun r17 =>
        if !r17 then
          some true
        else
          Option.bind (rateAllX N a1.fSheets a1) fun r18 =>
          if !r18 then
            some true
          else
            Option.bind (rateAllXX N a1.fWithdrawn) fun r19 =>
            if !r19 then
              some true
            else
              Option.bind (rateRising N a1.fWithdrawn) fun r20 =>
              some (!r20)
    ) fun v4 =>
    if v4 then
      some 1
    else
      loopN (fun rec13 x => rateCheckBook_b4 N a1 rec13 x.1 x.2) N (((a1.fSheets.length : Int), 0))

def slicesIndex_k1 (N : Nat)   : Option (Int) :=
  some (-1)

def slicesIndex_b2 (N : Nat) (s1 : List Int) (v1 : Int) (rec3 : (Int × Int) → Option (Int)) (v18 : Int) (v19 : Int) : Option (Int) :=
  if decide (v19 < v18) then
    Option.bind (idx s1 v19) fun x24 =>
    if decide (v1 = x24) then
      some v19
    else
      rec3 ((v18, w64 (v19 + 1)))
  else
    slicesIndex_k1 N

def slicesIndex (N : Nat) (s1 : List Int) (v1 : Int) : Option (Int) :=
  loopN (fun rec3 x => slicesIndex_b2 N s1 v1 rec3 x.1 x.2) N (((s1.length : Int), 0))

def slicesContains (N : Nat) (s1 : List Int) (v1 : Int) : Option (Bool) :=
  Option.bind (slicesIndex N s1 v1) fun r2 =>
  some (decide (0 ≤ r2))

def rateBookRead_b1 (N : Nat) (a1 : RateBook) (rec3 : (Int × Int × (List (RateTurn × RateSheet))) → Option ((List (RateTurn × RateSheet)))) (v57 : Int) (v58 : Int) (m14 : List (RateTurn × RateSheet)) : Option ((List (RateTurn × RateSheet))) :=
  if decide (v58 < v57) then
    Option.bind (
      Option.bind (idx a1.fSheets v58) fun x24 =>
      Option.bind (
        Option.bind (mgt m14 (RateTurn.mk x24.fBowler x24.fWeek) ((RateSheet.mk 0 0 0 (Ar3.mk 0 0 0)))) fun (v65, is24) =>
        some (is24, v65)
      ) fun (v64, c12) =>
      Option.bind (
        Option.bind (slicesContains N a1.fWithdrawn x24.fNumber) fun r28 =>
        if !r28 then
          if !v64 then
            some true
          else
            some (decide (c12.fNumber < x24.fNumber))
        else
          some false
      ) fun v66 =>
      if v66 then
        some ((mput m14 (RateTurn.mk x24.fBowler x24.fWeek) x24))
      else
        some m14
    ) fun m15 =>
    rec3 ((v57, w64 (v58 + 1), m15))
  else
    some m14

def rateBookRead (N : Nat) (a1 : RateBook) : Option (Int ⊕ (Int × Int × Int × Int × Int × Int × (List Int) × (List RateSheet) × (List Int) × (List (RateTurn × RateSheet)))) :=
  Option.bind (rateCheckBook N a1) fun r4 =>
  if !decide (r4 = 0) then
    some (.inl r4)
  else
    Option.bind (
      loopN (fun rec3 x => rateBookRead_b1 N a1 rec3 x.1 x.2.1 x.2.2) N (((a1.fSheets.length : Int), 0, []))
    ) fun m8 =>
    some (.inr (0, a1.fLaw.fBase, a1.fLaw.fPercent, a1.fLaw.fCap, a1.fLaw.fLeast, a1.fLaw.fBlind, a1.fBowlers, a1.fSheets, a1.fWithdrawn, m8))

def rateBookAsked (N : Nat) (b1 : RateBook) (bowler1 : Int) (w1 : Int) : Option (Int ⊕ (Int × Int × Int × Int × Int × Int × (List Int) × (List RateSheet) × (List Int) × (List (RateTurn × RateSheet)))) :=
  Option.bind (rateBookRead N b1) fun z2 =>
  match z2 with
  | .inl r2 =>
    Option.bind (
      Option.bind (
        if decide (r2 = 0) then
          Option.bind (rateBookBowler N b1 bowler1) fun r9 =>
          if !r9 then
            some true
          else
            Option.bind (rateWeek N w1) fun r10 =>
            some (!r10)
        else
          some false
      ) fun v2 =>
      if v2 then
        some 2
      else
        some r2
    ) fun e1 =>
    some (.inl e1)
  | .inr (ra2, rb2, rc2, rd2, re2, rf2, rg2, rh2, ri2, rj2) =>
    Option.bind (
      Option.bind (
        if decide (ra2 = 0) then
          Option.bind (rateBookBowler N b1 bowler1) fun r17 =>
          if !r17 then
            some true
          else
            Option.bind (rateWeek N w1) fun r18 =>
            some (!r18)
        else
          some false
      ) fun v4 =>
      if v4 then
        some 2
      else
        some ra2
    ) fun e2 =>
    some (.inr (e2, rb2, rc2, rd2, re2, rf2, rg2, rh2, ri2, rj2))

def rateSum_b1 (N : Nat) (l1 : List Int) (rec3 : (Int × Int × Int) → Option (Int)) (n10 : Int) (v17 : Int) (v18 : Int) : Option (Int) :=
  if decide (v18 < v17) then
    Option.bind (idx l1 v18) fun x24 =>
    rec3 ((w64 (n10 + x24), v17, w64 (v18 + 1)))
  else
    some n10

def rateSum (N : Nat) (l1 : List Int) : Option (Int) :=
  Option.bind (
    loopN (fun rec3 x => rateSum_b1 N l1 rec3 x.1 x.2.1 x.2.2) N ((0, (l1.length : Int), 0))
  ) fun n6 =>
  some n6

def rateReadCounting (N : Nat) (bowler1 : Int) (before1 : Int) (c1 : Int) (c2 : Int) (c3 : Int) (c4 : Int) (c5 : Int) (c6 : List Int) (c7 : List RateSheet) (c8 : List Int) (m1 : List (RateTurn × RateSheet)) : Option (Int × Int) :=
  some (before1, bowler1)

def rateReadAverage_b1 (N : Nat) (m1 : List (RateTurn × RateSheet)) (ra4 : Int) (rb4 : Int) (rec3 : (Int × Int × Int) → Option (Int × Int)) (games8 : Int) (c57 : Int) (c58 : Int) : Option (Int × Int) :=
  if decide (games8 < ra4) then
    Option.bind (
      Option.bind (mgt m1 (RateTurn.mk rb4 games8) ((RateSheet.mk 0 0 0 (Ar3.mk 0 0 0)))) fun (v24, is24) =>
      some (is24, v24)
    ) fun (besides13, c62) =>
    Option.bind (
      if besides13 then
        Option.bind (rateSum N ([c62.fGames.a0, c62.fGames.a1, c62.fGames.a2] : List Int)) fun r49 =>
        Option.bind (rateSum N ([c58, r49])) fun r50 =>
        some ((w64 (c57 + 3), r50))
      else
        some (c57, c58)
    ) fun (c63, c64) =>
    rec3 ((w64 (games8 + 1), c63, c64))
  else
    some (c57, c58)

def rateReadAverage (N : Nat) (bowler1 : Int) (before1 : Int) (besides1 : List Int) (c1 : Int) (c2 : Int) (c3 : Int) (c4 : Int) (c5 : Int) (c6 : List Int) (c7 : List RateSheet) (c8 : List Int) (m1 : List (RateTurn × RateSheet)) : Option (Int) :=
  Option.bind (rateSum N besides1) fun r2 =>
  Option.bind (
    Option.bind (rateReadCounting N bowler1 before1 c1 c2 c3 c4 c5 c6 c7 c8 m1) fun (ra4, rb4) =>
    loopN (fun rec3 x => rateReadAverage_b1 N m1 ra4 rb4 rec3 x.1 x.2.1 x.2.2) N ((0, (besides1.length : Int), r2))
  ) fun (c36, c37) =>
  if decide (c36 < c4) then
    Option.bind (idx c6 bowler1) fun x4 =>
    some x4
  else
    Option.bind (nz c36) fun _ =>
    some (w64 (Int.tdiv c37 c36))

def rateAverage (N : Nat) (b1 : RateBook) (bowler1 : Int) (week1 : Int) : Option (Int × Int) :=
  Option.bind (rateBookAsked N b1 bowler1 week1) fun z2 =>
  match z2 with
  | .inl r2 =>
    if !decide (r2 = 0) then
      some (0, r2)
    else
      none
  | .inr (ra2, rb2, rc2, rd2, re2, rf2, rg2, rh2, ri2, rj2) =>
    if !decide (ra2 = 0) then
      some (0, ra2)
    else
      Option.bind (rateReadAverage N bowler1 week1 ([]) rb2 rc2 rd2 re2 rf2 rg2 rh2 ri2 rj2) fun r4 =>
      some (r4, 0)

def kingpintopRated (N : Nat)  : Option (Bool) :=
  Option.bind (frameSpan N (FrameLaw.mk 1 10 2 10) ([5])) fun (ra2, rb2) =>
  Option.bind (rateAverage N ((RateBook.mk (RateLaw.mk 0 0 0 1 0) ([70]) ([]) ([]))) 0 2) fun (ra4, rb4) =>
  Option.bind (
    if decide (rb2 = 0) then
      if decide (ra2 = (FrameRange.mk 5 20)) then
        if decide (rb4 = 0) then
          some (decide (ra4 = 70))
        else
          some false
      else
        some false
    else
      some false
  ) fun v1 =>
  some v1

def ref01Begin (N : Nat) (l1 : Ref01Law) : Option (Ref01Stand) :=
  some (Ref01Stand.mk 0 0 l1.fPins true l1.fBalls)

def ref01Fits (N : Nat) (l1 : Ref01Law) (s1 : Ref01Stand) (ball1 : Int) : Option (Bool) :=
  Option.bind (
    if decide (s1.fFrame < l1.fFrames) then
      Option.bind (ref01In N ball1 (-1) s1.fStanding) fun r2 =>
      some r2
    else
      some false
  ) fun v1 =>
  some v1

def ref01Throw (N : Nat) (a1 : Ref01Law) (a2 : Ref01Stand) (a3 : Int) : Option (Ref01Stand × Int) :=
  Option.bind (
    if decide (a3 < 0) then
      some 0
    else
      some a3
  ) fun v1 =>
  Option.bind (
    Option.bind (
      if a2.fSet then
        some (decide (a1.fTap ≤ v1))
      else
        some false
    ) fun v4 =>
    if v4 then
      some a1.fPins
    else
      some v1
  ) fun v3 =>
  if decide (a2.fFrame < (w64 (a1.fFrames - 1))) then
    Option.bind (
      Option.bind (
        if decide ((w64 (a2.fStanding - v3)) = 0) then
          some ((true, (Ref01Stand.mk a2.fFrame (w64 (a2.fThrown + 1)) (w64 (a2.fStanding - v3)) false a2.fHas)))
        else
          some ((decide ((w64 (a2.fThrown + 1)) = a1.fBalls), (Ref01Stand.mk a2.fFrame (w64 (a2.fThrown + 1)) (w64 (a2.fStanding - v3)) false a2.fHas)))
      ) fun (v8, c6) =>
      if v8 then
        some ((Ref01Stand.mk (w64 (a2.fFrame + 1)) 0 a1.fPins true a1.fBalls))
      else
        some c6
    ) fun c5 =>
    some (c5, v3)
  else
    Option.bind (
      Option.bind (
        if decide ((w64 (a2.fStanding - v3)) = 0) then
          some ((decide ((w64 (a2.fThrown + 1)) < 3), (Ref01Stand.mk a2.fFrame (w64 (a2.fThrown + 1)) (w64 (a2.fStanding - v3)) false a2.fHas)))
        else
          some ((false, (Ref01Stand.mk a2.fFrame (w64 (a2.fThrown + 1)) (w64 (a2.fStanding - v3)) false a2.fHas)))
      ) fun (v10, c9) =>
      if v10 then
        some (Ref01Stand.mk c9.fFrame c9.fThrown c9.fStanding c9.fSet 3)
      else
        some c9
    ) fun c8 =>
    if decide (c8.fThrown = c8.fHas) then
      some (((Ref01Stand.mk a1.fFrames 0 a1.fPins true a1.fBalls), v3))
    else
      Option.bind (
        if decide (c8.fStanding = 0) then
          some (Ref01Stand.mk c8.fFrame c8.fThrown a1.fPins true c8.fHas)
        else
          some c8
      ) fun c10 =>
      some (c10, v3)

def ref01Play_b1 (N : Nat) (l1 : Ref01Law) (sheet1 : List Int) (rec3 : (Int × Ref01Stand × (List Ref01Ball)) → Option (Ref01Stand × (List Ref01Ball))) (i8 : Int) (s9 : Ref01Stand) (l30 : List Ref01Ball) : Option (Ref01Stand × (List Ref01Ball)) :=
  Option.bind (
    if decide (i8 < (sheet1.length : Int)) then
      Option.bind (idx sheet1 i8) fun x44 =>
      Option.bind (ref01Fits N l1 s9 x44) fun r26 =>
      some r26
    else
      some false
  ) fun v12 =>
  if v12 then
    Option.bind (
      Option.bind (idx sheet1 i8) fun x48 =>
      Option.bind (ref01Throw N l1 s9 x48) fun (ra24, rb24) =>
      some (rb24, ra24)
    ) fun (n14, next12) =>
    Option.bind (app N l30 ([(Ref01Ball.mk s9.fFrame n14)])) fun l34 =>
    rec3 ((w64 (i8 + 1), next12, l34))
  else
    some (s9, l30)

def ref01Play (N : Nat) (l1 : Ref01Law) (sheet1 : List Int) : Option (Ref01Stand × (List Ref01Ball)) :=
  Option.bind (ref01Begin N l1) fun r2 =>
  Option.bind (
    loopN (fun rec3 x => ref01Play_b1 N l1 sheet1 rec3 x.1 x.2.1 x.2.2) N (0, r2, [])
  ) fun (s5, l18) =>
  some (s5, l18)

def ref01Is (N : Nat) (l1 : Ref01Law) (sheet1 : List Int) : Option (Bool) :=
  Option.bind (ref01Play N l1 sheet1) fun (ra2, rb2) =>
  some (decide ((rb2.length : Int) = (sheet1.length : Int)))

def law01Law (N : Nat) (l1 : Ref01Law) : Option (FrameLaw) :=
  some (FrameLaw.mk l1.fFrames l1.fPins l1.fBalls l1.fTap)

def law01List (N : Nat) (l1 : List Int) : Option ((List Int)) :=
  Option.bind (app N ([]) l1) fun l3 =>
  some l3

def law01Ended_b1 (N : Nat) (l1 : Ref01Law) (words1 : List Int) (rec3 : (Int × (List Int) × Ref01Stand) → Option ((List Int))) (k8 : Int) (l30 : List Int) (s8 : Ref01Stand) : Option ((List Int)) :=
  Option.bind (
    if decide (k8 < 40) then
      some (decide (s8.fFrame < l1.fFrames))
    else
      some false
  ) fun v16 =>
  if v16 then
    Option.bind (
      if decide (0 < (words1.length : Int)) then
        Option.bind (nz (words1.length : Int)) fun _ =>
        Option.bind (idx words1 (Int.tmod k8 (words1.length : Int))) fun x24 =>
        some (w64 x24)
      else
        some 0
    ) fun w12 =>
    Option.bind (nz (w64 (s8.fStanding + 1))) fun _ =>
    Option.bind (app N l30 ([Int.tmod w12 (w64 (s8.fStanding + 1))])) fun l34 =>
    Option.bind (ref01Throw N l1 s8 (Int.tmod w12 (w64 (s8.fStanding + 1)))) fun (ra14, rb14) =>
    rec3 ((w64 (k8 + 1), l34, ra14))
  else
    some l30

def law01Ended (N : Nat) (l1 : Ref01Law) (sheet1 : List Int) (words1 : List Int) : Option ((List Int)) :=
  Option.bind (law01List N sheet1) fun r2 =>
  Option.bind (ref01Play N l1 sheet1) fun (ra2, rb2) =>
  Option.bind (
    loopN (fun rec3 x => law01Ended_b1 N l1 words1 rec3 x.1 x.2.1 x.2.2) N (0, r2, ra2)
  ) fun l18 =>
  some l18

def frameLawCounts_b1 (N : Nat) (a1 : FrameLaw) (rb16 : List Int) (rec3 : (Int × Int × FramePlay × (List Int) × (List Int) × (List Int) × (List Int)) → Option ((List Int) × (List Int) × (List Int))) (v57 : Int) (v58 : Int) (c8 : FramePlay) (l474 : List Int) (l475 : List Int) (l476 : List Int) (l477 : List Int) : Option ((List Int) × (List Int) × (List Int)) :=
  if decide (v58 < v57) then
    Option.bind (idx rb16 v58) fun x288 =>
    Option.bind (framePlayMay N c8 x288) fun r140 =>
    if !r140 then
      some (l474, l475, l476)
    else
      Option.bind (framePlayNext N c8 x288) fun (ra28, rb28, rc26) =>
      Option.bind (
        Option.bind (app N l474 ([rb28])) fun l558 =>
        Option.bind (idx l477 c8.fAt.fFrame) fun x308 =>
        if decide (c8.fAt.fFrame < ra28.fAt.fFrame) then
          Option.bind (app N l475 ([w64 (v58 + 1)])) fun l560 =>
          Option.bind (app N l476 ([0])) fun l562 =>
          Option.bind (idx ((List.set l477 (Int.toNat c8.fAt.fFrame) (w64 (x308 + 1)))) c8.fAt.fFrame) fun x310 =>
          Option.bind (slc l558 (w64 ((w64 (v58 + 1)) - x310)) (l558.length : Int)) fun l564 =>
          Option.bind (frameSum N l564) fun r148 =>
          Option.bind (
            if decide (c8.fAt.fFrame < (w64 (a1.fFrames - 1))) then
              if decide (r148 = a1.fPins) then
                some ((decide (x310 < 3), (List.set l477 (Int.toNat c8.fAt.fFrame) (w64 (x308 + 1)))))
              else
                some ((false, (List.set l477 (Int.toNat c8.fAt.fFrame) (w64 (x308 + 1)))))
            else
              some ((false, (List.set l477 (Int.toNat c8.fAt.fFrame) (w64 (x308 + 1)))))
          ) fun (v66, l565) =>
          if v66 then
            Option.bind (idx l565 c8.fAt.fFrame) fun x311 =>
            Option.bind (idx l562 c8.fAt.fFrame) fun x312 =>
            some ((l558, l560, (List.set l562 (Int.toNat c8.fAt.fFrame) (w64 (3 - x311))), l565))
          else
            some (l558, l560, l562, l565)
        else
          some ((l558, l475, l476, (List.set l477 (Int.toNat c8.fAt.fFrame) (w64 (x308 + 1)))))
      ) fun (l553, l554, l555, l556) =>
      rec3 ((v57, w64 (v58 + 1), ra28, l553, l554, l555, l556))
  else
    some (l474, l475, l476)

def frameLawCounts_k2 (N : Nat)  (l594 : List Int) : Option ((List Int)) :=
  some l594

def frameLawCounts_b3 (N : Nat) (l283 : List Int) (l284 : List Int) (l285 : List Int) (rec5 : (Int × Int × Int × (List Int)) → Option ((List Int))) (v96 : Int) (v97 : Int) (v98 : Int) (l614 : List Int) : Option ((List Int)) :=
  if decide (v98 < v97) then
    Option.bind (idx l284 v98) fun x394 =>
    Option.bind (idx l285 v98) fun x398 =>
    if decide ((l283.length : Int) < (w64 (x394 + x398))) then
      some l614
    else
      Option.bind (slc l283 v96 (w64 (x394 + x398))) fun l620 =>
      Option.bind (frameSum N l620) fun r186 =>
      Option.bind (
        if decide (0 < v98) then
          Option.bind (idx l614 (w64 (v98 - 1))) fun x400 =>
          Option.bind (frameSum N ([r186, x400])) fun r188 =>
          some r188
        else
          some r186
      ) fun v100 =>
      Option.bind (app N l614 ([v100])) fun l622 =>
      rec5 ((x394, v97, w64 (v98 + 1), l622))
  else
    frameLawCounts_k2 N l614

def frameLawCounts (N : Nat) (a1 : FrameLaw) (a2 : List Int) : Option ((List Int)) :=
  Option.bind (mkl N a1.fFrames 0) fun l2 =>
  Option.bind (
    Option.bind (frameLawBalls N a1 a2) fun (ra16, rb16) =>
    Option.bind (frameLawBegin N ra16) fun r76 =>
    loopN (fun rec3 x => frameLawCounts_b1 N a1 rb16 rec3 x.1 x.2.1 x.2.2.1 x.2.2.2.1 x.2.2.2.2.1 x.2.2.2.2.2.1 x.2.2.2.2.2.2) N (((rb16.length : Int), 0, r76, [], [], [], l2))
  ) fun (l283, l284, l285) =>
  loopN (fun rec5 x => frameLawCounts_b3 N l283 l284 l285 rec5 x.1 x.2.1 x.2.2.1 x.2.2.2) N ((0, (l284.length : Int), 0, []))

def frameRead_b1 (N : Nat) (rb16 : List Int) (rec3 : (Int × Int × FramePlay × (List (List Int))) → Option ((List (List Int)))) (v17 : Int) (v18 : Int) (c8 : FramePlay) (l137 : List (List Int)) : Option ((List (List Int))) :=
  if decide (v18 < v17) then
    Option.bind (idx rb16 v18) fun x68 =>
    Option.bind (framePlayMay N c8 x68) fun r58 =>
    if !r58 then
      some l137
    else
      Option.bind (framePlayNext N c8 x68) fun (ra28, rb28, rc26) =>
      Option.bind (
        if decide (c8.fAt.fFrame = (l137.length : Int)) then
          Option.bind (app N l137 [[]]) fun l168 =>
          some l168
        else
          some l137
      ) fun l167 =>
      Option.bind (idx l167 c8.fAt.fFrame) fun x72 =>
      Option.bind (app N x72 ([x68])) fun l169 =>
      rec3 ((v17, w64 (v18 + 1), ra28, (List.set l167 (Int.toNat c8.fAt.fFrame) l169)))
  else
    some l137

def frameRead (N : Nat) (a1 : FrameLaw) (a2 : List Int) : Option (FrameGame × Int) :=
  Option.bind (frameLawCheck N a1 a2) fun r4 =>
  if !decide (r4 = 0) then
    some (((FrameGame.mk ([]) ([]) 0 false), r4))
  else
    Option.bind (frameLawCounts N a1 a2) fun r6 =>
    Option.bind (
      Option.bind (frameLawBalls N a1 a2) fun (ra16, rb16) =>
      Option.bind (frameLawBegin N ra16) fun r34 =>
      loopN (fun rec3 x => frameRead_b1 N rb16 rec3 x.1 x.2.1 x.2.2.1 x.2.2.2) N (((rb16.length : Int), 0, r34, []))
    ) fun l85 =>
    Option.bind (frameLawBehind N a1 a2) fun r60 =>
    Option.bind (
      Option.bind (framePlayDone N r60) fun r64 =>
      if !r64 then
        some (r60.fAt.fStanding, r64)
      else
        some (0, r64)
    ) fun (c9, c10) =>
    some (((FrameGame.mk l85 r6 c9 c10), 0))

def kingpintopHouse (N : Nat) (games1 : Ar3 Int) : Option (RateBook) :=
  some ((RateBook.mk (RateLaw.mk 200 80 200 3 10) ([100]) ([(RateSheet.mk 1 0 1 games1)]) ([])))

def rateReadHandicap (N : Nat) (bowler1 : Int) (before1 : Int) (c1 : Int) (c2 : Int) (c3 : Int) (c4 : Int) (c5 : Int) (c6 : List Int) (c7 : List RateSheet) (c8 : List Int) (m1 : List (RateTurn × RateSheet)) : Option (Int) :=
  Option.bind (rateReadAverage N bowler1 before1 ([]) c1 c2 c3 c4 c5 c6 c7 c8 m1) fun r2 =>
  some (min (max 0 (w64 (Int.tdiv (w64 ((w64 (c1 - r2)) * c2)) 100))) c3)

def rateHandicap (N : Nat) (b1 : RateBook) (bowler1 : Int) (week1 : Int) : Option (Int × Int) :=
  Option.bind (rateBookAsked N b1 bowler1 week1) fun z2 =>
  match z2 with
  | .inl r2 =>
    if !decide (r2 = 0) then
      some (0, r2)
    else
      none
  | .inr (ra2, rb2, rc2, rd2, re2, rf2, rg2, rh2, ri2, rj2) =>
    if !decide (ra2 = 0) then
      some (0, ra2)
    else
      Option.bind (rateReadHandicap N bowler1 week1 rb2 rc2 rd2 re2 rf2 rg2 rh2 ri2 rj2) fun r4 =>
      some (r4, 0)
end Go.Proofs.Ythbifolpofillaa
