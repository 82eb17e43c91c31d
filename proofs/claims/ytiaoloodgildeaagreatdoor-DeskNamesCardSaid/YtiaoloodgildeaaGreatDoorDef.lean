/-
 The functions of the program and of the document, typed, by fuel; printed by a program off the translation. No program in sight.
-/
import Derived.Test.YtiaoloodgildeaaGreatDoorPre
namespace Go.Proofs.YtiaoloodgildeaaGreatDoor
open Go.Kp
set_option linter.all false
noncomputable section
structure DeskLane where
 fBowler : Int
 fBalls : List Int
 deriving DecidableEq
structure RateSheet where
 fNumber : Int
 fBowler : Int
 fWeek : Int
 fGames : Ar3 Int
 deriving DecidableEq
structure LadderResult where
 fMatch : Int
 fGames : List Int
 fProtested : Bool
 deriving DecidableEq
structure DeskState where
 fBowlers : List Int
 fLanes : List DeskLane
 fKept : List (List Int)
 fSheets : List RateSheet
 fWithdrawn : List Int
 fResults : List LadderResult
 deriving DecidableEq
structure DeskWork where
 fState : DeskState
 deriving DecidableEq
structure DeskAct where
 fMany : Int
 fDo : Int
 deriving DecidableEq
structure DeskRefusal where
 fE : Int
 deriving DecidableEq
structure FrameLaw where
 fFrames : Int
 fPins : Int
 fBalls : Int
 fTap : Int
 deriving DecidableEq
structure FrameGame where
 fFrames : List (List Int)
 fCounts : List Int
 fStanding : Int
 fDone : Bool
 deriving DecidableEq
structure FrameAt where
 fFrame : Int
 fThrown : Int
 fStanding : Int
 fFresh : Bool
 fNeed : Int
 fAfter : Ar2 Int
 deriving DecidableEq
structure FramePlay where
 fLaw : FrameLaw
 fAt : FrameAt
 deriving DecidableEq
structure LadderCup where
 fForm : Int
 fPlayers : Int
 fGames : Int
 fResults : List LadderResult
 deriving DecidableEq
structure LadderMatch where
 fNumber : Int
 fFirst : Int
 fSecond : Int
 fWon : Int
 fLost : Int
 deriving DecidableEq
structure LadderSide where
 fPlayer : Int
 fMatch : Int
 deriving DecidableEq
structure LadderPair where
 fFirst : LadderSide
 fSecond : LadderSide
 deriving DecidableEq
structure LadderSideT291 where
 fOf : Unit
 deriving DecidableEq
structure FrameRange where
 fLo : Int
 fHi : Int
 deriving DecidableEq
structure RateLaw where
 fBase : Int
 fPercent : Int
 fCap : Int
 fLeast : Int
 fBlind : Int
 deriving DecidableEq
structure RateBook where
 fLaw : RateLaw
 fBowlers : List Int
 fSheets : List RateSheet
 fWithdrawn : List Int
 deriving DecidableEq
structure RateTurn where
 fBowler : Int
 fWeek : Int
 deriving DecidableEq
structure LadderSpot where
 fMatch : Int
 fPlayer : Int
 deriving DecidableEq
structure LadderCheapest where
 fUpsets : Int
 fOther : Int
 deriving DecidableEq
structure DeskHead where
 fLong : Int
 fCheck : Int
 deriving DecidableEq
abbrev aM1 : List (List UInt8 × DeskAct) := mput ([] : List (List UInt8 × DeskAct)) ([98, 111, 119, 108, 101, 114] : List UInt8) (DeskAct.mk 1 0)
abbrev aM2 : List (List UInt8 × DeskAct) := mput aM1 ([111, 112, 101, 110] : List UInt8) (DeskAct.mk 2 1)
abbrev aM3 : List (List UInt8 × DeskAct) := mput aM2 ([98, 97, 108, 108] : List UInt8) (DeskAct.mk 2 2)
abbrev aM4 : List (List UInt8 × DeskAct) := mput aM3 ([98, 97, 99, 107] : List UInt8) (DeskAct.mk 1 3)
abbrev aM5 : List (List UInt8 × DeskAct) := mput aM4 ([99, 108, 111, 115, 101] : List UInt8) (DeskAct.mk 1 4)
abbrev aM6 : List (List UInt8 × DeskAct) := mput aM5 ([115, 104, 101, 101, 116] : List UInt8) (DeskAct.mk 2 5)
abbrev aM7 : List (List UInt8 × DeskAct) := mput aM6 ([115, 116, 114, 105, 107, 101] : List UInt8) (DeskAct.mk 1 6)
abbrev aM8 : List (List UInt8 × DeskAct) := mput aM7 ([100, 117, 101, 108] : List UInt8) (DeskAct.mk 1 7)
abbrev aM9 : List (List UInt8 × DeskAct) := mput aM8 ([100, 111, 117, 98, 116] : List UInt8) (DeskAct.mk 1 8)
def law12Game (N : Nat)  : Option ((List (List UInt8))) :=
 some ([([98, 111, 119, 108, 101, 114, 32, 55, 48] : List UInt8), ([98, 111, 119, 108, 101, 114, 32, 54, 48] : List UInt8), ([111, 112, 101, 110, 32, 49, 32, 48] : List UInt8), ([98, 97, 108, 108, 32, 49, 32, 49, 48] : List UInt8), ([98, 97, 108, 108, 32, 49, 32, 55] : List UInt8), ([98, 97, 108, 108, 32, 49, 32, 51] : List UInt8), ([98, 97, 108, 108, 32, 49, 32, 52] : List UInt8), ([98, 97, 108, 108, 32, 49, 32, 53] : List UInt8)])
def deskLimitShort (N : Nat) (l1 : Int) (s1 : List UInt8) : Option (Bool) :=
 some (decide ((s1.length : Int) ≤ l1))
def deskAll1 (N : Nat) (x1 : List UInt8) (a1 : Int) : Option (Bool) :=
 Option.bind (deskLimitShort N a1 x1) fun r2 =>
 some (!r2)
def slicesIndexFunc_k1 (N : Nat)   : Option (Int) :=
 some (-1)
def slicesIndexFunc_b2 (N : Nat) (s1 : List (List UInt8)) (f1 : Int) (rec3 : (Int × Int) → Option (Int)) (v17 : Int) (v18 : Int) : Option (Int) :=
 if decide (v18 < v17) then
  Option.bind (idx s1 v18) fun x24 =>
  Option.bind (deskAll1 N x24 f1) fun r24 =>
  if r24 then
   some v18
  else
   rec3 ((v17, w64 (v18 + 1)))
 else
  slicesIndexFunc_k1 N
def slicesIndexFunc (N : Nat) (s1 : List (List UInt8)) (f1 : Int) : Option (Int) :=
 loopN (fun rec3 x => slicesIndexFunc_b2 N s1 f1 rec3 x.1 x.2) N (((s1.length : Int), 0))
def slicesContainsFunc (N : Nat) (s1 : List (List UInt8)) (f1 : Int) : Option (Bool) :=
 Option.bind (slicesIndexFunc N s1 f1) fun r2 =>
 some (decide (0 ≤ r2))
def deskAll (N : Nat) (l1 : List (List UInt8)) (right1 : Int) : Option (Bool) :=
 Option.bind (slicesContainsFunc N l1 right1) fun r2 =>
 some (!r2)
def deskCheck (N : Nat) (lines1 : List (List UInt8)) : Option (Int) :=
 Option.bind (
  if decide (50 < (lines1.length : Int)) then
   some true
  else
   Option.bind (deskAll N lines1 200) fun r4 =>
   some (!r4)
 ) fun v4 =>
 if v4 then
  some 3
 else
  some 0
def deskBegin (N : Nat)  : Option (DeskWork) :=
 Option.bind (app N ([]) ([(DeskLane.mk (-1) ([]))])) fun l10 =>
 Option.bind (app N l10 ([(DeskLane.mk (-1) ([]))])) fun l12 =>
 Option.bind (app N l12 ([(DeskLane.mk (-1) ([]))])) fun l14 =>
 Option.bind (app N l14 ([(DeskLane.mk (-1) ([]))])) fun l16 =>
 some ((DeskWork.mk (DeskState.mk ([]) l16 ([]) ([]) ([]) ([]))))
def deskActs (N : Nat)  : Option ((List (List UInt8 × DeskAct))) :=
 some aM9
def deskAsk (N : Nat) (is1 : Bool) (e1 : Int) : Option (DeskRefusal ⊕ Unit) :=
 if !is1 then
  some (.inl (DeskRefusal.mk e1))
 else
  some (.inr ())
def deskNumber_k1 (N : Nat) (r3 : Int)  : Option (Int ⊕ DeskRefusal) :=
 some (.inl r3)
def deskNumber_k2 (N : Nat) (r4 : Int)  : Option (Int ⊕ DeskRefusal) :=
 some (.inl r4)
def deskNumber (N : Nat) (s1 : List UInt8) : Option (Int ⊕ DeskRefusal) :=
 Option.bind (atoI N s1) fun z2 =>
 match z2 with
 | .inl r3 =>
  Option.bind (itoI N r3) fun r9 =>
  if decide (r9 = s1) then
   Option.bind (trpI N s1 ([45] : List UInt8)) fun r10 =>
   Option.bind (deskAsk N (decide ((r10.length : Int) ≤ 9)) 4) fun z5 =>
   match z5 with
   | .inl r11 =>
    some (.inr r11)
   | .inr _ =>
    deskNumber_k1 N r3
  else
   Option.bind (deskAsk N false 4) fun z6 =>
   match z6 with
   | .inl r12 =>
    some (.inr r12)
   | .inr _ =>
    deskNumber_k1 N r3
 | .inr r4 =>
  Option.bind (deskAsk N false 4) fun z8 =>
  match z8 with
  | .inl r14 =>
   some (.inr r14)
  | .inr _ =>
   deskNumber_k2 N r4
def deskWithin (N : Nat) (n1 : Int) (low1 : Int) (high1 : Int) : Option (Bool) :=
 Option.bind (
  if decide (low1 ≤ n1) then
   some (decide (n1 ≤ high1))
  else
   some false
 ) fun v2 =>
 some v2
def slicesClone0 (N : Nat)  : Option (Unit) :=
 some ()
def slicesClone1 (N : Nat) (s1 : List Int) : Option ((List Int)) :=
 Option.bind (app N ([]) s1) fun l2 =>
 some l2
def slicesClone (N : Nat) (l : List Int) : Option ((List Int)) := slicesClone1 N l
def deskWith (N : Nat) (l1 : List Int) (x1 : Int) : Option ((List Int)) :=
 Option.bind (slicesClone N l1) fun r2 =>
 Option.bind (app N r2 ([x1])) fun l3 =>
 some l3
def slicesCloneX0 (N : Nat)  : Option (Unit) :=
 some ()
def slicesCloneX1 (N : Nat) (s1 : List (List Int)) : Option ((List (List Int))) :=
 Option.bind (app N ([]) s1) fun l2 =>
 some l2
def slicesCloneX (N : Nat) (l : List (List Int)) : Option ((List (List Int))) := slicesCloneX1 N l
def deskWithX (N : Nat) (l1 : List (List Int)) (x1 : List Int) : Option ((List (List Int))) :=
 Option.bind (slicesCloneX N l1) fun r2 =>
 Option.bind (app N r2 ([x1])) fun l3 =>
 some l3
def deskWorkBowler (N : Nat) (n1 : List Int) (c1 : DeskWork) : Option ((DeskRefusal × DeskWork) ⊕ DeskWork) :=
 Option.bind (idx n1 0) fun x2 =>
 Option.bind (deskWithin N x2 0 300) fun r3 =>
 Option.bind (deskAsk N r3 2) fun z2 =>
 match z2 with
 | .inl r4 =>
  some (.inl (r4, c1))
 | .inr _ =>
  Option.bind (deskAsk N (decide ((c1.fState.fBowlers.length : Int) < 8)) 3) fun z4 =>
  match z4 with
  | .inl r6 =>
   some (.inl (r6, c1))
  | .inr _ =>
   Option.bind (deskAsk N (decide ((c1.fState.fResults.length : Int) = 0)) 8) fun z6 =>
   match z6 with
   | .inl r8 =>
    some (.inl (r8, c1))
   | .inr _ =>
    Option.bind (deskWith N c1.fState.fBowlers x2) fun r9 =>
    Option.bind (deskWithX N c1.fState.fKept ([])) fun r10 =>
    some (.inr ((DeskWork.mk (DeskState.mk r9 c1.fState.fLanes r10 c1.fState.fSheets c1.fState.fWithdrawn c1.fState.fResults))))
def deskWorkLane (N : Nat) (n1 : Int) (c1 : DeskWork) : Option (DeskRefusal ⊕ DeskLane) :=
 Option.bind (deskWithin N n1 0 (w64 ((c1.fState.fLanes.length : Int) - 1))) fun r3 =>
 Option.bind (deskAsk N r3 7) fun z2 =>
 match z2 with
 | .inl r4 =>
  some (.inl r4)
 | .inr _ =>
  Option.bind (idx c1.fState.fLanes n1) fun x2 =>
  some (.inr x2)
def deskWorkKnown (N : Nat) (n1 : Int) (c1 : DeskWork) : Option (Bool) :=
 Option.bind (deskWithin N n1 0 (w64 ((c1.fState.fBowlers.length : Int) - 1))) fun r2 =>
 some r2
def deskWorkOpen1 (N : Nat) (y1 : DeskLane) (a1 : List Int) : Option (Bool) :=
 Option.bind (idx a1 1) fun x2 =>
 some (decide (y1.fBowler = x2))
def slicesIndexFuncX_k1 (N : Nat)   : Option (Int) :=
 some (-1)
def slicesIndexFuncX_b2 (N : Nat) (s1 : List DeskLane) (f1 : List Int) (rec3 : (Int × Int) → Option (Int)) (v17 : Int) (v18 : Int) : Option (Int) :=
 if decide (v18 < v17) then
  Option.bind (idx s1 v18) fun x24 =>
  Option.bind (deskWorkOpen1 N x24 f1) fun r24 =>
  if r24 then
   some v18
  else
   rec3 ((v17, w64 (v18 + 1)))
 else
  slicesIndexFuncX_k1 N
def slicesIndexFuncX (N : Nat) (s1 : List DeskLane) (f1 : List Int) : Option (Int) :=
 loopN (fun rec3 x => slicesIndexFuncX_b2 N s1 f1 rec3 x.1 x.2) N (((s1.length : Int), 0))
def slicesContainsFuncX (N : Nat) (s1 : List DeskLane) (f1 : List Int) : Option (Bool) :=
 Option.bind (slicesIndexFuncX N s1 f1) fun r2 =>
 some (decide (0 ≤ r2))
def slicesCloneXX0 (N : Nat)  : Option (Unit) :=
 some ()
def slicesCloneXX1 (N : Nat) (s1 : List DeskLane) : Option ((List DeskLane)) :=
 Option.bind (app N ([]) s1) fun l2 =>
 some l2
def slicesCloneXX (N : Nat) (l : List DeskLane) : Option ((List DeskLane)) := slicesCloneXX1 N l
def deskWorkPut (N : Nat) (lane1 : Int) (x1 : DeskLane) (c1 : DeskWork) : Option (DeskWork) :=
 Option.bind (slicesCloneXX N c1.fState.fLanes) fun r2 =>
 Option.bind (idx r2 lane1) fun x2 =>
 some ((DeskWork.mk (DeskState.mk c1.fState.fBowlers (List.set r2 (Int.toNat lane1) x1) c1.fState.fKept c1.fState.fSheets c1.fState.fWithdrawn c1.fState.fResults)))
def deskWorkOpen_k1 (N : Nat) (n1 : List Int) (c1 : DeskWork)  : Option ((DeskRefusal × DeskWork) ⊕ DeskWork) :=
 Option.bind (idx n1 0) fun x5 =>
 Option.bind (idx n1 1) fun x6 =>
 Option.bind (deskWorkPut N x5 ((DeskLane.mk x6 ([]))) c1) fun r12 =>
 some (.inr r12)
def deskWorkOpen (N : Nat) (n1 : List Int) (c1 : DeskWork) : Option ((DeskRefusal × DeskWork) ⊕ DeskWork) :=
 Option.bind (idx n1 0) fun x2 =>
 Option.bind (deskWorkLane N x2 c1) fun z2 =>
 match z2 with
 | .inl r3 =>
  some (.inl (r3, c1))
 | .inr r4 =>
  Option.bind (idx n1 1) fun x4 =>
  Option.bind (deskWorkKnown N x4 c1) fun r7 =>
  Option.bind (deskAsk N r7 7) fun z4 =>
  match z4 with
  | .inl r8 =>
   some (.inl (r8, c1))
  | .inr _ =>
   if decide (r4.fBowler = (-1)) then
    Option.bind (slicesContainsFuncX N c1.fState.fLanes n1) fun r13 =>
    Option.bind (deskAsk N (!r13) 6) fun z7 =>
    match z7 with
    | .inl r14 =>
     some (.inl (r14, c1))
    | .inr _ =>
     deskWorkOpen_k1 N n1 c1
   else
    Option.bind (deskAsk N false 6) fun z8 =>
    match z8 with
    | .inl r15 =>
     some (.inl (r15, c1))
    | .inr _ =>
     deskWorkOpen_k1 N n1 c1
def deskWorkUsed (N : Nat) (n1 : Int) (c1 : DeskWork) : Option (DeskRefusal ⊕ DeskLane) :=
 Option.bind (deskWorkLane N n1 c1) fun z2 =>
 match z2 with
 | .inl r3 =>
  some (.inl r3)
 | .inr r4 =>
  Option.bind (deskAsk N (!decide (r4.fBowler = (-1))) 8) fun z4 =>
  match z4 with
  | .inl r6 =>
   some (.inl r6)
  | .inr _ =>
   some (.inr r4)
def deskLaw (N : Nat)  : Option (FrameLaw) :=
 some (FrameLaw.mk 3 10 2 10)
def frameWithin (N : Nat) (n1 : Int) (low1 : Int) (high1 : Int) : Option (Bool) :=
 Option.bind (
  if decide (low1 ≤ n1) then
   some (decide (n1 ≤ high1))
  else
   some false
 ) fun v2 =>
 some v2
def frameCheckLaw (N : Nat) (l1 : FrameLaw) : Option (Int) :=
 Option.bind (
  Option.bind (frameWithin N l1.fFrames 1 10) fun r13 =>
  if !r13 then
   some true
  else
   Option.bind (frameWithin N l1.fPins 1 10) fun r14 =>
   if !r14 then
    some true
   else
    Option.bind (frameWithin N l1.fBalls 2 3) fun r15 =>
    if !r15 then
     some true
    else
     Option.bind (frameWithin N l1.fTap 1 l1.fPins) fun r16 =>
     some (!r16)
 ) fun v4 =>
 if v4 then
  none
 else
  some 0
def frameLawBalls (N : Nat) (l1 : FrameLaw) (sheet1 : List Int) : Option (FrameLaw × (List Int)) :=
 some (l1, sheet1)
def frameLawBegin (N : Nat) (l1 : FrameLaw) : Option (FramePlay) :=
 some ((FramePlay.mk l1 (FrameAt.mk 0 0 l1.fPins true l1.fBalls (Ar2.mk 0 0))))
def framePlayDone (N : Nat) (p1 : FramePlay) : Option (Bool) :=
 some (decide (p1.fAt.fFrame = p1.fLaw.fFrames))
def framePlayMay (N : Nat) (p1 : FramePlay) (ball1 : Int) : Option (Bool) :=
 Option.bind (
  Option.bind (framePlayDone N p1) fun r3 =>
  if !r3 then
   Option.bind (frameWithin N ball1 (-1) p1.fAt.fStanding) fun r4 =>
   some r4
  else
   some false
 ) fun v2 =>
 some v2
def framePlayNext (N : Nat) (p1 : FramePlay) (ball1 : Int) : Option (FramePlay × Int × Int) :=
 Option.bind (
  Option.bind (
   if p1.fAt.fFresh then
    some ((max 0 ball1, decide (p1.fLaw.fTap ≤ (max 0 ball1))))
   else
    some (max 0 ball1, false)
  ) fun (n6, v4) =>
  if v4 then
   some p1.fLaw.fPins
  else
   some n6
 ) fun n4 =>
 Option.bind (
  Option.bind (
   if decide (p1.fAt.fFrame = (w64 (p1.fLaw.fFrames - 1))) then
    if decide ((w64 (p1.fAt.fStanding - n4)) = 0) then
     some ((w64 (n4 * (w64 (1 + p1.fAt.fAfter.a0))), decide ((w64 (p1.fAt.fStanding - n4)) = 0), decide (p1.fAt.fFrame = (w64 (p1.fLaw.fFrames - 1))), decide ((w64 (p1.fAt.fThrown + 1)) < 3), (FramePlay.mk p1.fLaw (FrameAt.mk p1.fAt.fFrame (w64 (p1.fAt.fThrown + 1)) (w64 (p1.fAt.fStanding - n4)) false p1.fAt.fNeed (Ar2.mk p1.fAt.fAfter.a1 0)))))
    else
     some ((w64 (n4 * (w64 (1 + p1.fAt.fAfter.a0))), decide ((w64 (p1.fAt.fStanding - n4)) = 0), decide (p1.fAt.fFrame = (w64 (p1.fLaw.fFrames - 1))), false, (FramePlay.mk p1.fLaw (FrameAt.mk p1.fAt.fFrame (w64 (p1.fAt.fThrown + 1)) (w64 (p1.fAt.fStanding - n4)) false p1.fAt.fNeed (Ar2.mk p1.fAt.fAfter.a1 0)))))
   else
    some ((w64 (n4 * (w64 (1 + p1.fAt.fAfter.a0))), decide ((w64 (p1.fAt.fStanding - n4)) = 0), decide (p1.fAt.fFrame = (w64 (p1.fLaw.fFrames - 1))), false, (FramePlay.mk p1.fLaw (FrameAt.mk p1.fAt.fFrame (w64 (p1.fAt.fThrown + 1)) (w64 (p1.fAt.fStanding - n4)) false p1.fAt.fNeed (Ar2.mk p1.fAt.fAfter.a1 0)))))
  ) fun (worth6, down6, last6, v12, p7) =>
  if v12 then
   some ((worth6, down6, last6, (FramePlay.mk p7.fLaw (FrameAt.mk p7.fAt.fFrame p7.fAt.fThrown p7.fLaw.fPins true 3 p7.fAt.fAfter))))
  else
   Option.bind (
    if !last6 then
     if down6 then
      some (decide (p7.fAt.fThrown = 1))
     else
      some false
    else
     some false
   ) fun v14 =>
   if v14 then
    some ((worth6, down6, last6, (FramePlay.mk p7.fLaw (FrameAt.mk p7.fAt.fFrame p7.fAt.fThrown p7.fAt.fStanding p7.fAt.fFresh p7.fAt.fNeed (Ar2.mk (w64 (p7.fAt.fAfter.a0 + 1)) (w64 (p7.fAt.fAfter.a1 + 1)))))))
   else
    Option.bind (
     if !last6 then
      if down6 then
       some (decide (p7.fAt.fThrown = 2))
      else
       some false
     else
      some false
    ) fun v16 =>
    if v16 then
     some ((worth6, down6, last6, (FramePlay.mk p7.fLaw (FrameAt.mk p7.fAt.fFrame p7.fAt.fThrown p7.fAt.fStanding p7.fAt.fFresh p7.fAt.fNeed (Ar2.mk (w64 (p7.fAt.fAfter.a0 + 1)) p7.fAt.fAfter.a1)))))
    else
     some (worth6, down6, last6, p7)
 ) fun (worth4, down4, last4, p5) =>
 Option.bind (
  Option.bind (
   if decide (p5.fAt.fThrown = p5.fAt.fNeed) then
    some true
   else
    if !last4 then
     some down4
    else
     some false
  ) fun v20 =>
  if v20 then
   some ((FramePlay.mk p5.fLaw (FrameAt.mk (w64 (p5.fAt.fFrame + 1)) 0 p5.fLaw.fPins true p5.fLaw.fBalls p5.fAt.fAfter)))
  else
   some p5
 ) fun p9 =>
 some (p9, n4, worth4)
def frameLawBad_b1 (N : Nat) (rb16 : List Int) (rec3 : (Int × Int × FramePlay × Int) → Option (Int)) (v17 : Int) (v18 : Int) (c17 : FramePlay) (c18 : Int) : Option (Int) :=
 if decide (v18 < v17) then
  Option.bind (idx rb16 v18) fun x24 =>
  Option.bind (framePlayMay N c17 x24) fun r52 =>
  if !r52 then
   some c18
  else
   Option.bind (framePlayNext N c17 x24) fun (ra28, rb28, rc26) =>
   rec3 ((v17, w64 (v18 + 1), ra28, w64 (v18 + 1)))
 else
  some c18
def frameLawBad (N : Nat) (l1 : FrameLaw) (sheet1 : List Int) : Option (Int) :=
 Option.bind (
  Option.bind (frameLawBalls N l1 sheet1) fun (ra16, rb16) =>
  Option.bind (frameLawBegin N ra16) fun r28 =>
  loopN (fun rec3 x => frameLawBad_b1 N rb16 rec3 x.1 x.2.1 x.2.2.1 x.2.2.2) N (((rb16.length : Int), 0, r28, 0))
 ) fun c10 =>
 some c10
def frameLawCheck (N : Nat) (l1 : FrameLaw) (sheet1 : List Int) : Option (Int) :=
 Option.bind (frameCheckLaw N l1) fun r6 =>
 if !decide (r6 = 0) then
  none
 else
  if decide (40 < (sheet1.length : Int)) then
   none
  else
   Option.bind (frameLawBad N l1 sheet1) fun r8 =>
   if decide (r8 < (sheet1.length : Int)) then
    some 10
   else
    some 0
def frameSum_b1 (N : Nat) (l1 : List Int) (rec3 : (Int × Int × Int) → Option (Int)) (n10 : Int) (v17 : Int) (v18 : Int) : Option (Int) :=
 if decide (v18 < v17) then
  Option.bind (idx l1 v18) fun x24 =>
  rec3 ((w64 (n10 + x24), v17, w64 (v18 + 1)))
 else
  some n10
def frameSum (N : Nat) (l1 : List Int) : Option (Int) :=
 Option.bind (
  loopN (fun rec3 x => frameSum_b1 N l1 rec3 x.1 x.2.1 x.2.2) N ((0, (l1.length : Int), 0))
 ) fun n6 =>
 some n6
def frameLawCounts_b1 (N : Nat) (l1 : FrameLaw) (rb16 : List Int) (rec3 : (Int × Int × FramePlay × (List Int) × (List Int) × (List Int) × (List Int)) → Option ((List Int) × (List Int) × (List Int))) (end10 : Int) (n9 : Int) (c8 : FramePlay) (l598 : List Int) (l599 : List Int) (l600 : List Int) (l601 : List Int) : Option ((List Int) × (List Int) × (List Int)) :=
 if decide (n9 < end10) then
  Option.bind (idx rb16 n9) fun x288 =>
  Option.bind (framePlayMay N c8 x288) fun r140 =>
  if !r140 then
   some (l598, l599, l600)
  else
   Option.bind (framePlayNext N c8 x288) fun (ra28, rb28, rc26) =>
   Option.bind (
    Option.bind (app N l598 ([rb28])) fun l705 =>
    Option.bind (idx l601 c8.fAt.fFrame) fun x308 =>
    if decide (c8.fAt.fFrame < ra28.fAt.fFrame) then
     Option.bind (app N l599 ([w64 (n9 + 1)])) fun l707 =>
     Option.bind (app N l600 ([0])) fun l709 =>
     Option.bind (idx ((List.set l601 (Int.toNat c8.fAt.fFrame) (w64 (x308 + 1)))) c8.fAt.fFrame) fun x310 =>
     Option.bind (slc l705 (w64 ((w64 (n9 + 1)) - x310)) (l705.length : Int)) fun l711 =>
     Option.bind (frameSum N l711) fun r148 =>
     Option.bind (
      if decide (c8.fAt.fFrame < (w64 (l1.fFrames - 1))) then
       if decide (r148 = l1.fPins) then
        some ((decide (x310 < 3), (List.set l601 (Int.toNat c8.fAt.fFrame) (w64 (x308 + 1)))))
       else
        some ((false, (List.set l601 (Int.toNat c8.fAt.fFrame) (w64 (x308 + 1)))))
      else
       some ((false, (List.set l601 (Int.toNat c8.fAt.fFrame) (w64 (x308 + 1)))))
     ) fun (v96, l713) =>
     if v96 then
      Option.bind (idx l713 c8.fAt.fFrame) fun x311 =>
      Option.bind (idx l709 c8.fAt.fFrame) fun x312 =>
      some ((l705, l707, (List.set l709 (Int.toNat c8.fAt.fFrame) (w64 (3 - x311))), l713))
     else
      some (l705, l707, l709, l713)
    else
     some ((l705, l599, l600, (List.set l601 (Int.toNat c8.fAt.fFrame) (w64 (x308 + 1)))))
   ) fun (l700, l701, l702, l703) =>
   rec3 ((end10, w64 (n9 + 1), ra28, l700, l701, l702, l703))
 else
  some (l598, l599, l600)
def frameLawCounts_k2 (N : Nat)  (l742 : List Int) : Option ((List Int)) :=
 some l742
def frameLawCounts_b3 (N : Nat) (l359 : List Int) (l360 : List Int) (l361 : List Int) (rec5 : (Int × Int × Int × (List Int)) → Option ((List Int))) (from8 : Int) (v113 : Int) (v114 : Int) (l762 : List Int) : Option ((List Int)) :=
 if decide (v114 < v113) then
  Option.bind (idx l360 v114) fun x394 =>
  Option.bind (idx l361 v114) fun x398 =>
  if decide ((l359.length : Int) < (w64 (x394 + x398))) then
   some l762
  else
   Option.bind (slc l359 from8 (w64 (x394 + x398))) fun l768 =>
   Option.bind (frameSum N l768) fun r186 =>
   Option.bind (
    if decide (0 < v114) then
     Option.bind (idx l762 (w64 (v114 - 1))) fun x400 =>
     Option.bind (frameSum N ([r186, x400])) fun r188 =>
     some r188
    else
     some r186
   ) fun n28 =>
   Option.bind (app N l762 ([n28])) fun l770 =>
   rec5 ((x394, v113, w64 (v114 + 1), l770))
 else
  frameLawCounts_k2 N l762
def frameLawCounts (N : Nat) (l1 : FrameLaw) (sheet1 : List Int) : Option ((List Int)) :=
 Option.bind (mkl N l1.fFrames 0) fun l3 =>
 Option.bind (
  Option.bind (frameLawBalls N l1 sheet1) fun (ra16, rb16) =>
  Option.bind (frameLawBegin N ra16) fun r76 =>
  loopN (fun rec3 x => frameLawCounts_b1 N l1 rb16 rec3 x.1 x.2.1 x.2.2.1 x.2.2.2.1 x.2.2.2.2.1 x.2.2.2.2.2.1 x.2.2.2.2.2.2) N (((rb16.length : Int), 0, r76, [], [], [], l3))
 ) fun (l359, l360, l361) =>
 loopN (fun rec5 x => frameLawCounts_b3 N l359 l360 l361 rec5 x.1 x.2.1 x.2.2.1 x.2.2.2) N ((0, (l360.length : Int), 0, []))
def frameLawBehind_b1 (N : Nat) (rb16 : List Int) (rec3 : (Int × Int × FramePlay × FramePlay) → Option (FramePlay)) (v17 : Int) (v18 : Int) (c8 : FramePlay) (p10 : FramePlay) : Option (FramePlay) :=
 if decide (v18 < v17) then
  Option.bind (idx rb16 v18) fun x24 =>
  Option.bind (framePlayMay N c8 x24) fun r54 =>
  if !r54 then
   some p10
  else
   Option.bind (framePlayNext N c8 x24) fun (ra28, rb28, rc26) =>
   rec3 ((v17, w64 (v18 + 1), ra28, ra28))
 else
  some p10
def frameLawBehind (N : Nat) (l1 : FrameLaw) (sheet1 : List Int) : Option (FramePlay) :=
 Option.bind (frameLawBegin N l1) fun r2 =>
 Option.bind (
  Option.bind (frameLawBalls N l1 sheet1) fun (ra16, rb16) =>
  Option.bind (frameLawBegin N ra16) fun r30 =>
  loopN (fun rec3 x => frameLawBehind_b1 N rb16 rec3 x.1 x.2.1 x.2.2.1 x.2.2.2) N (((rb16.length : Int), 0, r30, r2))
 ) fun p6 =>
 some p6
def frameRead_b1 (N : Nat) (rb16 : List Int) (rec3 : (Int × Int × FramePlay × (List (List Int))) → Option ((List (List Int)))) (v17 : Int) (v18 : Int) (c8 : FramePlay) (l179 : List (List Int)) : Option ((List (List Int))) :=
 if decide (v18 < v17) then
  Option.bind (idx rb16 v18) fun x68 =>
  Option.bind (framePlayMay N c8 x68) fun r58 =>
  if !r58 then
   some l179
  else
   Option.bind (framePlayNext N c8 x68) fun (ra28, rb28, rc26) =>
   Option.bind (
    if decide (c8.fAt.fFrame = (l179.length : Int)) then
     Option.bind (app N l179 [[]]) fun l218 =>
     some l218
    else
     some l179
   ) fun l217 =>
   Option.bind (idx l217 c8.fAt.fFrame) fun x72 =>
   Option.bind (app N x72 ([x68])) fun l219 =>
   rec3 ((v17, w64 (v18 + 1), ra28, (List.set l217 (Int.toNat c8.fAt.fFrame) l219)))
 else
  some l179
def frameRead (N : Nat) (l1 : FrameLaw) (balls1 : List Int) : Option (FrameGame × Int) :=
 Option.bind (frameLawCheck N l1 balls1) fun r4 =>
 if !decide (r4 = 0) then
  some (((FrameGame.mk ([]) ([]) 0 false), r4))
 else
  Option.bind (frameLawCounts N l1 balls1) fun r6 =>
  Option.bind (
   Option.bind (frameLawBalls N l1 balls1) fun (ra16, rb16) =>
   Option.bind (frameLawBegin N ra16) fun r34 =>
   loopN (fun rec3 x => frameRead_b1 N rb16 rec3 x.1 x.2.1 x.2.2.1 x.2.2.2) N (((rb16.length : Int), 0, r34, []))
  ) fun l111 =>
  Option.bind (frameLawBehind N l1 balls1) fun r60 =>
  Option.bind (
   Option.bind (framePlayDone N r60) fun r64 =>
   if !r64 then
    some (r60.fAt.fStanding, r64)
   else
    some (0, r64)
  ) fun (c11, c12) =>
  some (((FrameGame.mk l111 r6 c11 c12), 0))
def deskWorkBall (N : Nat) (n1 : List Int) (c1 : DeskWork) : Option ((DeskRefusal × DeskWork) ⊕ DeskWork) :=
 Option.bind (idx n1 0) fun x2 =>
 Option.bind (deskWorkUsed N x2 c1) fun z2 =>
 match z2 with
 | .inl r3 =>
  some (.inl (r3, c1))
 | .inr r4 =>
  Option.bind (idx n1 1) fun x4 =>
  Option.bind (deskWith N r4.fBalls x4) fun r6 =>
  Option.bind (
   Option.bind (deskLaw N) fun r8 =>
   Option.bind (frameRead N r8 r6) fun (ra2, rb2) =>
   some rb2
  ) fun e2 =>
  Option.bind (deskAsk N (decide (e2 = 0)) 10) fun z4 =>
  match z4 with
  | .inl r10 =>
   some (.inl (r10, c1))
  | .inr _ =>
   Option.bind (idx n1 0) fun x5 =>
   Option.bind (deskWorkPut N x5 (DeskLane.mk r4.fBowler r6) c1) fun r11 =>
   some (.inr r11)
def deskWorkBack (N : Nat) (n1 : List Int) (c1 : DeskWork) : Option ((DeskRefusal × DeskWork) ⊕ DeskWork) :=
 Option.bind (idx n1 0) fun x2 =>
 Option.bind (deskWorkUsed N x2 c1) fun z2 =>
 match z2 with
 | .inl r3 =>
  some (.inl (r3, c1))
 | .inr r4 =>
  Option.bind (deskAsk N (decide (0 < (r4.fBalls.length : Int))) 8) fun z4 =>
  match z4 with
  | .inl r6 =>
   some (.inl (r6, c1))
  | .inr _ =>
   Option.bind (slc r4.fBalls 0 (w64 ((r4.fBalls.length : Int) - 1))) fun l2 =>
   Option.bind (slicesClone N l2) fun r8 =>
   Option.bind (deskWorkPut N x2 (DeskLane.mk r4.fBowler r8) c1) fun r9 =>
   some (.inr r9)
def deskWorkPutX (N : Nat) (lane1 : Int) (x1 : DeskLane) (c1 : List Int) (c2 : List DeskLane) (c3 : List RateSheet) (c4 : List Int) (c5 : List LadderResult) (l1 : List (List Int)) : Option ((List Int) × (List DeskLane) × (List (List Int)) × (List RateSheet) × (List Int) × (List LadderResult) × (List (List Int))) :=
 Option.bind (slicesCloneXX N c2) fun r2 =>
 Option.bind (idx r2 lane1) fun x2 =>
 some ((c1, (List.set r2 (Int.toNat lane1) x1), l1, c3, c4, c5, l1))
def deskWorkClose (N : Nat) (n1 : List Int) (c1 : DeskWork) : Option ((DeskRefusal × DeskWork) ⊕ DeskWork) :=
 Option.bind (idx n1 0) fun x2 =>
 Option.bind (deskWorkUsed N x2 c1) fun z2 =>
 match z2 with
 | .inl r3 =>
  some (.inl (r3, c1))
 | .inr r4 =>
  Option.bind (
   Option.bind (deskLaw N) fun r6 =>
   Option.bind (frameRead N r6 r4.fBalls) fun (ra2, rb2) =>
   some ra2
  ) fun c3 =>
  Option.bind (deskAsk N c3.fDone 8) fun z4 =>
  match z4 with
  | .inl r8 =>
   some (.inl (r8, c1))
  | .inr _ =>
   Option.bind (slicesCloneX N c1.fState.fKept) fun r10 =>
   Option.bind (idx r10 r4.fBowler) fun x5 =>
   Option.bind (idx c3.fCounts (w64 ((c3.fCounts.length : Int) - 1))) fun x6 =>
   Option.bind (deskWith N x5 x6) fun r12 =>
   Option.bind (idx n1 0) fun x7 =>
   Option.bind (deskWorkPutX N x7 ((DeskLane.mk (-1) ([]))) c1.fState.fBowlers c1.fState.fLanes c1.fState.fSheets c1.fState.fWithdrawn c1.fState.fResults ((List.set r10 (Int.toNat r4.fBowler) r12))) fun (ra3, rb3, rc1, rd1, re1, rf1, rg1) =>
   some (.inr ((DeskWork.mk (DeskState.mk ra3 rb3 rc1 rd1 re1 rf1))))
def slicesCloneXXX0 (N : Nat)  : Option (Unit) :=
 some ()
def slicesCloneXXX1 (N : Nat) (s1 : List RateSheet) : Option ((List RateSheet)) :=
 Option.bind (app N ([]) s1) fun l2 =>
 some l2
def slicesCloneXXX (N : Nat) (l : List RateSheet) : Option ((List RateSheet)) := slicesCloneXXX1 N l
def deskWithXX (N : Nat) (l1 : List RateSheet) (x1 : RateSheet) : Option ((List RateSheet)) :=
 Option.bind (
  Option.bind (slicesCloneXXX N l1) fun r2 =>
  Option.bind (app N r2 ([x1])) fun l5 =>
  some l5
 ) fun l4 =>
 some l4
def deskWorkSheet (N : Nat) (n1 : List Int) (c1 : DeskWork) : Option ((DeskRefusal × DeskWork) ⊕ DeskWork) :=
 Option.bind (idx n1 0) fun x2 =>
 Option.bind (deskWithin N x2 1 30) fun r3 =>
 Option.bind (deskAsk N r3 2) fun z2 =>
 match z2 with
 | .inl r4 =>
  some (.inl (r4, c1))
 | .inr _ =>
  Option.bind (idx n1 1) fun x4 =>
  Option.bind (deskWorkKnown N x4 c1) fun r7 =>
  Option.bind (deskAsk N r7 7) fun z4 =>
  match z4 with
  | .inl r8 =>
   some (.inl (r8, c1))
  | .inr _ =>
   Option.bind (idx c1.fState.fKept x4) fun x6 =>
   Option.bind (deskAsk N (decide (3 ≤ (x6.length : Int))) 8) fun z6 =>
   match z6 with
   | .inl r10 =>
    some (.inl (r10, c1))
   | .inr _ =>
    Option.bind (deskAsk N (decide ((c1.fState.fSheets.length : Int) < 40)) 3) fun z8 =>
    match z8 with
    | .inl r12 =>
     some (.inl (r12, c1))
    | .inr _ =>
     Option.bind (
      some ((RateSheet.mk (w64 ((c1.fState.fSheets.length : Int) + 1)) x4 x2 (Ar3.mk 0 0 0)))
     ) fun c3 =>
     Option.bind (
      Option.bind (slc x6 (w64 ((x6.length : Int) - 3)) (x6.length : Int)) fun l2 =>
      Option.bind (idx l2 0) fun x10 =>
      Option.bind (idx l2 1) fun x11 =>
      Option.bind (idx l2 2) fun x12 =>
      some ((w64 ((x6.length : Int) - 3), (RateSheet.mk c3.fNumber c3.fBowler c3.fWeek (Ar3.mk x10 x11 x12))))
     ) fun (from2, c5) =>
     Option.bind (slicesCloneX N c1.fState.fKept) fun r14 =>
     Option.bind (idx n1 1) fun x15 =>
     Option.bind (slc x6 0 from2) fun l4 =>
     Option.bind (slicesClone N l4) fun r16 =>
     Option.bind (idx r14 x15) fun x16 =>
     Option.bind (deskWithXX N c1.fState.fSheets c5) fun r17 =>
     some (.inr ((DeskWork.mk (DeskState.mk c1.fState.fBowlers c1.fState.fLanes (List.set r14 (Int.toNat x15) r16) r17 c1.fState.fWithdrawn c1.fState.fResults))))
def cmpIsNaN (N : Nat) (x1 : Int) : Option (Bool) :=
 some (!decide (x1 = x1))
def cmpLess (N : Nat) (x1 : Int) (y1 : Int) : Option (Bool) :=
 Option.bind (
  Option.bind (cmpIsNaN N x1) fun r3 =>
  if r3 then
   Option.bind (cmpIsNaN N y1) fun r4 =>
   if !r4 then
    some true
   else
    some (decide (x1 < y1))
  else
   some (decide (x1 < y1))
 ) fun v2 =>
 some v2
def slicesIsNaN (N : Nat) (x1 : Int) : Option (Bool) :=
 some (!decide (x1 = x1))
def slicesBinarySearch_k1 (N : Nat) (x1 : List Int) (target1 : Int) (n12 : Int) (i9 : Int) (j10 : Int) (rec3 : (Int × Int × Int) → Option (Int × Int))  : Option (Int × Int) :=
 Option.bind (idx x1 (w64 (shrI .u64 (Go.IntKind.wrap .u64 (w64 (i9 + j10))) 1))) fun x13 =>
 Option.bind (cmpLess N x13 target1) fun r12 =>
 if r12 then
  rec3 ((n12, w64 ((w64 (shrI .u64 (Go.IntKind.wrap .u64 (w64 (i9 + j10))) 1)) + 1), j10))
 else
  rec3 ((n12, i9, w64 (shrI .u64 (Go.IntKind.wrap .u64 (w64 (i9 + j10))) 1)))
def slicesBinarySearch_b2 (N : Nat) (x1 : List Int) (target1 : Int) (rec3 : (Int × Int × Int) → Option (Int × Int)) (n12 : Int) (i9 : Int) (j10 : Int) : Option (Int × Int) :=
 if decide (i9 < j10) then
  slicesBinarySearch_k1 N x1 target1 n12 i9 j10 rec3
 else
  some (n12, i9)
def slicesBinarySearch (N : Nat) (x1 : List Int) (target1 : Int) : Option (Int × Bool) :=
 Option.bind (
  loopN (fun rec3 x => slicesBinarySearch_b2 N x1 target1 rec3 x.1 x.2.1 x.2.2) N (((x1.length : Int), 0, (x1.length : Int)))
 ) fun (n7, i5) =>
 Option.bind (
  if decide (i5 < n7) then
   Option.bind (idx x1 i5) fun x15 =>
   if decide (x15 = target1) then
    some true
   else
    Option.bind (slicesIsNaN N x15) fun r15 =>
    if r15 then
     Option.bind (slicesIsNaN N target1) fun r16 =>
     some r16
    else
     some false
  else
   some false
 ) fun v2 =>
 some (i5, v2)
def deskWorkStrike (N : Nat) (n1 : List Int) (c1 : DeskWork) : Option ((DeskRefusal × DeskWork) ⊕ DeskWork) :=
 Option.bind (idx n1 0) fun x2 =>
 Option.bind (deskWithin N x2 1 (c1.fState.fSheets.length : Int)) fun r3 =>
 Option.bind (deskAsk N r3 7) fun z2 =>
 match z2 with
 | .inl r4 =>
  some (.inl (r4, c1))
 | .inr _ =>
  Option.bind (slicesBinarySearch N c1.fState.fWithdrawn x2) fun (ra2, rb2) =>
  Option.bind (deskAsk N (!rb2) 6) fun z4 =>
  match z4 with
  | .inl r6 =>
   some (.inl (r6, c1))
  | .inr _ =>
   Option.bind (slicesClone N c1.fState.fWithdrawn) fun r7 =>
   Option.bind (insZ N ra2 r7 ([x2])) fun r8 =>
   some (.inr ((DeskWork.mk (DeskState.mk c1.fState.fBowlers c1.fState.fLanes c1.fState.fKept c1.fState.fSheets r8 c1.fState.fResults))))
def deskWorkCup (N : Nat) (c1 : DeskWork) : Option (LadderCup) :=
 some ((LadderCup.mk 1 (c1.fState.fBowlers.length : Int) 1 c1.fState.fResults))
def ladderCupDraw1 (N : Nat) (r1 : LadderResult) : Option (Bool) :=
 some (decide ((r1.fGames.length : Int) ≤ 5))
def ladderAll1 (N : Nat) (x1 : LadderResult) : Option (Bool) :=
 Option.bind (ladderCupDraw1 N x1) fun r2 =>
 some (!r2)
def slicesIndexFuncXX_k1 (N : Nat)   : Option (Int) :=
 some (-1)
def slicesIndexFuncXX_b2 (N : Nat) (s1 : List LadderResult) (rec3 : (Int × Int) → Option (Int)) (v17 : Int) (v18 : Int) : Option (Int) :=
 if decide (v18 < v17) then
  Option.bind (idx s1 v18) fun x24 =>
  Option.bind (ladderAll1 N x24) fun r24 =>
  if r24 then
   some v18
  else
   rec3 ((v17, w64 (v18 + 1)))
 else
  slicesIndexFuncXX_k1 N
def slicesIndexFuncXX (N : Nat) (s1 : List LadderResult) : Option (Int) :=
 loopN (fun rec3 x => slicesIndexFuncXX_b2 N s1 rec3 x.1 x.2) N (((s1.length : Int), 0))
def slicesContainsFuncXX (N : Nat) (s1 : List LadderResult) : Option (Bool) :=
 Option.bind (slicesIndexFuncXX N s1) fun r2 =>
 some (decide (0 ≤ r2))
def ladderAll (N : Nat) (l1 : List LadderResult) : Option (Bool) :=
 Option.bind (slicesContainsFuncXX N l1) fun r2 =>
 some (!r2)
def ladderWithin (N : Nat) (n1 : Int) (low1 : Int) (high1 : Int) : Option (Bool) :=
 Option.bind (
  if decide (low1 ≤ n1) then
   some (decide (n1 ≤ high1))
  else
   some false
 ) fun v2 =>
 some v2
def ladderCupCheck (N : Nat) (c1 : LadderCup) : Option (Int) :=
 Option.bind (
  if decide (1 < c1.fForm) then
   some true
  else
   Option.bind (ladderWithin N c1.fPlayers 2 16) fun r7 =>
   if !r7 then
    some true
   else
    Option.bind (ladderWithin N c1.fGames 1 5) fun r8 =>
    if !r8 then
     some true
    else
     some (decide ((Int.tmod c1.fGames 2) = 0))
 ) fun v4 =>
 if v4 then
  none
 else
  some 0
def ladderCupDraw2 (N : Nat) (r1 : LadderResult) (a1 : LadderCup) : Option (Bool) :=
 Option.bind (
  Option.bind (ladderWithin N r1.fMatch 0 (w64 (a1.fPlayers - 2))) fun r3 =>
  if r3 then
   some (decide (0 < (r1.fGames.length : Int)))
  else
   some false
 ) fun v2 =>
 some v2
def ladderAll1X (N : Nat) (x1 : LadderResult) (a1 : LadderCup) : Option (Bool) :=
 Option.bind (ladderCupDraw2 N x1 a1) fun r2 =>
 some (!r2)
def slicesIndexFuncXXX_k1 (N : Nat)   : Option (Int) :=
 some (-1)
def slicesIndexFuncXXX_b2 (N : Nat) (s1 : List LadderResult) (f1 : LadderCup) (rec3 : (Int × Int) → Option (Int)) (v17 : Int) (v18 : Int) : Option (Int) :=
 if decide (v18 < v17) then
  Option.bind (idx s1 v18) fun x24 =>
  Option.bind (ladderAll1X N x24 f1) fun r24 =>
  if r24 then
   some v18
  else
   rec3 ((v17, w64 (v18 + 1)))
 else
  slicesIndexFuncXXX_k1 N
def slicesIndexFuncXXX (N : Nat) (s1 : List LadderResult) (f1 : LadderCup) : Option (Int) :=
 loopN (fun rec3 x => slicesIndexFuncXXX_b2 N s1 f1 rec3 x.1 x.2) N (((s1.length : Int), 0))
def slicesContainsFuncXXX (N : Nat) (s1 : List LadderResult) (f1 : LadderCup) : Option (Bool) :=
 Option.bind (slicesIndexFuncXXX N s1 f1) fun r2 =>
 some (decide (0 ≤ r2))
def ladderAllX (N : Nat) (l1 : List LadderResult) (right1 : LadderCup) : Option (Bool) :=
 Option.bind (slicesContainsFuncXXX N l1 right1) fun r2 =>
 some (!r2)
def ladderPlayer (N : Nat) (n1 : Int) : Option (LadderSide) :=
 some ((LadderSide.mk n1 (-1)))
def ladderCupLadder_b1 (N : Nat)  (rec3 : (Int × (List LadderPair)) → Option ((List LadderPair))) (last10 : Int) (l11 : List LadderPair) : Option ((List LadderPair)) :=
 if decide (1 < last10) then
  none
 else
  some l11
def ladderCupLadder (N : Nat) (c1 : LadderCup) : Option ((List LadderPair)) :=
 Option.bind (ladderPlayer N (w64 ((w64 (c1.fPlayers - 1)) - 1))) fun r3 =>
 Option.bind (ladderPlayer N (w64 (c1.fPlayers - 1))) fun r4 =>
 Option.bind (
  loopN (fun rec3 x => ladderCupLadder_b1 N rec3 x.1 x.2) N ((w64 (c1.fPlayers - 1), [(LadderPair.mk r3 r4)]))
 ) fun l6 =>
 some l6
def ladderCupTree (N : Nat) (c1 : LadderCup) : Option ((List LadderPair)) :=
 if decide (c1.fForm = 1) then
  Option.bind (ladderCupLadder N c1) fun r4 =>
  some r4
 else
  none
def ladderSides (N : Nat)  : Option (Unit) :=
 some ()
def ladderPairFirst (N : Nat) (p1 : LadderPair) : Option (LadderSide) :=
 some p1.fFirst
def ladderPairSecond (N : Nat) (p1 : LadderPair) : Option (LadderSide) :=
 some p1.fSecond
def ladderDrawFillX_b1 (N : Nat) (c5 : List LadderPair) (m1 : List (Int × LadderResult)) (rec3 : (Int × Int × (List (Ar2 Int))) → Option ((List (Ar2 Int)))) (v37 : Int) (v38 : Int) (l29 : List (Ar2 Int)) : Option ((List (Ar2 Int))) :=
 if decide (v38 < v37) then
  Option.bind (idx c5 v38) fun x24 =>
  Option.bind (ladderSides N) fun _ =>
  Option.bind (ladderPairFirst N x24) fun r188 =>
  if decide (r188.fMatch = (-1)) then
   Option.bind (ladderPairSecond N x24) fun r192 =>
   if decide (r192.fMatch = (-1)) then
    Option.bind (app N l29 ([(Ar2.mk r188.fPlayer r192.fPlayer)])) fun l33 =>
    Option.bind (mgt m1 v38 ((LadderResult.mk 0 ([]) false))) fun (v42, is24) =>
    if is24 then
     none
    else
     rec3 ((v37, w64 (v38 + 1), l33))
   else
    none
  else
   none
 else
  some l29
def ladderDrawFillX (N : Nat) (c1 : Int) (c2 : Int) (c3 : Int) (c4 : List LadderResult) (c5 : List LadderPair) (m1 : List (Int × LadderResult)) : Option (Bool × Int × Int × Int × (List LadderResult) × (List LadderPair) × (List (Ar2 Int))) :=
 Option.bind (
  loopN (fun rec3 x => ladderDrawFillX_b1 N c5 m1 rec3 x.1 x.2.1 x.2.2) N (((c5.length : Int), 0, []))
 ) fun l17 =>
 some (true, c1, c2, c3, c4, c5, l17)
def ladderCupDraw_b1 (N : Nat) (c1 : LadderCup) (rec3 : (Int) → Option (Unit)) (v18 : Int) : Option (Unit) :=
 if decide (0 < v18) then
  Option.bind (idx c1.fResults 0) fun x24 =>
  none
 else
  some ()
def ladderCupDraw_b2 (N : Nat) (c1 : LadderCup) (rec5 : (Int) → Option (Unit)) (v28 : Int) : Option (Unit) :=
 if decide (0 < v28) then
  Option.bind (idx c1.fResults 0) fun x48 =>
  none
 else
  some ()
def ladderCupDraw (N : Nat) (c1 : LadderCup) : Option (Int × Int × Int × Int × (List LadderResult) × (List LadderPair) × (List (Int × LadderResult)) × (List (Ar2 Int))) :=
 Option.bind (
  if decide (15 < (c1.fResults.length : Int)) then
   some true
  else
   Option.bind (ladderAll N c1.fResults) fun r8 =>
   some (!r8)
 ) fun v6 =>
 if v6 then
  none
 else
  Option.bind (
   Option.bind (ladderCupCheck N c1) fun r11 =>
   if !decide (r11 = 0) then
    some true
   else
    Option.bind (ladderAllX N c1.fResults c1) fun r12 =>
    some (!r12)
  ) fun v8 =>
  if v8 then
   none
  else
   Option.bind (ladderCupTree N c1) fun r14 =>
   Option.bind (
    loopN (fun rec3 x => ladderCupDraw_b1 N c1 rec3 x) N (c1.fResults.length : Int)
   ) fun _ =>
   Option.bind (ladderDrawFillX N c1.fForm c1.fPlayers c1.fGames c1.fResults r14 (([] : List (Int × LadderResult)))) fun (ra4, rb4, rc4, rd4, re4, rf4, rg4) =>
   if !ra4 then
    none
   else
    some ((0, rb4, rc4, rd4, re4, rf4, ([] : List (Int × LadderResult)), rg4))
def ladderDrawOpen (N : Nat) (c1 : Int) (c2 : Int) (c3 : Int) (c4 : List LadderResult) (c5 : List LadderPair) (m1 : List (Int × LadderResult)) (l1 : List (Ar2 Int)) : Option (Unit) :=
 some ()
def ladderDrawWon (N : Nat) (match1 : Int) (c1 : Int) (c2 : Int) (c3 : Int) (c4 : List LadderResult) (c5 : List LadderPair) (m1 : List (Int × LadderResult)) (l1 : List (Ar2 Int)) : Option (Int) :=
 Option.bind (mgt m1 match1 ((LadderResult.mk 0 ([]) false))) fun (v2, is2) =>
 if !is2 then
  some (-1)
 else
  none
def ladderDrawScore_b1 (N : Nat) (games1 : List Int) (rec7 : (Int) → Option (Unit)) (v30 : Int) : Option (Unit) :=
 if decide (0 < v30) then
  Option.bind (idx games1 0) fun x76 =>
  none
 else
  some ()
def ladderDrawScore_b2 (N : Nat) (games1 : List Int) (rec9 : (Int) → Option (Unit)) (v40 : Int) : Option (Unit) :=
 if decide (0 < v40) then
  Option.bind (idx games1 0) fun x100 =>
  none
 else
  some ()
def ladderDrawScore (N : Nat) (match1 : Int) (games1 : List Int) (c1 : Int) (c2 : Int) (c3 : Int) (c4 : List LadderResult) (c5 : List LadderPair) (m1 : List (Int × LadderResult)) (l1 : List (Ar2 Int)) : Option ((Ar2 Int)) :=
 Option.bind (idx l1 match1) fun x52 =>
 Option.bind (
  loopN (fun rec7 x => ladderDrawScore_b1 N games1 rec7 x) N (games1.length : Int)
 ) fun _ =>
 Option.bind (
  loopN (fun rec9 x => ladderDrawScore_b2 N games1 rec9 x) N (games1.length : Int)
 ) fun _ =>
 some (Ar2.mk 0 0)
def slicesAppendSeq_b1 (N : Nat) (c1 : Int) (c2 : Int) (c3 : Int) (c4 : List LadderResult) (c5 : List LadderPair) (m1 : List (Int × LadderResult)) (l1 : List (Ar2 Int)) (rec3 : (Int × Int × (List LadderMatch)) → Option ((List LadderMatch))) (v77 : Int) (v78 : Int) (l40 : List LadderMatch) : Option ((List LadderMatch)) :=
 if decide (v78 < v77) then
  Option.bind (
   Option.bind (idx l1 v78) fun x24 =>
   Option.bind (
    if decide (x24.a0 = (-1)) then
     some true
    else
     if decide (x24.a1 = (-1)) then
      some true
     else
      Option.bind (ladderDrawWon N v78 c1 c2 c3 c4 c5 m1 l1) fun r70 =>
      some (!decide (r70 = (-1)))
   ) fun v88 =>
   if v88 then
    some l40
   else
    Option.bind (
     Option.bind (mgt m1 v78 ((LadderResult.mk 0 ([]) false))) fun (v90, is24) =>
     Option.bind (ladderDrawScore N v78 v90.fGames c1 c2 c3 c4 c5 m1 l1) fun r72 =>
     some r72
    ) fun c29 =>
    Option.bind (app N l40 ([(LadderMatch.mk v78 x24.a0 x24.a1 c29.a0 c29.a1)])) fun l46 =>
    some l46
  ) fun l44 =>
  rec3 ((v77, w64 (v78 + 1), l44))
 else
  some l40
def slicesAppendSeq (N : Nat) (c1 : Int) (c2 : Int) (c3 : Int) (c4 : List LadderResult) (c5 : List LadderPair) (m1 : List (Int × LadderResult)) (l1 : List (Ar2 Int)) : Option ((List LadderMatch)) :=
 Option.bind (
  loopN (fun rec3 x => slicesAppendSeq_b1 N c1 c2 c3 c4 c5 m1 l1 rec3 x.1 x.2.1 x.2.2) N (((l1.length : Int), 0, []))
 ) fun l24 =>
 some l24
def slicesCollect (N : Nat) (c1 : Int) (c2 : Int) (c3 : Int) (c4 : List LadderResult) (c5 : List LadderPair) (m1 : List (Int × LadderResult)) (l1 : List (Ar2 Int)) : Option ((List LadderMatch)) :=
 Option.bind (slicesAppendSeq N c1 c2 c3 c4 c5 m1 l1) fun r2 =>
 some r2
def ladderNext (N : Nat) (c1 : LadderCup) : Option ((List LadderMatch) × Int) :=
 Option.bind (ladderCupDraw N c1) fun (ra2, rb2, rc2, rd2, re2, rf2, rg2, rh2) =>
 if !decide (ra2 = 0) then
  none
 else
  Option.bind (ladderDrawOpen N rb2 rc2 rd2 re2 rf2 rg2 rh2) fun _ =>
  Option.bind (slicesCollect N rb2 rc2 rd2 re2 rf2 rg2 rh2) fun r2 =>
  some (r2, 0)
def slicesCloneXXXX0 (N : Nat)  : Option (Unit) :=
 some ()
def slicesCloneXXXX1 (N : Nat) (s1 : List LadderResult) : Option ((List LadderResult)) :=
 Option.bind (app N ([]) s1) fun l2 =>
 some l2
def slicesCloneXXXX (N : Nat) (l : List LadderResult) : Option ((List LadderResult)) := slicesCloneXXXX1 N l
def deskWithXXX (N : Nat) (l1 : List LadderResult) (x1 : LadderResult) : Option ((List LadderResult)) :=
 Option.bind (
  Option.bind (slicesCloneXXXX N l1) fun r2 =>
  Option.bind (app N r2 ([x1])) fun l5 =>
  some l5
 ) fun l4 =>
 some l4
def deskWorkDuel_k1 (N : Nat) (n1 : List Int) (c1 : DeskWork) (ra2 : List LadderMatch)  : Option ((DeskRefusal × DeskWork) ⊕ DeskWork) :=
 Option.bind (idx ra2 0) fun x3 =>
 Option.bind (idx n1 0) fun x4 =>
 Option.bind (deskWithXXX N c1.fState.fResults ((LadderResult.mk x3.fNumber ([x4]) false))) fun r7 =>
 some (.inr ((DeskWork.mk (DeskState.mk c1.fState.fBowlers c1.fState.fLanes c1.fState.fKept c1.fState.fSheets c1.fState.fWithdrawn r7))))
def deskWorkDuel (N : Nat) (n1 : List Int) (c1 : DeskWork) : Option ((DeskRefusal × DeskWork) ⊕ DeskWork) :=
 Option.bind (deskWorkCup N c1) fun r2 =>
 Option.bind (ladderNext N r2) fun (ra2, rb2) =>
 Option.bind (deskAsk N (decide (0 < (ra2.length : Int))) 8) fun z2 =>
 match z2 with
 | .inl r4 =>
  some (.inl (r4, c1))
 | .inr _ =>
  Option.bind (idx n1 0) fun x5 =>
  Option.bind (idx ra2 0) fun x6 =>
  if decide (x5 = x6.fFirst) then
   Option.bind (deskAsk N true 10) fun z5 =>
   match z5 with
   | .inl r8 =>
    some (.inl (r8, c1))
   | .inr _ =>
    deskWorkDuel_k1 N n1 c1 ra2
  else
   Option.bind (deskAsk N (decide (x5 = x6.fSecond)) 10) fun z6 =>
   match z6 with
   | .inl r9 =>
    some (.inl (r9, c1))
   | .inr _ =>
    deskWorkDuel_k1 N n1 c1 ra2
def deskWorkDoubt1 (N : Nat) (r1 : LadderResult) (a1 : List Int) : Option (Bool) :=
 Option.bind (idx a1 0) fun x2 =>
 some (decide (r1.fMatch = x2))
def slicesIndexFuncXXXX_k1 (N : Nat)   : Option (Int) :=
 some (-1)
def slicesIndexFuncXXXX_b2 (N : Nat) (s1 : List LadderResult) (f1 : List Int) (rec3 : (Int × Int) → Option (Int)) (v17 : Int) (v18 : Int) : Option (Int) :=
 if decide (v18 < v17) then
  Option.bind (idx s1 v18) fun x24 =>
  Option.bind (deskWorkDoubt1 N x24 f1) fun r24 =>
  if r24 then
   some v18
  else
   rec3 ((v17, w64 (v18 + 1)))
 else
  slicesIndexFuncXXXX_k1 N
def slicesIndexFuncXXXX (N : Nat) (s1 : List LadderResult) (f1 : List Int) : Option (Int) :=
 loopN (fun rec3 x => slicesIndexFuncXXXX_b2 N s1 f1 rec3 x.1 x.2) N (((s1.length : Int), 0))
def deskWorkDoubt (N : Nat) (n1 : List Int) (c1 : DeskWork) : Option ((DeskRefusal × DeskWork) ⊕ DeskWork) :=
 Option.bind (slicesIndexFuncXXXX N c1.fState.fResults n1) fun r2 =>
 Option.bind (deskAsk N (decide (0 ≤ r2)) 7) fun z2 =>
 match z2 with
 | .inl r4 =>
  some (.inl (r4, c1))
 | .inr _ =>
  Option.bind (idx c1.fState.fResults r2) fun x2 =>
  Option.bind (deskAsk N (!x2.fProtested) 6) fun z4 =>
  match z4 with
  | .inl r6 =>
   some (.inl (r6, c1))
  | .inr _ =>
   Option.bind (slicesCloneXXXX N c1.fState.fResults) fun r8 =>
   Option.bind (idx r8 r2) fun x3 =>
   some (.inr ((DeskWork.mk (DeskState.mk c1.fState.fBowlers c1.fState.fLanes c1.fState.fKept c1.fState.fSheets c1.fState.fWithdrawn (List.set r8 (Int.toNat r2) (LadderResult.mk x3.fMatch x3.fGames true))))))
def deskWorkLine_k1 (N : Nat) (c1 : DeskWork) (c3 : DeskAct) (l13 : List Int) : Option ((DeskRefusal × DeskWork) ⊕ DeskWork) :=
 if decide (c3.fDo = 0) then
  Option.bind (deskWorkBowler N l13 c1) fun z9 =>
  match z9 with
  | .inl (ra1, rb1) =>
   some (.inl (ra1, rb1))
  | .inr r19 =>
   some (.inr r19)
 else
  if decide (c3.fDo = 1) then
   Option.bind (deskWorkOpen N l13 c1) fun z10 =>
   match z10 with
   | .inl (ra2, rb2) =>
    some (.inl (ra2, rb2))
   | .inr r20 =>
    some (.inr r20)
  else
   if decide (c3.fDo = 2) then
    Option.bind (deskWorkBall N l13 c1) fun z11 =>
    match z11 with
    | .inl (ra3, rb3) =>
     some (.inl (ra3, rb3))
    | .inr r21 =>
     some (.inr r21)
   else
    if decide (c3.fDo = 3) then
     Option.bind (deskWorkBack N l13 c1) fun z12 =>
     match z12 with
     | .inl (ra4, rb4) =>
      some (.inl (ra4, rb4))
     | .inr r22 =>
      some (.inr r22)
    else
     if decide (c3.fDo = 4) then
      Option.bind (deskWorkClose N l13 c1) fun z13 =>
      match z13 with
      | .inl (ra5, rb5) =>
       some (.inl (ra5, rb5))
      | .inr r23 =>
       some (.inr r23)
     else
      if decide (c3.fDo = 5) then
       Option.bind (deskWorkSheet N l13 c1) fun z14 =>
       match z14 with
       | .inl (ra6, rb6) =>
        some (.inl (ra6, rb6))
       | .inr r24 =>
        some (.inr r24)
      else
       if decide (c3.fDo = 6) then
        Option.bind (deskWorkStrike N l13 c1) fun z15 =>
        match z15 with
        | .inl (ra7, rb7) =>
         some (.inl (ra7, rb7))
        | .inr r25 =>
         some (.inr r25)
       else
        if decide (c3.fDo = 7) then
         Option.bind (deskWorkDuel N l13 c1) fun z16 =>
         match z16 with
         | .inl (ra8, rb8) =>
          some (.inl (ra8, rb8))
         | .inr r26 =>
          some (.inr r26)
        else
         if decide (c3.fDo = 8) then
          Option.bind (deskWorkDoubt N l13 c1) fun z17 =>
          match z17 with
          | .inl (ra9, rb9) =>
           some (.inl (ra9, rb9))
          | .inr r27 =>
           some (.inr r27)
         else
          none
def deskWorkLine_b2 (N : Nat) (c1 : DeskWork) (c3 : DeskAct) (l15 : List (List UInt8)) (rec3 : (Int × Int × (List Int)) → Option ((DeskRefusal × DeskWork) ⊕ DeskWork)) (v19 : Int) (v20 : Int) (l23 : List Int) : Option ((DeskRefusal × DeskWork) ⊕ DeskWork) :=
 if decide (v20 < v19) then
  Option.bind (idx l15 v20) fun x26 =>
  Option.bind (deskNumber N x26) fun z23 =>
  match z23 with
  | .inl r38 =>
   Option.bind (app N l23 ([r38])) fun l25 =>
   rec3 ((v19, w64 (v20 + 1), l25))
  | .inr r39 =>
   some (.inl (r39, c1))
 else
  deskWorkLine_k1 N c1 c3 l23
def deskWorkLine_k3 (N : Nat) (c1 : DeskWork) (r2 : List (List UInt8)) (c3 : DeskAct)  : Option ((DeskRefusal × DeskWork) ⊕ DeskWork) :=
 Option.bind (slc r2 1 (r2.length : Int)) fun l15 =>
 loopN (fun rec3 x => deskWorkLine_b2 N c1 c3 l15 rec3 x.1 x.2.1 x.2.2) N (((l15.length : Int), 0, []))
def deskWorkLine (N : Nat) (s1 : List UInt8) (c1 : DeskWork) : Option ((DeskRefusal × DeskWork) ⊕ DeskWork) :=
 Option.bind (splI N s1 ([32] : List UInt8)) fun r2 =>
 Option.bind (
  Option.bind (idx r2 0) fun x2 =>
  Option.bind (deskActs N) fun r4 =>
  Option.bind (mgt r4 x2 ((DeskAct.mk 0 (-1)))) fun (v2, is4) =>
  some (is4, v2)
 ) fun (is3, c3) =>
 if is3 then
  Option.bind (deskAsk N (decide ((r2.length : Int) = (w64 (c3.fMany + 1)))) 4) fun z24 =>
  match z24 with
  | .inl r40 =>
   some (.inl (r40, c1))
  | .inr _ =>
   deskWorkLine_k3 N c1 r2 c3
 else
  Option.bind (deskAsk N false 4) fun z25 =>
  match z25 with
  | .inl r41 =>
   some (.inl (r41, c1))
  | .inr _ =>
   deskWorkLine_k3 N c1 r2 c3
def deskWorkNext (N : Nat) (s1 : List UInt8) (c1 : DeskWork) : Option (Int × DeskWork) :=
 match deskWorkLine N s1 c1 with
 | none => none
 | some (.inl r) => some (r.1.fE, c1)
 | some (.inr r) => some (0, r)
def deskPlay_b1 (N : Nat) (lines1 : List (List UInt8)) (rec3 : (Int × Int × DeskWork × (List Int)) → Option (DeskWork × (List Int))) (v17 : Int) (v18 : Int) (c9 : DeskWork) (l19 : List Int) : Option (DeskWork × (List Int)) :=
 if decide (v18 < v17) then
  Option.bind (idx lines1 v18) fun x24 =>
  Option.bind (deskWorkNext N x24 c9) fun (ra12, rb12) =>
  Option.bind (app N l19 ([ra12])) fun l21 =>
  rec3 ((v17, w64 (v18 + 1), rb12, l21))
 else
  some (c9, l19)
def deskPlay (N : Nat) (lines1 : List (List UInt8)) : Option ((List Int) × DeskWork) :=
 Option.bind (deskBegin N) fun r2 =>
 Option.bind (
  loopN (fun rec3 x => deskPlay_b1 N lines1 rec3 x.1 x.2.1 x.2.2.1 x.2.2.2) N (((lines1.length : Int), 0, r2, []))
 ) fun (c5, l11) =>
 some (l11, c5)
def frameLawTotal_b1 (N : Nat) (sheet1 : List Int) (rec3 : (Int × Int × Int × FramePlay) → Option (Int)) (n10 : Int) (v17 : Int) (v18 : Int) (p8 : FramePlay) : Option (Int) :=
 if decide (v18 < v17) then
  Option.bind (idx sheet1 v18) fun x24 =>
  Option.bind (framePlayNext N p8 x24) fun (ra24, rb24, rc24) =>
  Option.bind (frameSum N ([n10, rc24])) fun r14 =>
  rec3 ((r14, v17, w64 (v18 + 1), ra24))
 else
  some n10
def frameLawTotal (N : Nat) (l1 : FrameLaw) (sheet1 : List Int) : Option (Int) :=
 Option.bind (frameLawBegin N l1) fun r2 =>
 Option.bind (
  loopN (fun rec3 x => frameLawTotal_b1 N sheet1 rec3 x.1 x.2.1 x.2.2.1 x.2.2.2) N ((0, (sheet1.length : Int), 0, r2))
 ) fun n6 =>
 some n6
def framePlayLeast (N : Nat) (p1 : FramePlay) : Option (Int) :=
 some 0
def frameLawFinal_b1 (N : Nat)  (rec3 : (Int × FramePlay) → Option (Int)) (n10 : Int) (p8 : FramePlay) : Option (Int) :=
 Option.bind (framePlayDone N p8) fun r62 =>
 if !r62 then
  Option.bind (
   Option.bind (framePlayLeast N p8) fun r67 =>
   Option.bind (framePlayNext N p8 r67) fun (ra24, rb24, rc24) =>
   some (rc24, ra24)
  ) fun (worth24, now24) =>
  Option.bind (frameSum N ([n10, worth24])) fun r68 =>
  rec3 (r68, now24)
 else
  some n10
def frameLawFinal (N : Nat) (l1 : FrameLaw) (sheet1 : List Int) : Option (Int) :=
 Option.bind (frameLawTotal N l1 sheet1) fun r2 =>
 Option.bind (
  Option.bind (frameLawBehind N l1 sheet1) fun r37 =>
  loopN (fun rec3 x => frameLawFinal_b1 N rec3 x.1 x.2) N (r2, r37)
 ) fun n6 =>
 some n6
def framePlayMost (N : Nat) (p1 : FramePlay) : Option (Int) :=
 some p1.fAt.fStanding
def frameLawFinalX_b1 (N : Nat)  (rec3 : (Int × FramePlay) → Option (Int)) (n10 : Int) (p8 : FramePlay) : Option (Int) :=
 Option.bind (framePlayDone N p8) fun r62 =>
 if !r62 then
  Option.bind (
   Option.bind (framePlayMost N p8) fun r67 =>
   Option.bind (framePlayNext N p8 r67) fun (ra24, rb24, rc24) =>
   some (rc24, ra24)
  ) fun (worth24, now24) =>
  Option.bind (frameSum N ([n10, worth24])) fun r68 =>
  rec3 (r68, now24)
 else
  some n10
def frameLawFinalX (N : Nat) (l1 : FrameLaw) (sheet1 : List Int) : Option (Int) :=
 Option.bind (frameLawTotal N l1 sheet1) fun r2 =>
 Option.bind (
  Option.bind (frameLawBehind N l1 sheet1) fun r37 =>
  loopN (fun rec3 x => frameLawFinalX_b1 N rec3 x.1 x.2) N (r2, r37)
 ) fun n6 =>
 some n6
def frameLawSpan (N : Nat) (l1 : FrameLaw) (sheet1 : List Int) : Option (FrameRange) :=
 Option.bind (
  Option.bind (frameLawFinal N l1 sheet1) fun r3 =>
  Option.bind (frameLawFinalX N l1 sheet1) fun r4 =>
  some (FrameRange.mk r3 r4)
 ) fun c2 =>
 some c2
def frameSpan (N : Nat) (l1 : FrameLaw) (balls1 : List Int) : Option (FrameRange × Int) :=
 Option.bind (frameLawCheck N l1 balls1) fun r4 =>
 if !decide (r4 = 0) then
  none
 else
  Option.bind (frameLawSpan N l1 balls1) fun r6 =>
  some (r6, 0)
def deskBoard (N : Nat) (lines1 : List (List UInt8)) (lane1 : Int) : Option ((List Int) × Int × Int × Int) :=
 Option.bind (deskCheck N lines1) fun r4 =>
 if !decide (r4 = 0) then
  none
 else
  Option.bind (deskPlay N lines1) fun (ra2, rb2) =>
  Option.bind (
   Option.bind (deskWithin N lane1 0 (w64 ((rb2.fState.fLanes.length : Int) - 1))) fun r8 =>
   if !r8 then
    some true
   else
    Option.bind (idx rb2.fState.fLanes lane1) fun x4 =>
    some (decide (x4.fBowler = (-1)))
  ) fun v4 =>
  if v4 then
   some ([], 0, 0, 7)
  else
   Option.bind (idx rb2.fState.fLanes lane1) fun x6 =>
   Option.bind (deskLaw N) fun r10 =>
   Option.bind (frameRead N r10 x6.fBalls) fun (ra4, rb4) =>
   Option.bind (deskLaw N) fun r12 =>
   Option.bind (frameSpan N r12 x6.fBalls) fun (ra6, rb6) =>
   some (ra4.fCounts, ra6.fLo, ra6.fHi, 0)
def deskWorkBook (N : Nat) (c1 : DeskWork) : Option (RateBook) :=
 some ((RateBook.mk (RateLaw.mk 90 80 40 3 5) c1.fState.fBowlers c1.fState.fSheets c1.fState.fWithdrawn))
def rateWithin (N : Nat) (n1 : Int) (low1 : Int) (high1 : Int) : Option (Bool) :=
 Option.bind (
  if decide (low1 ≤ n1) then
   some (decide (n1 ≤ high1))
  else
   some false
 ) fun v2 =>
 some v2
def rateCount (N : Nat) (n1 : Int) : Option (Bool) :=
 Option.bind (rateWithin N n1 0 300) fun r2 =>
 some r2
def rateLawValid (N : Nat) (l1 : RateLaw) : Option (Bool) :=
 Option.bind (
  Option.bind (rateCount N l1.fBase) fun r6 =>
  if r6 then
   Option.bind (rateWithin N l1.fPercent 0 100) fun r7 =>
   if r7 then
    Option.bind (rateCount N l1.fCap) fun r8 =>
    if r8 then
     Option.bind (rateWithin N l1.fLeast 1 30) fun r9 =>
     if r9 then
      Option.bind (rateCount N l1.fBlind) fun r10 =>
      some r10
     else
      some false
    else
     some false
   else
    some false
  else
   some false
 ) fun v2 =>
 some v2
def rateAll1 (N : Nat) (x1 : Int) : Option (Bool) :=
 Option.bind (rateCount N x1) fun r2 =>
 some (!r2)
def slicesIndexFuncXXXXX_k1 (N : Nat)   : Option (Int) :=
 some (-1)
def slicesIndexFuncXXXXX_b2 (N : Nat) (s1 : List Int) (rec3 : (Int × Int) → Option (Int)) (v17 : Int) (v18 : Int) : Option (Int) :=
 if decide (v18 < v17) then
  Option.bind (idx s1 v18) fun x24 =>
  Option.bind (rateAll1 N x24) fun r24 =>
  if r24 then
   some v18
  else
   rec3 ((v17, w64 (v18 + 1)))
 else
  slicesIndexFuncXXXXX_k1 N
def slicesIndexFuncXXXXX (N : Nat) (s1 : List Int) : Option (Int) :=
 loopN (fun rec3 x => slicesIndexFuncXXXXX_b2 N s1 rec3 x.1 x.2) N (((s1.length : Int), 0))
def slicesContainsFuncXXXX (N : Nat) (s1 : List Int) : Option (Bool) :=
 Option.bind (slicesIndexFuncXXXXX N s1) fun r2 =>
 some (decide (0 ≤ r2))
def rateAll (N : Nat) (l1 : List Int) : Option (Bool) :=
 Option.bind (slicesContainsFuncXXXX N l1) fun r2 =>
 some (!r2)
def slicesIndexFuncXXXXXX_b1 (N : Nat) (s1 : List RateSheet) (rec3 : (Int) → Option (Unit)) (v10 : Int) : Option (Unit) :=
 if decide (0 < v10) then
  Option.bind (idx s1 0) fun x24 =>
  none
 else
  some ()
def slicesIndexFuncXXXXXX (N : Nat) (s1 : List RateSheet) (f1 : RateBook) : Option (Int) :=
 Option.bind (
  loopN (fun rec3 x => slicesIndexFuncXXXXXX_b1 N s1 rec3 x) N (s1.length : Int)
 ) fun _ =>
 some (-1)
def slicesContainsFuncXXXXX (N : Nat) (s1 : List RateSheet) (f1 : RateBook) : Option (Bool) :=
 Option.bind (slicesIndexFuncXXXXXX N s1 f1) fun r2 =>
 some (decide (0 ≤ r2))
def rateAllX (N : Nat) (l1 : List RateSheet) (right1 : RateBook) : Option (Bool) :=
 Option.bind (slicesContainsFuncXXXXX N l1 right1) fun r2 =>
 some (!r2)
def slicesIndexFuncXXXXXXX_b1 (N : Nat) (s1 : List Int) (rec3 : (Int) → Option (Unit)) (v10 : Int) : Option (Unit) :=
 if decide (0 < v10) then
  Option.bind (idx s1 0) fun x24 =>
  none
 else
  some ()
def slicesIndexFuncXXXXXXX (N : Nat) (s1 : List Int) : Option (Int) :=
 Option.bind (
  loopN (fun rec3 x => slicesIndexFuncXXXXXXX_b1 N s1 rec3 x) N (s1.length : Int)
 ) fun _ =>
 some (-1)
def slicesContainsFuncXXXXXX (N : Nat) (s1 : List Int) : Option (Bool) :=
 Option.bind (slicesIndexFuncXXXXXXX N s1) fun r2 =>
 some (decide (0 ≤ r2))
def rateAllXX (N : Nat) (l1 : List Int) : Option (Bool) :=
 Option.bind (slicesContainsFuncXXXXXX N l1) fun r2 =>
 some (!r2)
def rateRising_b1 (N : Nat)  (rec3 : (Int) → Option (Unit)) (v10 : Int) : Option (Unit) :=
 if decide (0 < v10) then
  none
 else
  some ()
def rateRising (N : Nat) (l1 : List Int) : Option (Bool) :=
 Option.bind (
  loopN (fun rec3 x => rateRising_b1 N rec3 x) N (l1.length : Int)
 ) fun _ =>
 some true
def rateCheckBook_b1 (N : Nat) (b1 : RateBook) (rec3 : (Int) → Option (Unit)) (v18 : Int) : Option (Unit) :=
 if decide (0 < v18) then
  Option.bind (idx b1.fSheets 0) fun x24 =>
  none
 else
  some ()
def rateCheckBook (N : Nat) (b1 : RateBook) : Option (Int) :=
 Option.bind (
  if decide (8 < (b1.fBowlers.length : Int)) then
   some true
  else
   if decide (40 < (b1.fSheets.length : Int)) then
    some true
   else
    some (decide (40 < (b1.fWithdrawn.length : Int)))
 ) fun v6 =>
 if v6 then
  none
 else
  Option.bind (
   Option.bind (rateLawValid N b1.fLaw) fun r16 =>
   if !r16 then
    some true
   else
    Option.bind (rateAll N b1.fBowlers) fun r17 =>
    if !r17 then
     some true
    else
     Option.bind (rateAllX N b1.fSheets b1) fun r18 =>
     if !r18 then
      some true
     else
      Option.bind (rateAllXX N b1.fWithdrawn) fun r19 =>
      if !r19 then
       some true
      else
       Option.bind (rateRising N b1.fWithdrawn) fun r20 =>
       some (!r20)
  ) fun v8 =>
  if v8 then
   none
  else
   Option.bind (
    loopN (fun rec3 x => rateCheckBook_b1 N b1 rec3 x) N (b1.fSheets.length : Int)
   ) fun _ =>
   some 0
def rateBookRead_b1 (N : Nat) (b1 : RateBook) (rec3 : (Int) → Option (Unit)) (v10 : Int) : Option (Unit) :=
 if decide (0 < v10) then
  Option.bind (idx b1.fSheets 0) fun x24 =>
  none
 else
  some ()
def rateBookRead (N : Nat) (b1 : RateBook) : Option (Int × Int × Int × Int × Int × Int × (List Int) × (List RateSheet) × (List Int) × (List (RateTurn × RateSheet))) :=
 Option.bind (rateCheckBook N b1) fun r4 =>
 if !decide (r4 = 0) then
  none
 else
  Option.bind (
   loopN (fun rec3 x => rateBookRead_b1 N b1 rec3 x) N (b1.fSheets.length : Int)
  ) fun _ =>
  some ((0, b1.fLaw.fBase, b1.fLaw.fPercent, b1.fLaw.fCap, b1.fLaw.fLeast, b1.fLaw.fBlind, b1.fBowlers, b1.fSheets, b1.fWithdrawn, ([] : List (RateTurn × RateSheet))))
def rateBookBowler (N : Nat) (b1 : RateBook) (n1 : Int) : Option (Bool) :=
 Option.bind (rateWithin N n1 0 (w64 ((b1.fBowlers.length : Int) - 1))) fun r2 =>
 some r2
def rateWeek (N : Nat) (n1 : Int) : Option (Bool) :=
 Option.bind (rateWithin N n1 1 30) fun r2 =>
 some r2
def rateBookAsked (N : Nat) (b1 : RateBook) (bowler1 : Int) (w1 : Int) : Option (Int × Int × Int × Int × Int × Int × (List Int) × (List RateSheet) × (List Int) × (List (RateTurn × RateSheet))) :=
 Option.bind (rateBookRead N b1) fun (ra2, rb2, rc2, rd2, re2, rf2, rg2, rh2, ri2, rj2) =>
 Option.bind (
  Option.bind (
   if decide (ra2 = 0) then
    Option.bind (rateBookBowler N b1 bowler1) fun r7 =>
    if !r7 then
     some true
    else
     Option.bind (rateWeek N w1) fun r8 =>
     some (!r8)
   else
    some false
  ) fun v4 =>
  if v4 then
   some 2
  else
   some ra2
 ) fun e2 =>
 some (e2, rb2, rc2, rd2, re2, rf2, rg2, rh2, ri2, rj2)
def rateSum_b1 (N : Nat) (l1 : List Int) (rec3 : (Int) → Option (Unit)) (v10 : Int) : Option (Unit) :=
 if decide (0 < v10) then
  Option.bind (idx l1 0) fun x24 =>
  none
 else
  some ()
def rateSum (N : Nat) (l1 : List Int) : Option (Int) :=
 Option.bind (
  loopN (fun rec3 x => rateSum_b1 N l1 rec3 x) N (l1.length : Int)
 ) fun _ =>
 some 0
def rateReadCounting (N : Nat) (bowler1 : Int) (before1 : Int) (c1 : Int) (c2 : Int) (c3 : Int) (c4 : Int) (c5 : Int) (c6 : List Int) (c7 : List RateSheet) (c8 : List Int) (m1 : List (RateTurn × RateSheet)) : Option (Int × Int) :=
 some (before1, bowler1)
def rateReadAverage_b1 (N : Nat) (m1 : List (RateTurn × RateSheet)) (ra4 : Int) (rb4 : Int) (rec3 : (Int × Int) → Option (Int)) (games8 : Int) (c39 : Int) : Option (Int) :=
 if decide (games8 < ra4) then
  Option.bind (
   Option.bind (mgt m1 (RateTurn.mk rb4 games8) ((RateSheet.mk 0 0 0 (Ar3.mk 0 0 0)))) fun (v24, is24) =>
   some (is24, v24)
  ) fun (besides25, c43) =>
  if besides25 then
   none
  else
   rec3 ((w64 (games8 + 1), c39))
 else
  some c39
def rateReadAverage (N : Nat) (bowler1 : Int) (before1 : Int) (besides1 : List Int) (c1 : Int) (c2 : Int) (c3 : Int) (c4 : Int) (c5 : Int) (c6 : List Int) (c7 : List RateSheet) (c8 : List Int) (m1 : List (RateTurn × RateSheet)) : Option (Int) :=
 Option.bind (rateSum N besides1) fun r2 =>
 Option.bind (
  Option.bind (rateReadCounting N bowler1 before1 c1 c2 c3 c4 c5 c6 c7 c8 m1) fun (ra4, rb4) =>
  loopN (fun rec3 x => rateReadAverage_b1 N m1 ra4 rb4 rec3 x.1 x.2) N ((0, (besides1.length : Int)))
 ) fun c26 =>
 if decide (c26 < c4) then
  Option.bind (idx c6 bowler1) fun x4 =>
  some x4
 else
  none
def rateAverage (N : Nat) (b1 : RateBook) (bowler1 : Int) (week1 : Int) : Option (Int × Int) :=
 Option.bind (rateBookAsked N b1 bowler1 week1) fun (ra2, rb2, rc2, rd2, re2, rf2, rg2, rh2, ri2, rj2) =>
 if !decide (ra2 = 0) then
  some (0, ra2)
 else
  Option.bind (rateReadAverage N bowler1 week1 ([]) rb2 rc2 rd2 re2 rf2 rg2 rh2 ri2 rj2) fun r2 =>
  some (r2, 0)
def rateReadHandicap (N : Nat) (bowler1 : Int) (before1 : Int) (c1 : Int) (c2 : Int) (c3 : Int) (c4 : Int) (c5 : Int) (c6 : List Int) (c7 : List RateSheet) (c8 : List Int) (m1 : List (RateTurn × RateSheet)) : Option (Int) :=
 Option.bind (rateReadAverage N bowler1 before1 ([]) c1 c2 c3 c4 c5 c6 c7 c8 m1) fun r2 =>
 some (min (max 0 (w64 (Int.tdiv (w64 ((w64 (c1 - r2)) * c2)) 100))) c3)
def rateHandicap (N : Nat) (b1 : RateBook) (bowler1 : Int) (week1 : Int) : Option (Int × Int) :=
 Option.bind (rateBookAsked N b1 bowler1 week1) fun (ra2, rb2, rc2, rd2, re2, rf2, rg2, rh2, ri2, rj2) =>
 if !decide (ra2 = 0) then
  none
 else
  Option.bind (rateReadHandicap N bowler1 week1 rb2 rc2 rd2 re2 rf2 rg2 rh2 ri2 rj2) fun r2 =>
  some (r2, 0)
def deskWorth (N : Nat) (lines1 : List (List UInt8)) (bowler1 : Int) (week1 : Int) : Option (Int × Int × Int) :=
 Option.bind (deskCheck N lines1) fun r4 =>
 if !decide (r4 = 0) then
  none
 else
  Option.bind (deskPlay N lines1) fun (ra2, rb2) =>
  Option.bind (deskWorkKnown N bowler1 rb2) fun r8 =>
  if !r8 then
   some (0, 0, 7)
  else
   Option.bind (deskWorkBook N rb2) fun r10 =>
   Option.bind (rateAverage N r10 bowler1 week1) fun (ra4, rb4) =>
   if !decide (rb4 = 0) then
    some (0, 0, rb4)
   else
    Option.bind (deskWorkBook N rb2) fun r12 =>
    Option.bind (rateHandicap N r12 bowler1 week1) fun (ra6, rb6) =>
    some (ra4, ra6, rb6)
def deskJoined_b1 (N : Nat) (words6 : List Int) (rec5 : (Int × Int × (List (List UInt8))) → Option ((List (List UInt8)))) (v35 : Int) (v36 : Int) (l70 : List (List UInt8)) : Option ((List (List UInt8))) :=
 if decide (v36 < v35) then
  Option.bind (idx words6 v36) fun x48 =>
  Option.bind (itoI N x48) fun r32 =>
  Option.bind (app N l70 ([r32])) fun l72 =>
  rec5 ((v35, w64 (v36 + 1), l72))
 else
  some l70
def deskJoined (N : Nat) (words1 : List UInt8) (words2 : Int) (words3 : List UInt8) (words4 : Int) (words5 : List UInt8) (words6 : List Int) : Option ((List UInt8)) :=
 Option.bind (
  Option.bind (app N ([]) ([words1])) fun l39 =>
  some l39
 ) fun l38 =>
 Option.bind (
  Option.bind (itoI N words2) fun r18 =>
  Option.bind (app N l38 ([r18])) fun l42 =>
  some l42
 ) fun l41 =>
 Option.bind (
  Option.bind (app N l41 ([words3])) fun l45 =>
  some l45
 ) fun l44 =>
 Option.bind (
  Option.bind (itoI N words4) fun r20 =>
  Option.bind (app N l44 ([r20])) fun l48 =>
  some l48
 ) fun l47 =>
 Option.bind (
  Option.bind (app N l47 ([words5])) fun l51 =>
  some l51
 ) fun l50 =>
 Option.bind (
  loopN (fun rec5 x => deskJoined_b1 N words6 rec5 x.1 x.2.1 x.2.2) N (((words6.length : Int), 0, l50))
 ) fun l62 =>
 Option.bind (joinI N l62 ([32] : List UInt8)) fun r34 =>
 some r34
def deskReport1 (N : Nat) (s1 : List UInt8) (bs1 : List UInt8) : Option ((List UInt8)) :=
 Option.bind (cat N s1 ([10] : List UInt8)) fun s2 =>
 Option.bind (wrS N ((s1 ++ ([10] : List UInt8))) bs1) fun (ra1, rb1) =>
 some rb1
def rateCountingW_k1 (N : Nat)  (l8 : List Int) : WP ((List Int) × Int) :=
 bindO (sortI N l8) fun r2 =>
 retW (r2, 0)
def rateCountingW_b2 (N : Nat)  (rec3 : ((List Int) × (List (RateTurn × RateSheet))) → WP ((List Int) × Int)) (l14 : List Int) (rem18 : List (RateTurn × RateSheet)) : WP ((List Int) × Int) :=
 nextW rem18 (
  rateCountingW_k1 N l14
 ) fun (k12, v18) rem20 =>
 bindO (app N l14 ([v18.fNumber])) fun l15 =>
 rec3 (l15, rem20)
def rateCountingW (N : Nat) (b1 : RateBook) : WP ((List Int) × Int) :=
 bindO (rateBookRead N b1) fun (ra2, rb2, rc2, rd2, re2, rf2, rg2, rh2, ri2, rj2) =>
 if !decide (ra2 = 0) then
  retW ([], ra2)
 else
  loopW (fun rec3 x => rateCountingW_b2 N rec3 x.1 x.2) N ([], rj2)
def rateCounting (N : Nat) (b1 : RateBook) : Option ((List Int) × Int) := det (rateCountingW N b1)
def deskJoinedX (N : Nat) (words1 : List UInt8) (words2 : Int) (words3 : List UInt8) (words4 : Int) (words5 : List UInt8) (words6 : Int) : Option ((List UInt8)) :=
 Option.bind (
  Option.bind (app N ([]) ([words1])) fun l21 =>
  some l21
 ) fun l20 =>
 Option.bind (
  Option.bind (itoI N words2) fun r8 =>
  Option.bind (app N l20 ([r8])) fun l24 =>
  some l24
 ) fun l23 =>
 Option.bind (
  Option.bind (app N l23 ([words3])) fun l27 =>
  some l27
 ) fun l26 =>
 Option.bind (
  Option.bind (itoI N words4) fun r10 =>
  Option.bind (app N l26 ([r10])) fun l30 =>
  some l30
 ) fun l29 =>
 Option.bind (
  Option.bind (app N l29 ([words5])) fun l33 =>
  some l33
 ) fun l32 =>
 Option.bind (
  Option.bind (itoI N words6) fun r12 =>
  Option.bind (app N l32 ([r12])) fun l36 =>
  some l36
 ) fun l35 =>
 Option.bind (joinI N l35 ([32] : List UInt8)) fun r14 =>
 some r14
def ladderDrawSettled (N : Nat) (match1 : Int) (first1 : Int) (second1 : Int) (c1 : Int) (c2 : Int) (c3 : Int) (c4 : List LadderResult) (c5 : List LadderPair) (m1 : List (Int × LadderResult)) (l1 : List (Ar2 Int)) : Option (Int) :=
 Option.bind (
  Option.bind (idx l1 match1) fun x4 =>
  if !decide (x4 = (Ar2.mk first1 second1)) then
   some true
  else
   Option.bind (mgt m1 match1 ((LadderResult.mk 0 ([]) false))) fun (v8, is4) =>
   some v8.fProtested
 ) fun v7 =>
 if v7 then
  none
 else
  Option.bind (ladderDrawWon N match1 c1 c2 c3 c4 c5 m1 l1) fun r2 =>
  some r2
def ladderSum_b1 (N : Nat) (l1 : List Int) (rec3 : (Int × Int × Int) → Option (Int)) (n10 : Int) (v17 : Int) (v18 : Int) : Option (Int) :=
 if decide (v18 < v17) then
  Option.bind (idx l1 v18) fun x24 =>
  rec3 ((w64 (n10 + x24), v17, w64 (v18 + 1)))
 else
  some n10
def ladderSum (N : Nat) (l1 : List Int) : Option (Int) :=
 Option.bind (
  loopN (fun rec3 x => ladderSum_b1 N l1 rec3 x.1 x.2.1 x.2.2) N ((0, (l1.length : Int), 0))
 ) fun n6 =>
 some n6
def ladderDrawFromX (N : Nat) (s1 : LadderSide) (c1 : Int) (c2 : Int) (c3 : Int) (c4 : List LadderResult) (c5 : List LadderPair) (m1 : List (LadderSpot × LadderCheapest)) (m2 : List (Int × LadderResult)) (l1 : List (Ar2 Int)) : Option ((List (Int × Int))) :=
 if decide (s1.fMatch = (-1)) then
  some ((mput (([] : List (Int × Int))) s1.fPlayer 0))
 else
  none
def ladderDrawBest_k1 (N : Nat)  (m321 : List (LadderSpot × LadderCheapest)) : WP ((List (LadderSpot × LadderCheapest))) :=
 retW m321
def ladderDrawBest_k2 (N : Nat) (v4697 : Int) (v4698 : Int) (rec43 : (Int × Int × (List (LadderSpot × LadderCheapest))) → WP ((List (LadderSpot × LadderCheapest)))) (m588 : List (LadderSpot × LadderCheapest)) : WP ((List (LadderSpot × LadderCheapest))) :=
 rec43 ((v4697, w64 (v4698 + 1), m588))
def ladderDrawBest_k3 (N : Nat) (rec51 : ((List (LadderSpot × LadderCheapest)) × (List (Int × Int))) → WP ((List (LadderSpot × LadderCheapest)))) (rem480 : List (Int × Int)) (m640 : List (LadderSpot × LadderCheapest)) : WP ((List (LadderSpot × LadderCheapest))) :=
 rec51 (m640, rem480)
def ladderDrawBest_k4 (N : Nat) (v4698 : Int) (rec51 : ((List (LadderSpot × LadderCheapest)) × (List (Int × Int))) → WP ((List (LadderSpot × LadderCheapest)))) (rem480 : List (Int × Int)) (m638 : List (LadderSpot × LadderCheapest)) (x886 : Ar2 Int) (cost862 : Int) (v5620 : Bool) : WP ((List (LadderSpot × LadderCheapest))) :=
 if v5620 then
  ladderDrawBest_k3 N rec51 rem480 ((mput m638 (LadderSpot.mk v4698 x886.a0) (LadderCheapest.mk cost862 x886.a1)))
 else
  ladderDrawBest_k3 N rec51 rem480 m638
def ladderDrawBest_k5 (N : Nat) (v4698 : Int) (rec51 : ((List (LadderSpot × LadderCheapest)) × (List (Int × Int))) → WP ((List (LadderSpot × LadderCheapest)))) (rem480 : List (Int × Int)) (m638 : List (LadderSpot × LadderCheapest)) (x886 : Ar2 Int) (cost862 : Int) : WP ((List (LadderSpot × LadderCheapest))) :=
 bindO (mgt m638 (LadderSpot.mk v4698 x886.a0) (LadderCheapest.mk 0 0)) fun (v5618, is862) =>
 if !is862 then
  ladderDrawBest_k4 N v4698 rec51 rem480 m638 x886 cost862 true
 else
  ladderDrawBest_k4 N v4698 rec51 rem480 m638 x886 cost862 (decide (cost862 < v5618.fUpsets))
def ladderDrawBest_k6 (N : Nat) (v4698 : Int) (rec51 : ((List (LadderSpot × LadderCheapest)) × (List (Int × Int))) → WP ((List (LadderSpot × LadderCheapest)))) (rem480 : List (Int × Int)) (m638 : List (LadderSpot × LadderCheapest)) (x886 : Ar2 Int) (r2034 : Int) (v5622 : Bool) : WP ((List (LadderSpot × LadderCheapest))) :=
 if v5622 then
  bindO (ladderSum N ([r2034, 1])) fun r2036 =>
  ladderDrawBest_k5 N v4698 rec51 rem480 m638 x886 r2036
 else
  ladderDrawBest_k5 N v4698 rec51 rem480 m638 x886 r2034
def ladderDrawBest_k7 (N : Nat) (v4698 : Int) (v5481 : Int) (rec51 : ((List (LadderSpot × LadderCheapest)) × (List (Int × Int))) → WP ((List (LadderSpot × LadderCheapest)))) (v5586 : Int) (rem480 : List (Int × Int)) (r2024 : Int) (m638 : List (LadderSpot × LadderCheapest)) (x886 : Ar2 Int) (v5614 : Bool) : WP ((List (LadderSpot × LadderCheapest))) :=
 if v5614 then
  ladderDrawBest_k3 N rec51 rem480 m638
 else
  bindO (ladderSum N ([v5481, v5586])) fun r2034 =>
  if decide (r2024 = (-1)) then
   ladderDrawBest_k6 N v4698 rec51 rem480 m638 x886 r2034 (decide (x886.a1 < x886.a0))
  else
   ladderDrawBest_k6 N v4698 rec51 rem480 m638 x886 r2034 false
def ladderDrawBest_k8 (N : Nat) (v4698 : Int) (v5481 : Int) (rec51 : ((List (LadderSpot × LadderCheapest)) × (List (Int × Int))) → WP ((List (LadderSpot × LadderCheapest)))) (v5586 : Int) (rem480 : List (Int × Int)) (r2024 : Int) (m638 : List (LadderSpot × LadderCheapest)) (l1077 : List (Ar2 Int)) : WP ((List (LadderSpot × LadderCheapest))) :=
 bindO (idx l1077 1) fun x886 =>
 if !decide (r2024 = (-1)) then
  ladderDrawBest_k7 N v4698 v5481 rec51 v5586 rem480 r2024 m638 x886 (!decide (r2024 = x886.a0))
 else
  ladderDrawBest_k7 N v4698 v5481 rec51 v5586 rem480 r2024 m638 x886 false
def ladderDrawBest_k9 (N : Nat) (v4698 : Int) (v5481 : Int) (m636 : List (LadderSpot × LadderCheapest)) (rec51 : ((List (LadderSpot × LadderCheapest)) × (List (Int × Int))) → WP ((List (LadderSpot × LadderCheapest)))) (v5586 : Int) (rem480 : List (Int × Int)) (r2024 : Int) (x888 : Ar2 Int) (l1081 : List (Ar2 Int)) (cost864 : Int) (v5632 : Bool) : WP ((List (LadderSpot × LadderCheapest))) :=
 if v5632 then
  ladderDrawBest_k8 N v4698 v5481 rec51 v5586 rem480 r2024 ((mput m636 (LadderSpot.mk v4698 x888.a0) (LadderCheapest.mk cost864 x888.a1))) l1081
 else
  ladderDrawBest_k8 N v4698 v5481 rec51 v5586 rem480 r2024 m636 l1081
def ladderDrawBest_k10 (N : Nat) (v4698 : Int) (v5481 : Int) (m636 : List (LadderSpot × LadderCheapest)) (rec51 : ((List (LadderSpot × LadderCheapest)) × (List (Int × Int))) → WP ((List (LadderSpot × LadderCheapest)))) (v5586 : Int) (rem480 : List (Int × Int)) (r2024 : Int) (x888 : Ar2 Int) (l1081 : List (Ar2 Int)) (cost864 : Int) : WP ((List (LadderSpot × LadderCheapest))) :=
 bindO (mgt m636 (LadderSpot.mk v4698 x888.a0) (LadderCheapest.mk 0 0)) fun (v5630, is864) =>
 if !is864 then
  ladderDrawBest_k9 N v4698 v5481 m636 rec51 v5586 rem480 r2024 x888 l1081 cost864 true
 else
  ladderDrawBest_k9 N v4698 v5481 m636 rec51 v5586 rem480 r2024 x888 l1081 cost864 (decide (cost864 < v5630.fUpsets))
def ladderDrawBest_k11 (N : Nat) (v4698 : Int) (v5481 : Int) (m636 : List (LadderSpot × LadderCheapest)) (rec51 : ((List (LadderSpot × LadderCheapest)) × (List (Int × Int))) → WP ((List (LadderSpot × LadderCheapest)))) (v5586 : Int) (rem480 : List (Int × Int)) (r2024 : Int) (x888 : Ar2 Int) (l1081 : List (Ar2 Int)) (r2038 : Int) (v5634 : Bool) : WP ((List (LadderSpot × LadderCheapest))) :=
 if v5634 then
  bindO (ladderSum N ([r2038, 1])) fun r2040 =>
  ladderDrawBest_k10 N v4698 v5481 m636 rec51 v5586 rem480 r2024 x888 l1081 r2040
 else
  ladderDrawBest_k10 N v4698 v5481 m636 rec51 v5586 rem480 r2024 x888 l1081 r2038
def ladderDrawBest_k12 (N : Nat) (v4698 : Int) (v5481 : Int) (m636 : List (LadderSpot × LadderCheapest)) (rec51 : ((List (LadderSpot × LadderCheapest)) × (List (Int × Int))) → WP ((List (LadderSpot × LadderCheapest)))) (v5586 : Int) (rem480 : List (Int × Int)) (r2024 : Int) (x888 : Ar2 Int) (v5626 : Bool) (l1081 : List (Ar2 Int)) : WP ((List (LadderSpot × LadderCheapest))) :=
 if v5626 then
  ladderDrawBest_k8 N v4698 v5481 rec51 v5586 rem480 r2024 m636 l1081
 else
  bindO (ladderSum N ([v5481, v5586])) fun r2038 =>
  if decide (r2024 = (-1)) then
   ladderDrawBest_k11 N v4698 v5481 m636 rec51 v5586 rem480 r2024 x888 l1081 r2038 (decide (x888.a1 < x888.a0))
  else
   ladderDrawBest_k11 N v4698 v5481 m636 rec51 v5586 rem480 r2024 x888 l1081 r2038 false
def ladderDrawBest_b13 (N : Nat) (c1 : Int) (c2 : Int) (c3 : Int) (c4 : List LadderResult) (c5 : List LadderPair) (m1 : List (Int × LadderResult)) (l1 : List (Ar2 Int)) (v4698 : Int) (rec50 : ((List (LadderSpot × LadderCheapest)) × (List (Int × Int))) → WP ((List (LadderSpot × LadderCheapest)))) (k282 : Int) (v5481 : Int) (rem470 : List (Int × Int)) (rec51 : ((List (LadderSpot × LadderCheapest)) × (List (Int × Int))) → WP ((List (LadderSpot × LadderCheapest)))) (m636 : List (LadderSpot × LadderCheapest)) (rem478 : List (Int × Int)) : WP ((List (LadderSpot × LadderCheapest))) :=
 nextW rem478 (
  rec50 (m636, rem470)
 ) fun (k288, v5586) rem480 =>
 bindO (ladderDrawSettled N v4698 k282 k288 c1 c2 c3 c4 c5 m1 l1) fun r2024 =>
 bindO (idx ([(Ar2.mk k282 k288), (Ar2.mk k288 k282)]) 0) fun x888 =>
 if !decide (r2024 = (-1)) then
  ladderDrawBest_k12 N v4698 v5481 m636 rec51 v5586 rem480 r2024 x888 (!decide (r2024 = x888.a0)) ([(Ar2.mk k282 k288), (Ar2.mk k288 k282)])
 else
  ladderDrawBest_k12 N v4698 v5481 m636 rec51 v5586 rem480 r2024 x888 false ([(Ar2.mk k282 k288), (Ar2.mk k288 k282)])
def ladderDrawBest_b14 (N : Nat) (c1 : Int) (c2 : Int) (c3 : Int) (c4 : List LadderResult) (c5 : List LadderPair) (m1 : List (Int × LadderResult)) (l1 : List (Ar2 Int)) (v4697 : Int) (v4698 : Int) (rec43 : (Int × Int × (List (LadderSpot × LadderCheapest))) → WP ((List (LadderSpot × LadderCheapest)))) (x816 : LadderPair) (rec50 : ((List (LadderSpot × LadderCheapest)) × (List (Int × Int))) → WP ((List (LadderSpot × LadderCheapest)))) (m624 : List (LadderSpot × LadderCheapest)) (rem468 : List (Int × Int)) : WP ((List (LadderSpot × LadderCheapest))) :=
 nextW rem468 (
  ladderDrawBest_k2 N v4697 v4698 rec43 m624
 ) fun (k282, v5481) rem470 =>
 bindO (ladderDrawFromX N x816.fSecond c1 c2 c3 c4 c5 m624 m1 l1) fun r1986 =>
 loopW (fun rec51 x => ladderDrawBest_b13 N c1 c2 c3 c4 c5 m1 l1 v4698 rec50 k282 v5481 rem470 rec51 x.1 x.2) N (m624, r1986)
def ladderDrawBest_b15 (N : Nat) (c1 : Int) (c2 : Int) (c3 : Int) (c4 : List LadderResult) (c5 : List LadderPair) (m1 : List (Int × LadderResult)) (l1 : List (Ar2 Int)) (rec43 : (Int × Int × (List (LadderSpot × LadderCheapest))) → WP ((List (LadderSpot × LadderCheapest)))) (v4697 : Int) (v4698 : Int) (m535 : List (LadderSpot × LadderCheapest)) : WP ((List (LadderSpot × LadderCheapest))) :=
 if decide (v4698 < v4697) then
  bindO (idx c5 v4698) fun x816 =>
  bindO (ladderDrawFromX N x816.fFirst c1 c2 c3 c4 c5 m535 m1 l1) fun r1872 =>
  loopW (fun rec50 x => ladderDrawBest_b14 N c1 c2 c3 c4 c5 m1 l1 v4697 v4698 rec43 x816 rec50 x.1 x.2) N (m535, r1872)
 else
  ladderDrawBest_k1 N m535
def ladderDrawBest (N : Nat) (c1 : Int) (c2 : Int) (c3 : Int) (c4 : List LadderResult) (c5 : List LadderPair) (m1 : List (Int × LadderResult)) (l1 : List (Ar2 Int)) : WP ((List (LadderSpot × LadderCheapest))) :=
 loopW (fun rec43 x => ladderDrawBest_b15 N c1 c2 c3 c4 c5 m1 l1 rec43 x.1 x.2.1 x.2.2) N (((c5.length : Int), 0, ([] : List (LadderSpot × LadderCheapest))))
def ladderDrawLast (N : Nat) (c1 : Int) (c2 : Int) (c3 : Int) (c4 : List LadderResult) (c5 : List LadderPair) (m1 : List (Int × LadderResult)) (l1 : List (Ar2 Int)) : Option (Int) :=
 some (w64 ((c5.length : Int) - 1))
def ladderDrawMayW_k1 (N : Nat)  (l18 : List Int) : WP ((List Int)) :=
 retW l18
def ladderDrawMayW_k2 (N : Nat) (v28 : Int) (rec3 : (Int × (List Int)) → WP ((List Int))) (l33 : List Int) : WP ((List Int)) :=
 rec3 ((w64 (v28 + 1), l33))
def ladderDrawMayW_b3 (N : Nat) (c1 : Int) (c2 : Int) (c3 : Int) (c4 : List LadderResult) (c5 : List LadderPair) (m1 : List (Int × LadderResult)) (l1 : List (Ar2 Int)) (r2 : List (LadderSpot × LadderCheapest)) (rec3 : (Int × (List Int)) → WP ((List Int))) (v28 : Int) (l30 : List Int) : WP ((List Int)) :=
 if decide (v28 < c2) then
  bindO (ladderDrawLast N c1 c2 c3 c4 c5 m1 l1) fun r26 =>
  bindO (mgt r2 (LadderSpot.mk r26 v28) (LadderCheapest.mk 0 0)) fun (v32, is24) =>
  if is24 then
   bindO (app N l30 ([v28])) fun l34 =>
   ladderDrawMayW_k2 N v28 rec3 l34
  else
   ladderDrawMayW_k2 N v28 rec3 l30
 else
  ladderDrawMayW_k1 N l30
def ladderDrawMayW (N : Nat) (c1 : Int) (c2 : Int) (c3 : Int) (c4 : List LadderResult) (c5 : List LadderPair) (m1 : List (Int × LadderResult)) (l1 : List (Ar2 Int)) : WP ((List Int)) :=
 bindW (ladderDrawBest N c1 c2 c3 c4 c5 m1 l1) fun r2 =>
 loopW (fun rec3 x => ladderDrawMayW_b3 N c1 c2 c3 c4 c5 m1 l1 r2 rec3 x.1 x.2) N (0, [])
def ladderDrawMay (N : Nat) (c1 : Int) (c2 : Int) (c3 : Int) (c4 : List LadderResult) (c5 : List LadderPair) (m1 : List (Int × LadderResult)) (l1 : List (Ar2 Int)) : Option ((List Int)) := det (ladderDrawMayW N c1 c2 c3 c4 c5 m1 l1)
def ladderMayWin (N : Nat) (c1 : LadderCup) : Option ((List Int) × Int) :=
 Option.bind (ladderCupDraw N c1) fun (ra2, rb2, rc2, rd2, re2, rf2, rg2, rh2) =>
 if !decide (ra2 = 0) then
  none
 else
  Option.bind (ladderDrawMay N rb2 rc2 rd2 re2 rf2 rg2 rh2) fun r2 =>
  some (r2, 0)
def deskJoinedXX_b1 (N : Nat) (words2 : List Int) (rec5 : (Int × Int × (List (List UInt8))) → Option ((List (List UInt8)))) (v35 : Int) (v36 : Int) (l46 : List (List UInt8)) : Option ((List (List UInt8))) :=
 if decide (v36 < v35) then
  Option.bind (idx words2 v36) fun x48 =>
  Option.bind (itoI N x48) fun r24 =>
  Option.bind (app N l46 ([r24])) fun l48 =>
  rec5 ((v35, w64 (v36 + 1), l48))
 else
  some l46
def deskJoinedXX (N : Nat) (words1 : List UInt8) (words2 : List Int) : Option ((List UInt8)) :=
 Option.bind (
  Option.bind (app N ([]) ([words1])) fun l27 =>
  some l27
 ) fun l26 =>
 Option.bind (
  loopN (fun rec5 x => deskJoinedXX_b1 N words2 rec5 x.1 x.2.1 x.2.2) N (((words2.length : Int), 0, l26))
 ) fun l38 =>
 Option.bind (joinI N l38 ([32] : List UInt8)) fun r26 =>
 some r26
def deskReport_b1 (N : Nat) (rb2 : DeskWork) (rec3 : (Int × Int × (List UInt8)) → Option ((List UInt8))) (v17 : Int) (v18 : Int) (bs19 : List UInt8) : Option ((List UInt8)) :=
 if decide (v18 < v17) then
  Option.bind (
   Option.bind (idx rb2.fState.fLanes v18) fun x24 =>
   if !decide (x24.fBowler = (-1)) then
    Option.bind (
     Option.bind (deskLaw N) fun r50 =>
     Option.bind (frameRead N r50 x24.fBalls) fun (ra26, rb26) =>
     some ra26
    ) fun g24 =>
    Option.bind (deskJoined N ([108, 97, 110, 101] : List UInt8) v18 ([98, 111, 119, 108, 101, 114] : List UInt8) x24.fBowler ([99, 111, 117, 110, 116, 115] : List UInt8) g24.fCounts) fun r51 =>
    Option.bind (deskReport1 N r51 bs19) fun r52 =>
    some r52
   else
    some bs19
  ) fun bs21 =>
  rec3 ((v17, w64 (v18 + 1), bs21))
 else
  some bs19
def deskReport_b2 (N : Nat) (ra28 : List Int) (rec29 : (Int) → Option (Unit)) (v156 : Int) : Option (Unit) :=
 if decide (0 < v156) then
  Option.bind (idx ra28 0) fun x336 =>
  none
 else
  some ()
def deskReport_b3 (N : Nat) (rb2 : DeskWork) (ra28 : List Int) (rec25 : (Int × Int × (List UInt8)) → Option ((List UInt8))) (v135 : Int) (v136 : Int) (bs35 : List UInt8) : Option ((List UInt8)) :=
 if decide (v136 < v135) then
  Option.bind (
   Option.bind (idx rb2.fState.fKept v136) fun x312 =>
   Option.bind (
    loopN (fun rec29 x => deskReport_b2 N ra28 rec29 x) N (ra28.length : Int)
   ) fun _ =>
   Option.bind (deskJoinedX N ([98, 111, 119, 108, 101, 114] : List UInt8) v136 ([107, 101, 112, 116] : List UInt8) (x312.length : Int) ([115, 104, 101, 101, 116, 115] : List UInt8) 0) fun r77 =>
   Option.bind (deskReport1 N r77 bs35) fun r78 =>
   some r78
  ) fun bs36 =>
  rec25 ((v135, w64 (v136 + 1), bs36))
 else
  some bs35
def deskReport (N : Nat) (lines1 : List (List UInt8)) : Option ((List UInt8) × Int) :=
 Option.bind (deskCheck N lines1) fun r4 =>
 if !decide (r4 = 0) then
  some ((([] : List UInt8), r4))
 else
  Option.bind (deskPlay N lines1) fun (ra2, rb2) =>
  Option.bind (
   loopN (fun rec3 x => deskReport_b1 N rb2 rec3 x.1 x.2.1 x.2.2) N (((rb2.fState.fLanes.length : Int), 0, ([] : List UInt8)))
  ) fun bs11 =>
  Option.bind (deskWorkBook N rb2) fun r54 =>
  Option.bind (rateCounting N r54) fun (ra28, rb28) =>
  Option.bind (
   loopN (fun rec25 x => deskReport_b3 N rb2 ra28 rec25 x.1 x.2.1 x.2.2) N (((rb2.fState.fKept.length : Int), 0, bs11))
  ) fun bs29 =>
  Option.bind (
   if decide (1 < (rb2.fState.fBowlers.length : Int)) then
    Option.bind (deskWorkCup N rb2) fun r84 =>
    Option.bind (ladderMayWin N r84) fun (ra32, rb32) =>
    Option.bind (deskJoinedXX N ([100, 117, 101, 108, 115] : List UInt8) ra32) fun r85 =>
    Option.bind (deskReport1 N r85 bs29) fun r86 =>
    some r86
   else
    some bs29
  ) fun bs38 =>
  Option.bind (bldI N bs38) fun r88 =>
  some (r88, 0)
def deskStateCopied_b1 (N : Nat) (s1 : DeskState) (rec3 : (Int × Int × (List DeskLane)) → Option ((List DeskLane))) (v17 : Int) (v18 : Int) (l19 : List DeskLane) : Option ((List DeskLane)) :=
 if decide (v18 < v17) then
  Option.bind (idx s1.fLanes v18) fun x24 =>
  Option.bind (slicesClone N x24.fBalls) fun r18 =>
  Option.bind (app N l19 ([(DeskLane.mk x24.fBowler r18)])) fun l21 =>
  rec3 ((v17, w64 (v18 + 1), l21))
 else
  some l19
def deskStateCopied_b2 (N : Nat) (s1 : DeskState) (rec5 : (Int × Int × (List (List Int))) → Option ((List (List Int)))) (v35 : Int) (v36 : Int) (l40 : List (List Int)) : Option ((List (List Int))) :=
 if decide (v36 < v35) then
  Option.bind (idx s1.fKept v36) fun x48 =>
  Option.bind (slicesClone N x48) fun r30 =>
  Option.bind (app N l40 ([r30])) fun l42 =>
  rec5 ((v35, w64 (v36 + 1), l42))
 else
  some l40
def deskStateCopied_b3 (N : Nat) (s1 : DeskState) (rec7 : (Int × Int × (List LadderResult)) → Option ((List LadderResult))) (v53 : Int) (v54 : Int) (l61 : List LadderResult) : Option ((List LadderResult)) :=
 if decide (v54 < v53) then
  Option.bind (idx s1.fResults v54) fun x72 =>
  Option.bind (slicesClone N x72.fGames) fun r42 =>
  Option.bind (app N l61 ([(LadderResult.mk x72.fMatch r42 x72.fProtested)])) fun l63 =>
  rec7 ((v53, w64 (v54 + 1), l63))
 else
  some l61
def deskStateCopied (N : Nat) (s1 : DeskState) : Option (DeskState) :=
 Option.bind (
  Option.bind (slicesClone N s1.fBowlers) fun r4 =>
  Option.bind (slicesCloneXXX N s1.fSheets) fun r5 =>
  Option.bind (slicesClone N s1.fWithdrawn) fun r6 =>
  some (r4, r5, r6)
 ) fun (c4, c5, c6) =>
 Option.bind (
  loopN (fun rec3 x => deskStateCopied_b1 N s1 rec3 x.1 x.2.1 x.2.2) N (((s1.fLanes.length : Int), 0, []))
 ) fun l11 =>
 Option.bind (
  loopN (fun rec5 x => deskStateCopied_b2 N s1 rec5 x.1 x.2.1 x.2.2) N (((s1.fKept.length : Int), 0, []))
 ) fun l32 =>
 Option.bind (
  loopN (fun rec7 x => deskStateCopied_b3 N s1 rec7 x.1 x.2.1 x.2.2) N (((s1.fResults.length : Int), 0, []))
 ) fun l53 =>
 some (DeskState.mk c4 l11 l32 c5 c6 l53)
def deskPlayX (N : Nat) (lines1 : List (List UInt8)) : Option (DeskState × (List Int) × Int) :=
 Option.bind (deskCheck N lines1) fun r4 =>
 if !decide (r4 = 0) then
  none
 else
  Option.bind (deskPlay N lines1) fun (ra2, rb2) =>
  Option.bind (deskStateCopied N rb2.fState) fun r6 =>
  some (r6, ra2, 0)
def law12Ints_b1 (N : Nat) (a1 : List Int) (b1 : List Int) (rec3 : (Int) → Option (Unit)) (i8 : Int) : Option (Unit) :=
 if decide (i8 < (a1.length : Int)) then
  Option.bind (idx a1 i8) fun x47 =>
  Option.bind (idx b1 i8) fun x48 =>
  if !decide (x47 = x48) then
   none
  else
   rec3 (w64 (i8 + 1))
 else
  some ()
def law12Ints (N : Nat) (a1 : List Int) (b1 : List Int) : Option (Bool) :=
 if !decide ((a1.length : Int) = (b1.length : Int)) then
  none
 else
  Option.bind (
   loopN (fun rec3 x => law12Ints_b1 N a1 b1 rec3 x) N 0
  ) fun _ =>
  some true
def law12ErrorOf (N : Nat) (line1 : List UInt8) : Option (Int) :=
 Option.bind (law12Game N) fun r2 =>
 Option.bind (app N r2 ([line1])) fun l2 =>
 Option.bind (deskPlayX N l2) fun (ra2, rb2, rc2) =>
 Option.bind (
  if !decide (rc2 = 0) then
   some true
  else
   some (!decide ((rb2.length : Int) = 9))
 ) fun v4 =>
 if v4 then
  none
 else
  Option.bind (idx rb2 8) fun x2 =>
  some x2
def deskHeaded_b1 (N : Nat)  (rec3 : (Int × (List Int) × Int × Int) → Option (Int)) (check11 : Int) (v26 : List Int) (v27 : Int) (v28 : Int) : Option (Int) :=
 if decide (v28 < v27) then
  Option.bind (idx v26 v28) fun x24 =>
  rec3 ((w64 (check11 + (w64 ((w64 (v28 + 2)) * (w64 ((w64 x24) + 1))))), v26, v27, w64 (v28 + 1)))
 else
  some check11
def deskHeaded (N : Nat) (s1 : List UInt8) (index1 : Int) : Option (DeskHead) :=
 Option.bind (
  loopN (fun rec3 x => deskHeaded_b1 N rec3 x.1 x.2.1 x.2.2.1 x.2.2.2) N ((w64 (13 * (w64 (index1 + 1))), bytesI s1, ((bytesI s1).length : Int), 0))
 ) fun check6 =>
 some ((DeskHead.mk (s1.length : Int) (Int.tmod check6 99989)))
def deskDigits_b1 (N : Nat)  (rec3 : (Int × Int × (Ar5 Int)) → Option ((Ar5 Int))) (n10 : Int) (i10 : Int) (b31 : Ar5 Int) : Option ((Ar5 Int)) :=
 if decide (0 ≤ i10) then
  Option.bind (
   if decide (i10 = 0) then
    some ((Ar5.mk (Go.IntKind.wrap .u8 (w64 (48 + (Int.tmod n10 10)))) b31.a1 b31.a2 b31.a3 b31.a4))
   else
    if decide (i10 = 1) then
     some ((Ar5.mk b31.a0 (Go.IntKind.wrap .u8 (w64 (48 + (Int.tmod n10 10)))) b31.a2 b31.a3 b31.a4))
    else
     if decide (i10 = 2) then
      some ((Ar5.mk b31.a0 b31.a1 (Go.IntKind.wrap .u8 (w64 (48 + (Int.tmod n10 10)))) b31.a3 b31.a4))
     else
      if decide (i10 = 3) then
       some ((Ar5.mk b31.a0 b31.a1 b31.a2 (Go.IntKind.wrap .u8 (w64 (48 + (Int.tmod n10 10)))) b31.a4))
      else
       if decide (i10 = 4) then
        some ((Ar5.mk b31.a0 b31.a1 b31.a2 b31.a3 (Go.IntKind.wrap .u8 (w64 (48 + (Int.tmod n10 10))))))
       else
        none
  ) fun b35 =>
  rec3 ((w64 (Int.tdiv n10 10), w64 (i10 - 1), b35))
 else
  some b31
def deskDigits (N : Nat) (n1 : Int) (many1 : Int) : Option ((List UInt8)) :=
 Option.bind (
  loopN (fun rec3 x => deskDigits_b1 N rec3 x.1 x.2.1 x.2.2) N ((n1, w64 (many1 - 1), (Ar5.mk 0 0 0 0 0)))
 ) fun b19 =>
 Option.bind (slc ([b19.a0, b19.a1, b19.a2, b19.a3, b19.a4] : List Int) 0 many1) fun l2 =>
 some (strI l2)
def deskHeadText (N : Nat) (hv1 : DeskHead) : Option ((List UInt8)) :=
 Option.bind (deskDigits N hv1.fLong 3) fun r3 =>
 Option.bind (cat N ([60] : List UInt8) r3) fun s5 =>
 Option.bind (cat N ((([60] : List UInt8) ++ r3)) ([124] : List UInt8)) fun s6 =>
 Option.bind (deskDigits N hv1.fCheck 5) fun r4 =>
 Option.bind (cat N ((((([60] : List UInt8) ++ r3)) ++ ([124] : List UInt8))) r4) fun s7 =>
 Option.bind (cat N ((((((([60] : List UInt8) ++ r3)) ++ ([124] : List UInt8))) ++ r4)) ([62] : List UInt8)) fun s8 =>
 some ((((((((([60] : List UInt8) ++ r3)) ++ ([124] : List UInt8))) ++ r4)) ++ ([62] : List UInt8)))
def deskFile_b1 (N : Nat) (lines1 : List (List UInt8)) (rec3 : (Int × Int × (List Int)) → Option ((List Int))) (v17 : Int) (v18 : Int) (l19 : List Int) : Option ((List Int)) :=
 if decide (v18 < v17) then
  Option.bind (idx lines1 v18) fun x24 =>
  Option.bind (deskHeaded N x24 v18) fun r23 =>
  Option.bind (deskHeadText N r23) fun r24 =>
  Option.bind (cat N r24 x24) fun s23 =>
  Option.bind (cat N (r24 ++ x24) ([10] : List UInt8)) fun s24 =>
  Option.bind (app N l19 (bytesI (((r24 ++ x24) ++ ([10] : List UInt8))))) fun l21 =>
  rec3 ((v17, w64 (v18 + 1), l21))
 else
  some l19
def deskFile (N : Nat) (lines1 : List (List UInt8)) : Option ((List Int)) :=
 Option.bind (
  loopN (fun rec3 x => deskFile_b1 N lines1 rec3 x.1 x.2.1 x.2.2) N (((lines1.length : Int), 0, []))
 ) fun l11 =>
 some l11
def deskWrite (N : Nat) (lines1 : List (List UInt8)) : Option ((List Int) × Int) :=
 Option.bind (deskCheck N lines1) fun r4 =>
 if !decide (r4 = 0) then
  none
 else
  Option.bind (deskFile N lines1) fun r6 =>
  some (r6, 0)
def law12Wakes (N : Nat)  : Option (Bool) :=
 Option.bind (law12Game N) fun r2 =>
 Option.bind (app N r2 ([([98, 97, 108, 108, 32, 49, 32, 50] : List UInt8), ([111, 112, 101, 110, 32, 49, 32, 49] : List UInt8), ([99, 108, 111, 115, 101, 32, 49] : List UInt8), ([99, 108, 111, 115, 101, 32, 49] : List UInt8)])) fun l2 =>
 Option.bind (deskPlayX N l2) fun (ra2, rb2, rc2) =>
 Option.bind (law12Game N) fun r4 =>
 Option.bind (slc r4 0 7) fun l4 =>
 Option.bind (deskBoard N l4 1) fun (ra4, rb4, rc4, rd2) =>
 Option.bind (law12Game N) fun r6 =>
 Option.bind (deskWorth N r6 0 1) fun (ra6, rb6, rc6) =>
 Option.bind (law12Game N) fun r8 =>
 Option.bind (slc r8 0 7) fun l6 =>
 Option.bind (deskReport N l6) fun (ra8, rb8) =>
 Option.bind (deskWrite N ([([97] : List UInt8)])) fun (ra10, rb10) =>
 Option.bind (
  if decide (rc2 = 0) then
   if decide ((rb2.length : Int) = 12) then
    Option.bind (idx rb2 7) fun x6 =>
    if decide (x6 = 0) then
     Option.bind (idx rb2 8) fun x7 =>
     if decide (x7 = 10) then
      Option.bind (idx rb2 9) fun x8 =>
      if decide (x8 = 6) then
       Option.bind (idx rb2 10) fun x9 =>
       if decide (x9 = 0) then
        Option.bind (idx rb2 11) fun x10 =>
        if decide (x10 = 8) then
         if decide (rd2 = 0) then
          Option.bind (law12Ints N ra4 ([20, 34])) fun r10 =>
          if r10 then
           if decide (rb4 = 38) then
            if decide (rc4 = 54) then
             if decide (rc6 = 0) then
              if decide (ra6 = 70) then
               if decide (rb6 = 16) then
                if decide (rb8 = 0) then
                 if decide (ra8 = ([108, 97, 110, 101, 32, 49, 32, 98, 111, 119, 108, 101, 114, 32, 48, 32, 99, 111, 117, 110, 116, 115, 32, 50, 48, 32, 51, 52, 10, 98, 111, 119, 108, 101, 114, 32, 48, 32, 107, 101, 112, 116, 32, 48, 32, 115, 104, 101, 101, 116, 115, 32, 48, 10, 98, 111, 119, 108, 101, 114, 32, 49, 32, 107, 101, 112, 116, 32, 48, 32, 115, 104, 101, 101, 116, 115, 32, 48, 10, 100, 117, 101, 108, 115, 32, 48, 32, 49, 10] : List UInt8)) then
                  if decide (rb10 = 0) then
                   some (decide ((strI ra10) = ([60, 48, 48, 49, 124, 48, 48, 50, 48, 57, 62, 97, 10] : List UInt8)))
                  else
                   some false
                 else
                  some false
                else
                 some false
               else
                some false
              else
               some false
             else
              some false
            else
             some false
           else
            some false
          else
           some false
         else
          some false
        else
         some false
       else
        some false
      else
       some false
     else
      some false
    else
     some false
   else
    some false
  else
   some false
 ) fun v2 =>
 some v2
end
end Go.Proofs.YtiaoloodgildeaaGreatDoor
