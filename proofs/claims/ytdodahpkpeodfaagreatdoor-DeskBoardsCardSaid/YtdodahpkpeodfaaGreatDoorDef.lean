/-
 The functions of the program and of the document, typed, by fuel; printed by a program off the translation. No program in sight.
-/
import Derived.Test.YtdodahpkpeodfaaGreatDoorPre
namespace Go.Proofs.YtdodahpkpeodfaaGreatDoor
open Go.Kp
set_option linter.all false
noncomputable section
structure DeskLane where
 fBowler:Int
 fBalls:List Int
 deriving DecidableEq
structure RateSheet where
 fNumber:Int
 fBowler:Int
 fWeek:Int
 fGames:Ar3 Int
 deriving DecidableEq
structure LadderResult where
 fMatch:Int
 fGames:List Int
 fProtested:Bool
 deriving DecidableEq
structure DeskState where
 fBowlers:List Int
 fLanes:List DeskLane
 fKept:List (List Int)
 fSheets:List RateSheet
 fWithdrawn:List Int
 fResults:List LadderResult
 deriving DecidableEq
structure DeskWork where
 fState:DeskState
 deriving DecidableEq
structure DeskAct where
 fMany:Int
 fDo:Int
 deriving DecidableEq
structure DeskRefusal where
 fE:Int
 deriving DecidableEq
structure FrameLaw where
 fFrames:Int
 fPins:Int
 fBalls:Int
 fTap:Int
 deriving DecidableEq
structure FrameGame where
 fFrames:List (List Int)
 fCounts:List Int
 fStanding:Int
 fDone:Bool
 deriving DecidableEq
structure FrameAt where
 fFrame:Int
 fThrown:Int
 fStanding:Int
 fFresh:Bool
 fNeed:Int
 fAfter:Ar2 Int
 deriving DecidableEq
structure FramePlay where
 fLaw:FrameLaw
 fAt:FrameAt
 deriving DecidableEq
structure LadderCup where
 fForm:Int
 fPlayers:Int
 fGames:Int
 fResults:List LadderResult
 deriving DecidableEq
structure LadderMatch where
 fNumber:Int
 fFirst:Int
 fSecond:Int
 fWon:Int
 fLost:Int
 deriving DecidableEq
structure LadderSide where
 fPlayer:Int
 fMatch:Int
 deriving DecidableEq
structure LadderPair where
 fFirst:LadderSide
 fSecond:LadderSide
 deriving DecidableEq
structure LadderSideT312 where
 fOf:Unit
 deriving DecidableEq
structure FrameRange where
 fLo:Int
 fHi:Int
 deriving DecidableEq
structure RateLaw where
 fBase:Int
 fPercent:Int
 fCap:Int
 fLeast:Int
 fBlind:Int
 deriving DecidableEq
structure RateBook where
 fLaw:RateLaw
 fBowlers:List Int
 fSheets:List RateSheet
 fWithdrawn:List Int
 deriving DecidableEq
structure RateTurn where
 fBowler:Int
 fWeek:Int
 deriving DecidableEq
structure LadderSpot where
 fMatch:Int
 fPlayer:Int
 deriving DecidableEq
structure LadderCheapest where
 fUpsets:Int
 fOther:Int
 deriving DecidableEq
structure DeskHead where
 fLong:Int
 fCheck:Int
 deriving DecidableEq
structure Ref12Lane where
 fBowler:Int
 fBalls:List Int
 deriving DecidableEq
structure Ref07Sheet where
 fNumber:Int
 fBowler:Int
 fWeek:Int
 fGames:Ar3 Int
 deriving DecidableEq
structure Ref09Result where
 fMatch:Int
 fGames:List Int
 fProtested:Bool
 deriving DecidableEq
structure Ref12State where
 fBowlers:List Int
 fLanes:Ar4 Ref12Lane
 fKept:List (List Int)
 fSheets:List Ref07Sheet
 fWithdrawn:List Int
 fResults:List Ref09Result
 deriving DecidableEq
structure Ref01Law where
 fFrames:Int
 fPins:Int
 fBalls:Int
 fTap:Int
 deriving DecidableEq
structure Ref01Stand where
 fFrame:Int
 fThrown:Int
 fStanding:Int
 fSet:Bool
 fHas:Int
 deriving DecidableEq
structure Ref01Ball where
 fFrame:Int
 fCount:Int
 deriving DecidableEq
structure Ref09Cup where
 fForm:Int
 fPlayers:Int
 fGames:Int
 fResults:List Ref09Result
 deriving DecidableEq
structure Ref09Match where
 fNumber:Int
 fFirst:Int
 fSecond:Int
 fWon:Int
 fLost:Int
 deriving DecidableEq
structure Ref09Side where
 fPlayer:Int
 fMatch:Int
 deriving DecidableEq
structure Ref09Pair where
 fFirst:Ref09Side
 fSecond:Ref09Side
 deriving DecidableEq
structure Ref01Range where
 fLo:Int
 fHi:Int
 deriving DecidableEq
structure Ref01Tail where
 fStand:Ref01Stand
 fOne:Int
 fTwo:Int
 deriving DecidableEq
abbrev aM1:List (List UInt8×DeskAct):=mput ([]:List (List UInt8×DeskAct)) ([98,111,119,108,101,114]:List UInt8) (DeskAct.mk 1 0)
abbrev aM2:List (List UInt8×DeskAct):=mput aM1 ([111,112,101,110]:List UInt8) (DeskAct.mk 2 1)
abbrev aM3:List (List UInt8×DeskAct):=mput aM2 ([98,97,108,108]:List UInt8) (DeskAct.mk 2 2)
abbrev aM4:List (List UInt8×DeskAct):=mput aM3 ([98,97,99,107]:List UInt8) (DeskAct.mk 1 3)
abbrev aM5:List (List UInt8×DeskAct):=mput aM4 ([99,108,111,115,101]:List UInt8) (DeskAct.mk 1 4)
abbrev aM6:List (List UInt8×DeskAct):=mput aM5 ([115,104,101,101,116]:List UInt8) (DeskAct.mk 2 5)
abbrev aM7:List (List UInt8×DeskAct):=mput aM6 ([115,116,114,105,107,101]:List UInt8) (DeskAct.mk 1 6)
abbrev aM8:List (List UInt8×DeskAct):=mput aM7 ([100,117,101,108]:List UInt8) (DeskAct.mk 1 7)
abbrev aM9:List (List UInt8×DeskAct):=mput aM8 ([100,111,117,98,116]:List UInt8) (DeskAct.mk 1 8)
def iN (N:Nat)(lines1:List (List UInt8))  : Option (Bool) :=
 some (decide ((lines1.length:Int)≤55))
def bK (N:Nat)(lines1:List (List UInt8))(rec3:(Int)→Option (Bool))(i8:Int):Option (Bool) :=
 Option.bind (
  if decide (i8<(lines1.length:Int))then
   some (decide (i8<56))
  else
   some false
 ) fun v24 =>
 if v24 then
  Option.bind (idx lines1 i8) fun x24 =>
  if decide (210<(x24.length:Int))then
   some false
  else
   rec3 (w64 (i8+1))
 else
  iN N lines1
def j0 (N:Nat)(lines1:List (List UInt8)):Option (Bool) :=
 loopN (fun rec3 x=>bK N lines1 rec3 x) N 0
def gl (N:Nat)  : Option ((List (List UInt8))) :=
 some ([([98,111,119,108,101,114,32,55,48]:List UInt8),([98,111,119,108,101,114,32,54,48]:List UInt8),([111,112,101,110,32,49,32,48]:List UInt8),([98,97,108,108,32,49,32,49,48]:List UInt8),([98,97,108,108,32,49,32,55]:List UInt8),([98,97,108,108,32,49,32,51]:List UInt8),([98,97,108,108,32,49,32,52]:List UInt8),([98,97,108,108,32,49,32,53]:List UInt8)])
def gA (N:Nat)(l1:Int)(s1:List UInt8):Option (Bool) :=
 some (decide ((s1.length:Int)≤l1))
def kV (N:Nat)(x1:List UInt8)(a1:Int):Option (Bool) :=
 Option.bind (gA N a1 x1) fun r2 =>
 some (!r2)
def dX (N:Nat)   : Option (Int) :=
 some (-1)
def bQ (N:Nat)(s1:List (List UInt8))(f1:Int)(rec3:(Int×Int)→Option (Int))(v17:Int)(v18:Int):Option (Int) :=
 if decide (v18<v17)then
  Option.bind (idx s1 v18) fun x24 =>
  Option.bind (kV N x24 f1) fun r24 =>
  if r24 then
   some v18
  else
   rec3 ((v17,w64 (v18+1)))
 else
  dX N
def fU (N:Nat)(s1:List (List UInt8))(f1:Int):Option (Int) :=
 loopN (fun rec3 x=>bQ N s1 f1 rec3 x.1 x.2) N (((s1.length:Int),0))
def dY (N:Nat)(s1:List (List UInt8))(f1:Int):Option (Bool) :=
 Option.bind (fU N s1 f1) fun r2 =>
 some (decide (0≤r2))
def mV (N:Nat)(l1:List (List UInt8))(right1:Int):Option (Bool) :=
 Option.bind (dY N l1 right1) fun r2 =>
 some (!r2)
def dw (N:Nat)(lines1:List (List UInt8)):Option (Int) :=
 Option.bind (
  if decide (50<(lines1.length:Int))then
   some true
  else
   Option.bind (mV N lines1 200) fun r4 =>
   some (!r4)
 ) fun v4 =>
 if v4 then
  some 3
 else
  some 0
def lG (N:Nat)  : Option (DeskWork) :=
 Option.bind (app N ([]) ([(DeskLane.mk (-1) ([]))])) fun l10 =>
 Option.bind (app N l10 ([(DeskLane.mk (-1) ([]))])) fun l12 =>
 Option.bind (app N l12 ([(DeskLane.mk (-1) ([]))])) fun l14 =>
 Option.bind (app N l14 ([(DeskLane.mk (-1) ([]))])) fun l16 =>
 some ((DeskWork.mk (DeskState.mk ([]) l16 ([]) ([]) ([]) ([]))))
def nD (N:Nat)  : Option ((List (List UInt8×DeskAct))) :=
 some aM9
def b7 (N:Nat)(is1:Bool)(e1:Int):Option (DeskRefusal⊕Unit) :=
 if !is1 then
  some (.inl (DeskRefusal.mk e1))
 else
  some (.inr ())
def fe (N:Nat)(r3:Int)  : Option (Int⊕DeskRefusal) :=
 some (.inl r3)
def gY (N:Nat)(r4:Int)  : Option (Int⊕DeskRefusal) :=
 some (.inl r4)
def L4 (N:Nat)(s1:List UInt8):Option (Int⊕DeskRefusal) :=
 Option.bind (nV N s1) fun z2 =>
 match z2 with
 | .inl r3 =>
  Option.bind (nU N r3) fun r9 =>
  if decide (r9=s1)then
   Option.bind (O7 N s1 ([45]:List UInt8)) fun r10 =>
   Option.bind (b7 N (decide ((r10.length:Int)≤9)) 4) fun z5 =>
   match z5 with
   | .inl r11 =>
    some (.inr r11)
   | .inr _ =>
    fe N r3
  else
   Option.bind (b7 N false 4) fun z6 =>
   match z6 with
   | .inl r12 =>
    some (.inr r12)
   | .inr _ =>
    fe N r3
 | .inr r4 =>
  Option.bind (b7 N false 4) fun z8 =>
  match z8 with
  | .inl r14 =>
   some (.inr r14)
  | .inr _ =>
   gY N r4
def cJ (N:Nat)(n1:Int)(low1:Int)(high1:Int):Option (Bool) :=
 Option.bind (
  if decide (low1≤n1)then
   some (decide (n1≤high1))
  else
   some false
 ) fun v2 =>
 some v2
def kX (N:Nat)  : Option (Unit) :=
 some ()
def gc (N:Nat)(s1:List Int):Option ((List Int)) :=
 Option.bind (app N ([]) s1) fun l2 =>
 some l2
def cG (N:Nat)(l:List Int):Option ((List Int)):=gc N l
def jw (N:Nat)(l1:List Int)(x1:Int):Option ((List Int)) :=
 Option.bind (cG N l1) fun r2 =>
 Option.bind (app N r2 ([x1])) fun l3 =>
 some l3
def j8 (N:Nat)  : Option (Unit) :=
 some ()
def ff (N:Nat)(s1:List (List Int)):Option ((List (List Int))) :=
 Option.bind (app N ([]) s1) fun l2 =>
 some l2
def gd (N:Nat)(l:List (List Int)):Option ((List (List Int))):=ff N l
def lH (N:Nat)(l1:List (List Int))(x1:List Int):Option ((List (List Int))) :=
 Option.bind (gd N l1) fun r2 =>
 Option.bind (app N r2 ([x1])) fun l3 =>
 some l3
def gB (N:Nat)(n1:List Int)(c1:DeskWork):Option ((DeskRefusal×DeskWork)⊕DeskWork) :=
 Option.bind (idx n1 0) fun x2 =>
 Option.bind (cJ N x2 0 300) fun r3 =>
 Option.bind (b7 N r3 2) fun z2 =>
 match z2 with
 | .inl r4 =>
  some (.inl (r4,c1))
 | .inr _ =>
  Option.bind (b7 N (decide ((c1.fState.fBowlers.length:Int)<8)) 3) fun z4 =>
  match z4 with
  | .inl r6 =>
   some (.inl (r6,c1))
  | .inr _ =>
   Option.bind (b7 N (decide ((c1.fState.fResults.length:Int)=0)) 8) fun z6 =>
   match z6 with
   | .inl r8 =>
    some (.inl (r8,c1))
   | .inr _ =>
    Option.bind (jw N c1.fState.fBowlers x2) fun r9 =>
    Option.bind (lH N c1.fState.fKept ([])) fun r10 =>
    some (.inr ((DeskWork.mk (DeskState.mk r9 c1.fState.fLanes r10 c1.fState.fSheets c1.fState.fWithdrawn c1.fState.fResults))))
def KE (N:Nat)(n1:Int)(c1:DeskWork):Option (DeskRefusal⊕DeskLane) :=
 Option.bind (cJ N n1 0 (w64 ((c1.fState.fLanes.length:Int)-1))) fun r3 =>
 Option.bind (b7 N r3 7) fun z2 =>
 match z2 with
 | .inl r4 =>
  some (.inl r4)
 | .inr _ =>
  Option.bind (idx c1.fState.fLanes n1) fun x2 =>
  some (.inr x2)
def fg (N:Nat)(n1:Int)(c1:DeskWork):Option (Bool) :=
 Option.bind (cJ N n1 0 (w64 ((c1.fState.fBowlers.length:Int)-1))) fun r2 =>
 some r2
def gZ (N:Nat)(y1:DeskLane)(a1:List Int):Option (Bool) :=
 Option.bind (idx a1 1) fun x2 =>
 some (decide (y1.fBowler=x2))
def dC (N:Nat)   : Option (Int) :=
 some (-1)
def bI (N:Nat)(s1:List DeskLane)(f1:List Int)(rec3:(Int×Int)→Option (Int))(v17:Int)(v18:Int):Option (Int) :=
 if decide (v18<v17)then
  Option.bind (idx s1 v18) fun x24 =>
  Option.bind (gZ N x24 f1) fun r24 =>
  if r24 then
   some v18
  else
   rec3 ((v17,w64 (v18+1)))
 else
  dC N
def eY (N:Nat)(s1:List DeskLane)(f1:List Int):Option (Int) :=
 loopN (fun rec3 x=>bI N s1 f1 rec3 x.1 x.2) N (((s1.length:Int),0))
def dD (N:Nat)(s1:List DeskLane)(f1:List Int):Option (Bool) :=
 Option.bind (eY N s1 f1) fun r2 =>
 some (decide (0≤r2))
def jx (N:Nat)  : Option (Unit) :=
 some ()
def eA (N:Nat)(s1:List DeskLane):Option ((List DeskLane)) :=
 Option.bind (app N ([]) s1) fun l2 =>
 some l2
def fh (N:Nat)(l:List DeskLane):Option ((List DeskLane)):=eA N l
def gU (N:Nat)(lane1:Int)(x1:DeskLane)(c1:DeskWork):Option (DeskWork) :=
 Option.bind (fh N c1.fState.fLanes) fun r2 =>
 Option.bind (idx r2 lane1) fun x2 =>
 some ((DeskWork.mk (DeskState.mk c1.fState.fBowlers (List.set r2 (Int.toNat lane1) x1) c1.fState.fKept c1.fState.fSheets c1.fState.fWithdrawn c1.fState.fResults)))
def dP (N:Nat)(n1:List Int)(c1:DeskWork)  : Option ((DeskRefusal×DeskWork)⊕DeskWork) :=
 Option.bind (idx n1 0) fun x5 =>
 Option.bind (idx n1 1) fun x6 =>
 Option.bind (gU N x5 ((DeskLane.mk x6 ([]))) c1) fun r12 =>
 some (.inr r12)
def iO (N:Nat)(n1:List Int)(c1:DeskWork):Option ((DeskRefusal×DeskWork)⊕DeskWork) :=
 Option.bind (idx n1 0) fun x2 =>
 Option.bind (KE N x2 c1) fun z2 =>
 match z2 with
 | .inl r3 =>
  some (.inl (r3,c1))
 | .inr r4 =>
  Option.bind (idx n1 1) fun x4 =>
  Option.bind (fg N x4 c1) fun r7 =>
  Option.bind (b7 N r7 7) fun z4 =>
  match z4 with
  | .inl r8 =>
   some (.inl (r8,c1))
  | .inr _ =>
   if decide (r4.fBowler=(-1))then
    Option.bind (dD N c1.fState.fLanes n1) fun r13 =>
    Option.bind (b7 N (!r13) 6) fun z7 =>
    match z7 with
    | .inl r14 =>
     some (.inl (r14,c1))
    | .inr _ =>
     dP N n1 c1
   else
    Option.bind (b7 N false 6) fun z8 =>
    match z8 with
    | .inl r15 =>
     some (.inl (r15,c1))
    | .inr _ =>
     dP N n1 c1
def gf (N:Nat)(n1:Int)(c1:DeskWork):Option (DeskRefusal⊕DeskLane) :=
 Option.bind (KE N n1 c1) fun z2 =>
 match z2 with
 | .inl r3 =>
  some (.inl r3)
 | .inr r4 =>
  Option.bind (b7 N (!decide (r4.fBowler=(-1))) 8) fun z4 =>
  match z4 with
  | .inl r6 =>
   some (.inl r6)
  | .inr _ =>
   some (.inr r4)
def iP (N:Nat)  : Option (FrameLaw) :=
 some (FrameLaw.mk 3 10 2 10)
def db (N:Nat)(n1:Int)(low1:Int)(high1:Int):Option (Bool) :=
 Option.bind (
  if decide (low1≤n1)then
   some (decide (n1≤high1))
  else
   some false
 ) fun v2 =>
 some v2
def KF (N:Nat)(l1:FrameLaw):Option (Int) :=
 Option.bind (
  Option.bind (db N l1.fFrames 1 10) fun r13 =>
  if !r13 then
   some true
  else
   Option.bind (db N l1.fPins 1 10) fun r14 =>
   if !r14 then
    some true
   else
    Option.bind (db N l1.fBalls 2 3) fun r15 =>
    if !r15 then
     some true
    else
     Option.bind (db N l1.fTap 1 l1.fPins) fun r16 =>
     some (!r16)
 ) fun v4 =>
 if v4 then
  some 1
 else
  some 0
def cS (N:Nat)(l1:FrameLaw)(sheet1:List Int):Option (FrameLaw×(List Int)) :=
 some (l1,sheet1)
def bL (N:Nat)(l1:FrameLaw):Option (FramePlay) :=
 some ((FramePlay.mk l1 (FrameAt.mk 0 0 l1.fPins true l1.fBalls (Ar2.mk 0 0))))
def cT (N:Nat)(p1:FramePlay):Option (Bool) :=
 some (decide (p1.fAt.fFrame=p1.fLaw.fFrames))
def dx (N:Nat)(p1:FramePlay)(ball1:Int):Option (Bool) :=
 Option.bind (
  Option.bind (cT N p1) fun r3 =>
  if !r3 then
   Option.bind (db N ball1 (-1) p1.fAt.fStanding) fun r4 =>
   some r4
  else
   some false
 ) fun v2 =>
 some v2
def bA (N:Nat)(p1:FramePlay)(ball1:Int):Option (FramePlay×Int×Int) :=
 Option.bind (
  Option.bind (
   if p1.fAt.fFresh then
    some ((max 0 ball1,decide (p1.fLaw.fTap≤(max 0 ball1))))
   else
    some (max 0 ball1,false)
  ) fun(n6,v4) =>
  if v4 then
   some p1.fLaw.fPins
  else
   some n6
 ) fun n4 =>
 Option.bind (
  Option.bind (
   if decide (p1.fAt.fFrame=(w64 (p1.fLaw.fFrames-1)))then
    if decide ((w64 (p1.fAt.fStanding-n4))=0)then
     some ((w64 (n4*(w64 (1+p1.fAt.fAfter.a0))),decide ((w64 (p1.fAt.fStanding-n4))=0),decide (p1.fAt.fFrame=(w64 (p1.fLaw.fFrames-1))),decide ((w64 (p1.fAt.fThrown+1))<3),(FramePlay.mk p1.fLaw (FrameAt.mk p1.fAt.fFrame (w64 (p1.fAt.fThrown+1)) (w64 (p1.fAt.fStanding-n4)) false p1.fAt.fNeed (Ar2.mk p1.fAt.fAfter.a1 0)))))
    else
     some ((w64 (n4*(w64 (1+p1.fAt.fAfter.a0))),decide ((w64 (p1.fAt.fStanding-n4))=0),decide (p1.fAt.fFrame=(w64 (p1.fLaw.fFrames-1))),false,(FramePlay.mk p1.fLaw (FrameAt.mk p1.fAt.fFrame (w64 (p1.fAt.fThrown+1)) (w64 (p1.fAt.fStanding-n4)) false p1.fAt.fNeed (Ar2.mk p1.fAt.fAfter.a1 0)))))
   else
    some ((w64 (n4*(w64 (1+p1.fAt.fAfter.a0))),decide ((w64 (p1.fAt.fStanding-n4))=0),decide (p1.fAt.fFrame=(w64 (p1.fLaw.fFrames-1))),false,(FramePlay.mk p1.fLaw (FrameAt.mk p1.fAt.fFrame (w64 (p1.fAt.fThrown+1)) (w64 (p1.fAt.fStanding-n4)) false p1.fAt.fNeed (Ar2.mk p1.fAt.fAfter.a1 0)))))
  ) fun(worth6,down6,last6,v12,p7) =>
  if v12 then
   some ((worth6,down6,last6,(FramePlay.mk p7.fLaw (FrameAt.mk p7.fAt.fFrame p7.fAt.fThrown p7.fLaw.fPins true 3 p7.fAt.fAfter))))
  else
   Option.bind (
    if !last6 then
     if down6 then
      some (decide (p7.fAt.fThrown=1))
     else
      some false
    else
     some false
   ) fun v14 =>
   if v14 then
    some ((worth6,down6,last6,(FramePlay.mk p7.fLaw (FrameAt.mk p7.fAt.fFrame p7.fAt.fThrown p7.fAt.fStanding p7.fAt.fFresh p7.fAt.fNeed (Ar2.mk (w64 (p7.fAt.fAfter.a0+1)) (w64 (p7.fAt.fAfter.a1+1)))))))
   else
    Option.bind (
     if !last6 then
      if down6 then
       some (decide (p7.fAt.fThrown=2))
      else
       some false
     else
      some false
    ) fun v16 =>
    if v16 then
     some ((worth6,down6,last6,(FramePlay.mk p7.fLaw (FrameAt.mk p7.fAt.fFrame p7.fAt.fThrown p7.fAt.fStanding p7.fAt.fFresh p7.fAt.fNeed (Ar2.mk (w64 (p7.fAt.fAfter.a0+1)) p7.fAt.fAfter.a1)))))
    else
     some (worth6,down6,last6,p7)
 ) fun(worth4,down4,last4,p5) =>
 Option.bind (
  Option.bind (
   if decide (p5.fAt.fThrown=p5.fAt.fNeed)then
    some true
   else
    if !last4 then
     some down4
    else
     some false
  ) fun v20 =>
  if v20 then
   some ((FramePlay.mk p5.fLaw (FrameAt.mk (w64 (p5.fAt.fFrame+1)) 0 p5.fLaw.fPins true p5.fLaw.fBalls p5.fAt.fAfter)))
  else
   some p5
 ) fun p9 =>
 some (p9,n4,worth4)
def de (N:Nat)(rb16:List Int)(rec3:(Int×Int×FramePlay×Int)→Option (Int))(v17:Int)(v18:Int)(c17:FramePlay)(c18:Int):Option (Int) :=
 if decide (v18<v17)then
  Option.bind (idx rb16 v18) fun x24 =>
  Option.bind (dx N c17 x24) fun r52 =>
  if !r52 then
   some c18
  else
   Option.bind (bA N c17 x24) fun(ra28,rb28,rc26) =>
   rec3 ((v17,w64 (v18+1),ra28,w64 (v18+1)))
 else
  some c18
def jy (N:Nat)(l1:FrameLaw)(sheet1:List Int):Option (Int) :=
 Option.bind (
  Option.bind (cS N l1 sheet1) fun(ra16,rb16) =>
  Option.bind (bL N ra16) fun r28 =>
  loopN (fun rec3 x=>de N rb16 rec3 x.1 x.2.1 x.2.2.1 x.2.2.2) N (((rb16.length:Int),0,r28,0))
 ) fun c10 =>
 some c10
def fj (N:Nat)(l1:FrameLaw)(sheet1:List Int):Option (Int) :=
 Option.bind (KF N l1) fun r6 =>
 if !decide (r6=0)then
  some r6
 else
  if decide (40<(sheet1.length:Int))then
   some 3
  else
   Option.bind (jy N l1 sheet1) fun r8 =>
   if decide (r8<(sheet1.length:Int))then
    some 10
   else
    some 0
def fK (N:Nat)(l1:List Int)(rec3:(Int×Int×Int)→Option (Int))(n10:Int)(v17:Int)(v18:Int):Option (Int) :=
 if decide (v18<v17)then
  Option.bind (idx l1 v18) fun x24 =>
  rec3 ((w64 (n10+x24),v17,w64 (v18+1)))
 else
  some n10
def fL (N:Nat)(l1:List Int):Option (Int) :=
 Option.bind (
  loopN (fun rec3 x=>fK N l1 rec3 x.1 x.2.1 x.2.2) N ((0,(l1.length:Int),0))
 ) fun n6 =>
 some n6
def ca (N:Nat)(l1:FrameLaw)(rb16:List Int)(rec3:(Int×Int×FramePlay×(List Int)×(List Int)×(List Int)×(List Int))→Option ((List Int)×(List Int)×(List Int)))(end10:Int)(n9:Int)(c8:FramePlay)(l598:List Int)(l599:List Int)(l600:List Int)(l601:List Int):Option ((List Int)×(List Int)×(List Int)) :=
 if decide (n9<end10)then
  Option.bind (idx rb16 n9) fun x288 =>
  Option.bind (dx N c8 x288) fun r140 =>
  if !r140 then
   some (l598,l599,l600)
  else
   Option.bind (bA N c8 x288) fun(ra28,rb28,rc26) =>
   Option.bind (
    Option.bind (app N l598 ([rb28])) fun l705 =>
    Option.bind (idx l601 c8.fAt.fFrame) fun x308 =>
    if decide (c8.fAt.fFrame<ra28.fAt.fFrame)then
     Option.bind (app N l599 ([w64 (n9+1)])) fun l707 =>
     Option.bind (app N l600 ([0])) fun l709 =>
     Option.bind (idx ((List.set l601 (Int.toNat c8.fAt.fFrame) (w64 (x308+1)))) c8.fAt.fFrame) fun x310 =>
     Option.bind (slc l705 (w64 ((w64 (n9+1))-x310)) (l705.length:Int)) fun l711 =>
     Option.bind (fL N l711) fun r148 =>
     Option.bind (
      if decide (c8.fAt.fFrame<(w64 (l1.fFrames-1)))then
       if decide (r148=l1.fPins)then
        some ((decide (x310<3),(List.set l601 (Int.toNat c8.fAt.fFrame) (w64 (x308+1)))))
       else
        some ((false,(List.set l601 (Int.toNat c8.fAt.fFrame) (w64 (x308+1)))))
      else
       some ((false,(List.set l601 (Int.toNat c8.fAt.fFrame) (w64 (x308+1)))))
     ) fun(v96,l713) =>
     if v96 then
      Option.bind (idx l713 c8.fAt.fFrame) fun x311 =>
      Option.bind (idx l709 c8.fAt.fFrame) fun x312 =>
      some ((l705,l707,(List.set l709 (Int.toNat c8.fAt.fFrame) (w64 (3-x311))),l713))
     else
      some (l705,l707,l709,l713)
    else
     some ((l705,l599,l600,(List.set l601 (Int.toNat c8.fAt.fFrame) (w64 (x308+1)))))
   ) fun(l700,l701,l702,l703) =>
   rec3 ((end10,w64 (n9+1),ra28,l700,l701,l702,l703))
 else
  some (l598,l599,l600)
def eB (N:Nat) (l742:List Int):Option ((List Int)) :=
 some l742
def cb (N:Nat)(l359:List Int)(l360:List Int)(l361:List Int)(rec5:(Int×Int×Int×(List Int))→Option ((List Int)))(from8:Int)(v113:Int)(v114:Int)(l762:List Int):Option ((List Int)) :=
 if decide (v114<v113)then
  Option.bind (idx l360 v114) fun x394 =>
  Option.bind (idx l361 v114) fun x398 =>
  if decide ((l359.length:Int)<(w64 (x394+x398)))then
   some l762
  else
   Option.bind (slc l359 from8 (w64 (x394+x398))) fun l768 =>
   Option.bind (fL N l768) fun r186 =>
   Option.bind (
    if decide (0<v114)then
     Option.bind (idx l762 (w64 (v114-1))) fun x400 =>
     Option.bind (fL N ([r186,x400])) fun r188 =>
     some r188
    else
     some r186
   ) fun n28 =>
   Option.bind (app N l762 ([n28])) fun l770 =>
   rec5 ((x394,v113,w64 (v114+1),l770))
 else
  eB N l762
def gC (N:Nat)(l1:FrameLaw)(sheet1:List Int):Option ((List Int)) :=
 Option.bind (mkl N l1.fFrames 0) fun l3 =>
 Option.bind (
  Option.bind (cS N l1 sheet1) fun(ra16,rb16) =>
  Option.bind (bL N ra16) fun r76 =>
  loopN (fun rec3 x=>ca N l1 rb16 rec3 x.1 x.2.1 x.2.2.1 x.2.2.2.1 x.2.2.2.2.1 x.2.2.2.2.2.1 x.2.2.2.2.2.2) N (((rb16.length:Int),0,r76,[],[],[],l3))
 ) fun(l359,l360,l361) =>
 loopN (fun rec5 x=>cb N l359 l360 l361 rec5 x.1 x.2.1 x.2.2.1 x.2.2.2) N ((0,(l360.length:Int),0,[]))
def cd (N:Nat)(rb16:List Int)(rec3:(Int×Int×FramePlay×FramePlay)→Option (FramePlay))(v17:Int)(v18:Int)(c8:FramePlay)(p10:FramePlay):Option (FramePlay) :=
 if decide (v18<v17)then
  Option.bind (idx rb16 v18) fun x24 =>
  Option.bind (dx N c8 x24) fun r54 =>
  if !r54 then
   some p10
  else
   Option.bind (bA N c8 x24) fun(ra28,rb28,rc26) =>
   rec3 ((v17,w64 (v18+1),ra28,ra28))
 else
  some p10
def dg (N:Nat)(l1:FrameLaw)(sheet1:List Int):Option (FramePlay) :=
 Option.bind (bL N l1) fun r2 =>
 Option.bind (
  Option.bind (cS N l1 sheet1) fun(ra16,rb16) =>
  Option.bind (bL N ra16) fun r30 =>
  loopN (fun rec3 x=>cd N rb16 rec3 x.1 x.2.1 x.2.2.1 x.2.2.2) N (((rb16.length:Int),0,r30,r2))
 ) fun p6 =>
 some p6
def eC (N:Nat)(rb16:List Int)(rec3:(Int×Int×FramePlay×(List (List Int)))→Option ((List (List Int))))(v17:Int)(v18:Int)(c8:FramePlay)(l179:List (List Int)):Option ((List (List Int))) :=
 if decide (v18<v17)then
  Option.bind (idx rb16 v18) fun x68 =>
  Option.bind (dx N c8 x68) fun r58 =>
  if !r58 then
   some l179
  else
   Option.bind (bA N c8 x68) fun(ra28,rb28,rc26) =>
   Option.bind (
    if decide (c8.fAt.fFrame=(l179.length:Int))then
     Option.bind (app N l179 [[]]) fun l218 =>
     some l218
    else
     some l179
   ) fun l217 =>
   Option.bind (idx l217 c8.fAt.fFrame) fun x72 =>
   Option.bind (app N x72 ([x68])) fun l219 =>
   rec3 ((v17,w64 (v18+1),ra28,(List.set l217 (Int.toNat c8.fAt.fFrame) l219)))
 else
  some l179
def gm (N:Nat)(l1:FrameLaw)(balls1:List Int):Option (FrameGame×Int) :=
 Option.bind (fj N l1 balls1) fun r4 =>
 if !decide (r4=0)then
  some (((FrameGame.mk ([]) ([]) 0 false),r4))
 else
  Option.bind (gC N l1 balls1) fun r6 =>
  Option.bind (
   Option.bind (cS N l1 balls1) fun(ra16,rb16) =>
   Option.bind (bL N ra16) fun r34 =>
   loopN (fun rec3 x=>eC N rb16 rec3 x.1 x.2.1 x.2.2.1 x.2.2.2) N (((rb16.length:Int),0,r34,[]))
  ) fun l111 =>
  Option.bind (dg N l1 balls1) fun r60 =>
  Option.bind (
   Option.bind (cT N r60) fun r64 =>
   if !r64 then
    some (r60.fAt.fStanding,r64)
   else
    some (0,r64)
  ) fun(c11,c12) =>
  some (((FrameGame.mk l111 r6 c11 c12),0))
def iQ (N:Nat)(n1:List Int)(c1:DeskWork):Option ((DeskRefusal×DeskWork)⊕DeskWork) :=
 Option.bind (idx n1 0) fun x2 =>
 Option.bind (gf N x2 c1) fun z2 =>
 match z2 with
 | .inl r3 =>
  some (.inl (r3,c1))
 | .inr r4 =>
  Option.bind (idx n1 1) fun x4 =>
  Option.bind (jw N r4.fBalls x4) fun r6 =>
  Option.bind (
   Option.bind (iP N) fun r8 =>
   Option.bind (gm N r8 r6) fun(ra2,rb2) =>
   some rb2
  ) fun e2 =>
  Option.bind (b7 N (decide (e2=0)) 10) fun z4 =>
  match z4 with
  | .inl r10 =>
   some (.inl (r10,c1))
  | .inr _ =>
   Option.bind (idx n1 0) fun x5 =>
   Option.bind (gU N x5 (DeskLane.mk r4.fBowler r6) c1) fun r11 =>
   some (.inr r11)
def yO (N:Nat)(n1:List Int)(c1:DeskWork):Option ((DeskRefusal×DeskWork)⊕DeskWork) :=
 Option.bind (idx n1 0) fun x2 =>
 Option.bind (gf N x2 c1) fun z2 =>
 match z2 with
 | .inl r3 =>
  some (.inl (r3,c1))
 | .inr r4 =>
  Option.bind (b7 N (decide (0<(r4.fBalls.length:Int))) 8) fun z4 =>
  match z4 with
  | .inl r6 =>
   some (.inl (r6,c1))
  | .inr _ =>
   Option.bind (slc r4.fBalls 0 (w64 ((r4.fBalls.length:Int)-1))) fun l2 =>
   Option.bind (cG N l2) fun r8 =>
   Option.bind (gU N x2 (DeskLane.mk r4.fBowler r8) c1) fun r9 =>
   some (.inr r9)
def iR (N:Nat)(lane1:Int)(x1:DeskLane)(c1:List Int)(c2:List DeskLane)(c3:List RateSheet)(c4:List Int)(c5:List LadderResult)(l1:List (List Int)):Option ((List Int)×(List DeskLane)×(List (List Int))×(List RateSheet)×(List Int)×(List LadderResult)×(List (List Int))) :=
 Option.bind (fh N c2) fun r2 =>
 Option.bind (idx r2 lane1) fun x2 =>
 some ((c1,(List.set r2 (Int.toNat lane1) x1),l1,c3,c4,c5,l1))
def g8 (N:Nat)(n1:List Int)(c1:DeskWork):Option ((DeskRefusal×DeskWork)⊕DeskWork) :=
 Option.bind (idx n1 0) fun x2 =>
 Option.bind (gf N x2 c1) fun z2 =>
 match z2 with
 | .inl r3 =>
  some (.inl (r3,c1))
 | .inr r4 =>
  Option.bind (
   Option.bind (iP N) fun r6 =>
   Option.bind (gm N r6 r4.fBalls) fun(ra2,rb2) =>
   some ra2
  ) fun c3 =>
  Option.bind (b7 N c3.fDone 8) fun z4 =>
  match z4 with
  | .inl r8 =>
   some (.inl (r8,c1))
  | .inr _ =>
   Option.bind (gd N c1.fState.fKept) fun r10 =>
   Option.bind (idx r10 r4.fBowler) fun x5 =>
   Option.bind (idx c3.fCounts (w64 ((c3.fCounts.length:Int)-1))) fun x6 =>
   Option.bind (jw N x5 x6) fun r12 =>
   Option.bind (idx n1 0) fun x7 =>
   Option.bind (iR N x7 ((DeskLane.mk (-1) ([]))) c1.fState.fBowlers c1.fState.fLanes c1.fState.fSheets c1.fState.fWithdrawn c1.fState.fResults ((List.set r10 (Int.toNat r4.fBowler) r12))) fun(ra3,rb3,rc1,rd1,re1,rf1,rg1) =>
   some (.inr ((DeskWork.mk (DeskState.mk ra3 rb3 rc1 rd1 re1 rf1))))
def jl (N:Nat)  : Option (Unit) :=
 some ()
def dR (N:Nat)(s1:List RateSheet):Option ((List RateSheet)) :=
 Option.bind (app N ([]) s1) fun l2 =>
 some l2
def gD (N:Nat)(l:List RateSheet):Option ((List RateSheet)):=dR N l
def ze (N:Nat)(l1:List RateSheet)(x1:RateSheet):Option ((List RateSheet)) :=
 Option.bind (
  Option.bind (gD N l1) fun r2 =>
  Option.bind (app N r2 ([x1])) fun l5 =>
  some l5
 ) fun l4 =>
 some l4
def yF (N:Nat)(n1:List Int)(c1:DeskWork):Option ((DeskRefusal×DeskWork)⊕DeskWork) :=
 Option.bind (idx n1 0) fun x2 =>
 Option.bind (cJ N x2 1 30) fun r3 =>
 Option.bind (b7 N r3 2) fun z2 =>
 match z2 with
 | .inl r4 =>
  some (.inl (r4,c1))
 | .inr _ =>
  Option.bind (idx n1 1) fun x4 =>
  Option.bind (fg N x4 c1) fun r7 =>
  Option.bind (b7 N r7 7) fun z4 =>
  match z4 with
  | .inl r8 =>
   some (.inl (r8,c1))
  | .inr _ =>
   Option.bind (idx c1.fState.fKept x4) fun x6 =>
   Option.bind (b7 N (decide (3≤(x6.length:Int))) 8) fun z6 =>
   match z6 with
   | .inl r10 =>
    some (.inl (r10,c1))
   | .inr _ =>
    Option.bind (b7 N (decide ((c1.fState.fSheets.length:Int)<40)) 3) fun z8 =>
    match z8 with
    | .inl r12 =>
     some (.inl (r12,c1))
    | .inr _ =>
     Option.bind (
      some ((RateSheet.mk (w64 ((c1.fState.fSheets.length:Int)+1)) x4 x2 (Ar3.mk 0 0 0)))
     ) fun c3 =>
     Option.bind (
      Option.bind (slc x6 (w64 ((x6.length:Int)-3)) (x6.length:Int)) fun l2 =>
      Option.bind (idx l2 0) fun x10 =>
      Option.bind (idx l2 1) fun x11 =>
      Option.bind (idx l2 2) fun x12 =>
      some ((w64 ((x6.length:Int)-3),(RateSheet.mk c3.fNumber c3.fBowler c3.fWeek (Ar3.mk x10 x11 x12))))
     ) fun(from2,c5) =>
     Option.bind (gd N c1.fState.fKept) fun r14 =>
     Option.bind (idx n1 1) fun x15 =>
     Option.bind (slc x6 0 from2) fun l4 =>
     Option.bind (cG N l4) fun r16 =>
     Option.bind (idx r14 x15) fun x16 =>
     Option.bind (ze N c1.fState.fSheets c5) fun r17 =>
     some (.inr ((DeskWork.mk (DeskState.mk c1.fState.fBowlers c1.fState.fLanes (List.set r14 (Int.toNat x15) r16) r17 c1.fState.fWithdrawn c1.fState.fResults))))
def zw (N:Nat)(x1:Int):Option (Bool) :=
 some (!decide (x1=x1))
def zK (N:Nat)(x1:Int)(y1:Int):Option (Bool) :=
 Option.bind (
  Option.bind (zw N x1) fun r3 =>
  if r3 then
   Option.bind (zw N y1) fun r4 =>
   if !r4 then
    some true
   else
    some (decide (x1<y1))
  else
   some (decide (x1<y1))
 ) fun v2 =>
 some v2
def yX (N:Nat)(x1:Int):Option (Bool) :=
 some (!decide (x1=x1))
def yi (N:Nat)(x1:List Int)(target1:Int)(n12:Int)(i9:Int)(j10:Int)(rec3:(Int×Int×Int)→Option (Int×Int))  : Option (Int×Int) :=
 Option.bind (idx x1 (w64 (Bs .u64 (Go.IntKind.wrap .u64 (w64 (i9+j10))) 1))) fun x13 =>
 Option.bind (zK N x13 target1) fun r12 =>
 if r12 then
  rec3 ((n12,w64 ((w64 (Bs .u64 (Go.IntKind.wrap .u64 (w64 (i9+j10))) 1))+1),j10))
 else
  rec3 ((n12,i9,w64 (Bs .u64 (Go.IntKind.wrap .u64 (w64 (i9+j10))) 1)))
def ls (N:Nat)(x1:List Int)(target1:Int)(rec3:(Int×Int×Int)→Option (Int×Int))(n12:Int)(i9:Int)(j10:Int):Option (Int×Int) :=
 if decide (i9<j10)then
  yi N x1 target1 n12 i9 j10 rec3
 else
  some (n12,i9)
def xX (N:Nat)(x1:List Int)(target1:Int):Option (Int×Bool) :=
 Option.bind (
  loopN (fun rec3 x=>ls N x1 target1 rec3 x.1 x.2.1 x.2.2) N (((x1.length:Int),0,(x1.length:Int)))
 ) fun(n7,i5) =>
 Option.bind (
  if decide (i5<n7)then
   Option.bind (idx x1 i5) fun x15 =>
   if decide (x15=target1)then
    some true
   else
    Option.bind (yX N x15) fun r15 =>
    if r15 then
     Option.bind (yX N target1) fun r16 =>
     some r16
    else
     some false
  else
   some false
 ) fun v2 =>
 some (i5,v2)
def yz (N:Nat)(n1:List Int)(c1:DeskWork):Option ((DeskRefusal×DeskWork)⊕DeskWork) :=
 Option.bind (idx n1 0) fun x2 =>
 Option.bind (cJ N x2 1 (c1.fState.fSheets.length:Int)) fun r3 =>
 Option.bind (b7 N r3 7) fun z2 =>
 match z2 with
 | .inl r4 =>
  some (.inl (r4,c1))
 | .inr _ =>
  Option.bind (xX N c1.fState.fWithdrawn x2) fun(ra2,rb2) =>
  Option.bind (b7 N (!rb2) 6) fun z4 =>
  match z4 with
  | .inl r6 =>
   some (.inl (r6,c1))
  | .inr _ =>
   Option.bind (cG N c1.fState.fWithdrawn) fun r7 =>
   Option.bind (BJ N ra2 r7 ([x2])) fun r8 =>
   some (.inr ((DeskWork.mk (DeskState.mk c1.fState.fBowlers c1.fState.fLanes c1.fState.fKept c1.fState.fSheets r8 c1.fState.fResults))))
def jB (N:Nat)(c1:DeskWork):Option (LadderCup) :=
 some ((LadderCup.mk 1 (c1.fState.fBowlers.length:Int) 1 c1.fState.fResults))
def gI (N:Nat)(r1:LadderResult):Option (Bool) :=
 some (decide ((r1.fGames.length:Int)≤5))
def kD (N:Nat)(x1:LadderResult):Option (Bool) :=
 Option.bind (gI N x1) fun r2 =>
 some (!r2)
def dh (N:Nat)   : Option (Int) :=
 some (-1)
def bD (N:Nat)(s1:List LadderResult)(rec3:(Int×Int)→Option (Int))(v17:Int)(v18:Int):Option (Int) :=
 if decide (v18<v17)then
  Option.bind (idx s1 v18) fun x24 =>
  Option.bind (kD N x24) fun r24 =>
  if r24 then
   some v18
  else
   rec3 ((v17,w64 (v18+1)))
 else
  dh N
def eG (N:Nat)(s1:List LadderResult):Option (Int) :=
 loopN (fun rec3 x=>bD N s1 rec3 x.1 x.2) N (((s1.length:Int),0))
def KA (N:Nat)(s1:List LadderResult):Option (Bool) :=
 Option.bind (eG N s1) fun r2 =>
 some (decide (0≤r2))
def lM (N:Nat)(l1:List LadderResult):Option (Bool) :=
 Option.bind (KA N l1) fun r2 =>
 some (!r2)
def eH (N:Nat)(n1:Int)(low1:Int)(high1:Int):Option (Bool) :=
 Option.bind (
  if decide (low1≤n1)then
   some (decide (n1≤high1))
  else
   some false
 ) fun v2 =>
 some v2
def gJ (N:Nat)(c1:LadderCup):Option (Int) :=
 Option.bind (
  if decide (1<c1.fForm)then
   some true
  else
   Option.bind (eH N c1.fPlayers 2 16) fun r7 =>
   if !r7 then
    some true
   else
    Option.bind (eH N c1.fGames 1 5) fun r8 =>
    if !r8 then
     some true
    else
     some (decide ((Int.tmod c1.fGames 2)=0))
 ) fun v4 =>
 if v4 then
  some 1
 else
  some 0
def gK (N:Nat)(r1:LadderResult)(a1:LadderCup):Option (Bool) :=
 Option.bind (
  Option.bind (eH N r1.fMatch 0 (w64 (a1.fPlayers-2))) fun r3 =>
  if r3 then
   some (decide (0<(r1.fGames.length:Int)))
  else
   some false
 ) fun v2 =>
 some v2
def jC (N:Nat)(x1:LadderResult)(a1:LadderCup):Option (Bool) :=
 Option.bind (gK N x1 a1) fun r2 =>
 some (!r2)
def yx (N:Nat)   : Option (Int) :=
 some (-1)
def xW (N:Nat)(s1:List LadderResult)(f1:LadderCup)(rec3:(Int×Int)→Option (Int))(v17:Int)(v18:Int):Option (Int) :=
 if decide (v18<v17)then
  Option.bind (idx s1 v18) fun x24 =>
  Option.bind (jC N x24 f1) fun r24 =>
  if r24 then
   some v18
  else
   rec3 ((v17,w64 (v18+1)))
 else
  yx N
def d4 (N:Nat)(s1:List LadderResult)(f1:LadderCup):Option (Int) :=
 loopN (fun rec3 x=>xW N s1 f1 rec3 x.1 x.2) N (((s1.length:Int),0))
def cU (N:Nat)(s1:List LadderResult)(f1:LadderCup):Option (Bool) :=
 Option.bind (d4 N s1 f1) fun r2 =>
 some (decide (0≤r2))
def kE (N:Nat)(l1:List LadderResult)(right1:LadderCup):Option (Bool) :=
 Option.bind (cU N l1 right1) fun r2 =>
 some (!r2)
def gi (N:Nat)(n1:Int):Option (LadderSide) :=
 some ((LadderSide.mk n1 (-1)))
def y8 (N:Nat)(n1:Int):Option (LadderSide) :=
 some ((LadderSide.mk (-1) n1))
def bV (N:Nat) (rec3:(Int×Int×(List LadderPair))→Option ((List LadderPair)))(last10:Int)(n9:Int)(l21:List LadderPair):Option ((List LadderPair)) :=
 if decide (n9<last10)then
  Option.bind (gi N (w64 ((w64 (last10-1))-n9))) fun r27 =>
  Option.bind (y8 N (w64 (n9-1))) fun r28 =>
  Option.bind (app N l21 ([(LadderPair.mk r27 r28)])) fun l23 =>
  rec3 ((last10,w64 (n9+1),l23))
 else
  some l21
def fX (N:Nat)(c1:LadderCup):Option ((List LadderPair)) :=
 Option.bind (gi N (w64 ((w64 (c1.fPlayers-1))-1))) fun r3 =>
 Option.bind (gi N (w64 (c1.fPlayers-1))) fun r4 =>
 Option.bind (
  loopN (fun rec3 x=>bV N rec3 x.1 x.2.1 x.2.2) N ((w64 (c1.fPlayers-1),1,[(LadderPair.mk r3 r4)]))
 ) fun l12 =>
 some l12
def ie (N:Nat)(c1:LadderCup):Option ((List LadderPair)) :=
 if decide (c1.fForm=1)then
  Option.bind (fX N c1) fun r4 =>
  some r4
 else
  none
def jD (N:Nat)  : Option (Unit) :=
 some ()
def fY (N:Nat)(p1:LadderPair):Option (LadderSide) :=
 some p1.fFirst
def eJ (N:Nat)(l1:List Int)(rec3:(Int×Int×Int)→Option (Int))(n10:Int)(v17:Int)(v18:Int):Option (Int) :=
 if decide (v18<v17)then
  Option.bind (idx l1 v18) fun x24 =>
  rec3 ((w64 (n10+x24),v17,w64 (v18+1)))
 else
  some n10
def gq (N:Nat)(l1:List Int):Option (Int) :=
 Option.bind (
  loopN (fun rec3 x=>eJ N l1 rec3 x.1 x.2.1 x.2.2) N ((0,(l1.length:Int),0))
 ) fun n6 =>
 some n6
def Kb (N:Nat)(p1:LadderPair):Option (LadderSide) :=
 some p1.fSecond
def zf (N:Nat)   : Option (Int) :=
 some (-1)
def yA (N:Nat)(s1:List Int)(v1:Int)(rec3:(Int×Int)→Option (Int))(v18:Int)(v19:Int):Option (Int) :=
 if decide (v19<v18)then
  Option.bind (idx s1 v19) fun x24 =>
  if decide (v1=x24)then
   some v19
  else
   rec3 ((v18,w64 (v19+1)))
 else
  zf N
def zx (N:Nat)(s1:List Int)(v1:Int):Option (Int) :=
 loopN (fun rec3 x=>yA N s1 v1 rec3 x.1 x.2) N (((s1.length:Int),0))
def yP (N:Nat)(s1:List Int)(v1:Int):Option (Bool) :=
 Option.bind (zx N s1 v1) fun r2 =>
 some (decide (0≤r2))
def eE (N:Nat)(games1:List Int)(x52:Ar2 Int)(rec7:(Int×Int×(Ar2 Int))→Option ((Ar2 Int)))(v53:Int)(v54:Int)(c66:Ar2 Int):Option ((Ar2 Int)) :=
 if decide (v54<v53)then
  Option.bind (
   Option.bind (idx games1 v54) fun x76 =>
   if decide (x76=x52.a0)then
    Option.bind (gq N ([c66.a0,1])) fun r36 =>
    some (Ar2.mk r36 c66.a1)
   else
    some c66
  ) fun c68 =>
  rec7 ((v53,w64 (v54+1),c68))
 else
  some c66
def eS (N:Nat)(games1:List Int)(x52:Ar2 Int)(rec9:(Int×Int×(Ar2 Int))→Option ((Ar2 Int)))(v71:Int)(v72:Int)(c87:Ar2 Int):Option ((Ar2 Int)) :=
 if decide (v72<v71)then
  Option.bind (
   Option.bind (idx games1 v72) fun x100 =>
   if decide (x100=x52.a1)then
    Option.bind (gq N ([c87.a1,1])) fun r48 =>
    some (Ar2.mk c87.a0 r48)
   else
    some c87
  ) fun c89 =>
  rec9 ((v71,w64 (v72+1),c89))
 else
  some c87
def xS (N:Nat)(match1:Int)(games1:List Int)(c1:Int)(c2:Int)(c3:Int)(c4:List LadderResult)(c5:List LadderPair)(m1:List (Int×LadderResult))(l1:List (Ar2 Int)):Option ((Ar2 Int)) :=
 Option.bind (idx l1 match1) fun x52 =>
 Option.bind (
  loopN (fun rec7 x=>eE N games1 x52 rec7 x.1 x.2.1 x.2.2) N (((games1.length:Int),0,(Ar2.mk 0 0)))
 ) fun c58 =>
 Option.bind (
  loopN (fun rec9 x=>eS N games1 x52 rec9 x.1 x.2.1 x.2.2) N (((games1.length:Int),0,c58))
 ) fun c79 =>
 some c79
def xP (N:Nat)(match1:Int)(games1:List Int)(c1:Int)(c2:Int)(c3:Int)(c4:List LadderResult)(c5:List LadderPair)(m1:List (Int×LadderResult))(l1:List (Ar2 Int)):Option (Int) :=
 Option.bind (xS N match1 games1 c1 c2 c3 c4 c5 m1 l1) fun r4 =>
 if decide (c3<(w64 (2*r4.a0)))then
  Option.bind (idx l1 match1) fun x12 =>
  some x12.a0
 else
  if decide (c3<(w64 (2*r4.a1)))then
   Option.bind (idx l1 match1) fun x16 =>
   some x16.a1
  else
   some (-1)
def fw (N:Nat)(r1:LadderResult)(c1:Int)(c2:Int)(c3:Int)(c4:List LadderResult)(c5:List LadderPair)(m1:List (Int×LadderResult))(l1:List (Ar2 Int))(x2:Ar2 Int)(rec3:(Int×Int)→Option (Bool))(v41:Int)(v42:Int):Option (Bool) :=
 if decide (v42<v41)then
  Option.bind (idx r1.fGames v42) fun x26 =>
  Option.bind (
   Option.bind (yP N ([x2.a0,x2.a1]:List Int) x26) fun r48 =>
   if !r48 then
    some true
   else
    Option.bind (slc r1.fGames 0 v42) fun l25 =>
    Option.bind (xP N r1.fMatch l25 c1 c2 c3 c4 c5 m1 l1) fun r49 =>
    some (!decide (r49=(-1)))
  ) fun v46 =>
  if v46 then
   some false
  else
   rec3 ((v41,w64 (v42+1)))
 else
  some true
def yg (N:Nat)(r1:LadderResult)(c1:Int)(c2:Int)(c3:Int)(c4:List LadderResult)(c5:List LadderPair)(m1:List (Int×LadderResult))(l1:List (Ar2 Int)):Option (Bool) :=
 Option.bind (idx l1 r1.fMatch) fun x2 =>
 Option.bind (
  if decide (x2.a0=(-1))then
   some true
  else
   some (decide (x2.a1=(-1)))
 ) fun v4 =>
 if v4 then
  some false
 else
  Option.bind (
   loopN (fun rec3 x=>fw N r1 c1 c2 c3 c4 c5 m1 l1 x2 rec3 x.1 x.2) N (((r1.fGames.length:Int),0))
  ) fun fair2 =>
  some fair2
def dq (N:Nat)(match1:Int)(c1:Int)(c2:Int)(c3:Int)(c4:List LadderResult)(c5:List LadderPair)(m1:List (Int×LadderResult))(l1:List (Ar2 Int)):Option (Int) :=
 Option.bind (mgt m1 match1 ((LadderResult.mk 0 ([]) false))) fun(v2,is2) =>
 if !is2 then
  some (-1)
 else
  Option.bind (xP N match1 v2.fGames c1 c2 c3 c4 c5 m1 l1) fun r2 =>
  some r2
def yJ (N:Nat)(c1:Int)(c2:Int)(c3:Int)(c4:List LadderResult)(c5:List LadderPair)(l17:List (Ar2 Int)):Option (Bool×Int×Int×Int×(List LadderResult)×(List LadderPair)×(List (Ar2 Int))) :=
 some (true,c1,c2,c3,c4,c5,l17)
def Fa (N:Nat)(c1:Int)(c2:Int)(c3:Int)(c4:List LadderResult)(c5:List LadderPair)(m1:List (Int×LadderResult))(rec3:(Int×Int×(List (Ar2 Int)))→Option (Bool×Int×Int×Int×(List LadderResult)×(List LadderPair)×(List (Ar2 Int))))(v57:Int)(v58:Int)(l29:List (Ar2 Int)):Option (Bool×Int×Int×Int×(List LadderResult)×(List LadderPair)×(List (Ar2 Int))) :=
 if decide (v58<v57)then
  Option.bind (idx c5 v58) fun x24 =>
  Option.bind (jD N) fun _ =>
  Option.bind (
   Option.bind (fY N x24) fun r303 =>
   if decide (r303.fMatch=(-1))then
    some ((Ar2.mk r303.fPlayer (-1)))
   else
    Option.bind (dq N r303.fMatch c1 c2 c3 c4 c5 m1 l29) fun r304 =>
    some ((Ar2.mk r304 (-1)))
  ) fun c99 =>
  Option.bind (
   Option.bind (Kb N x24) fun r309 =>
   if decide (r309.fMatch=(-1))then
    some (Ar2.mk c99.a0 r309.fPlayer)
   else
    Option.bind (dq N r309.fMatch c1 c2 c3 c4 c5 m1 l29) fun r310 =>
    some (Ar2.mk c99.a0 r310)
  ) fun c101 =>
  Option.bind (app N l29 ([c101])) fun l33 =>
  Option.bind (mgt m1 v58 ((LadderResult.mk 0 ([]) false))) fun(v64,is24) =>
  Option.bind (
   if is24 then
    Option.bind (yg N v64 c1 c2 c3 c4 c5 m1 l33) fun r312 =>
    some (!r312)
   else
    some false
  ) fun v66 =>
  if v66 then
   some (false,c1,c2,c3,c4,c5,l33)
  else
   rec3 ((v57,w64 (v58+1),l33))
 else
  yJ N c1 c2 c3 c4 c5 l29
def fZ (N:Nat)(c1:Int)(c2:Int)(c3:Int)(c4:List LadderResult)(c5:List LadderPair)(m1:List (Int×LadderResult)):Option (Bool×Int×Int×Int×(List LadderResult)×(List LadderPair)×(List (Ar2 Int))) :=
 loopN (fun rec3 x=>Fa N c1 c2 c3 c4 c5 m1 rec3 x.1 x.2.1 x.2.2) N (((c5.length:Int),0,[]))
def yC (N:Nat)(c1:LadderCup)(r14:List LadderPair)(m5:List (Int×LadderResult)):Option (Int⊕(Int×Int×Int×Int×(List LadderResult)×(List LadderPair)×(List (Int×LadderResult))×(List (Ar2 Int)))) :=
 Option.bind (fZ N c1.fForm c1.fPlayers c1.fGames c1.fResults r14 m5) fun(ra4,rb4,rc4,rd4,re4,rf4,rg4) =>
 if !ra4 then
  some (.inl 10)
 else
  some (.inr (0,rb4,rc4,rd4,re4,rf4,m5,rg4))
def dy (N:Nat)(c1:LadderCup)(r14:List LadderPair)(rec3:(Int×Int×(List (Int×LadderResult)))→Option (Int⊕(Int×Int×Int×Int×(List LadderResult)×(List LadderPair)×(List (Int×LadderResult))×(List (Ar2 Int)))))(v65:Int)(v66:Int)(m9:List (Int×LadderResult)):Option (Int⊕(Int×Int×Int×Int×(List LadderResult)×(List LadderPair)×(List (Int×LadderResult))×(List (Ar2 Int)))) :=
 if decide (v66<v65)then
  Option.bind (idx c1.fResults v66) fun x24 =>
  Option.bind (
   Option.bind (mgt m9 x24.fMatch ((LadderResult.mk 0 ([]) false))) fun(v74,is96) =>
   some is96
  ) fun is95 =>
  if is95 then
   some (.inl 6)
  else
   rec3 ((v65,w64 (v66+1),(mput m9 x24.fMatch x24)))
 else
  yC N c1 r14 m9
def yT (N:Nat)(c1:LadderCup)(r14:List LadderPair)(m14:List (Int×LadderResult)):Option (Int⊕(Int×Int×Int×Int×(List LadderResult)×(List LadderPair)×(List (Int×LadderResult))×(List (Ar2 Int)))) :=
 Option.bind (fZ N c1.fForm c1.fPlayers c1.fGames c1.fResults r14 m14) fun(ra8,rb8,rc8,rd8,re8,rf8,rg8) =>
 if !ra8 then
  some (.inl 10)
 else
  some (.inr (0,rb8,rc8,rd8,re8,rf8,m14,rg8))
def yD (N:Nat)(c1:LadderCup)(r14:List LadderPair)(rec5:(Int×Int×(List (Int×LadderResult)))→Option (Int⊕(Int×Int×Int×Int×(List LadderResult)×(List LadderPair)×(List (Int×LadderResult))×(List (Ar2 Int)))))(v131:Int)(v132:Int)(m18:List (Int×LadderResult)):Option (Int⊕(Int×Int×Int×Int×(List LadderResult)×(List LadderPair)×(List (Int×LadderResult))×(List (Ar2 Int)))) :=
 if decide (v132<v131)then
  Option.bind (idx c1.fResults v132) fun x48 =>
  Option.bind (
   Option.bind (mgt m18 x48.fMatch ((LadderResult.mk 0 ([]) false))) fun(v140,is192) =>
   some is192
  ) fun is191 =>
  if is191 then
   some (.inl 6)
  else
   rec5 ((v131,w64 (v132+1),(mput m18 x48.fMatch x48)))
 else
  yT N c1 r14 m18
def ig (N:Nat)(c1:LadderCup):Option (Int⊕(Int×Int×Int×Int×(List LadderResult)×(List LadderPair)×(List (Int×LadderResult))×(List (Ar2 Int)))) :=
 Option.bind (
  if decide (15<(c1.fResults.length:Int))then
   some true
  else
   Option.bind (lM N c1.fResults) fun r8 =>
   some (!r8)
 ) fun v6 =>
 if v6 then
  some (.inl 3)
 else
  Option.bind (
   Option.bind (gJ N c1) fun r11 =>
   if !decide (r11=0)then
    some true
   else
    Option.bind (kE N c1.fResults c1) fun r12 =>
    some (!r12)
  ) fun v8 =>
  if v8 then
   some (.inl 1)
  else
   Option.bind (ie N c1) fun r14 =>
   loopN (fun rec3 x=>dy N c1 r14 rec3 x.1 x.2.1 x.2.2) N (((c1.fResults.length:Int),0,([]:List (Int×LadderResult))))
def yQ (N:Nat)(c1:Int)(c2:Int)(c3:Int)(c4:List LadderResult)(c5:List LadderPair)(m1:List (Int×LadderResult))(l1:List (Ar2 Int)):Option (Unit) :=
 some ()
def rc (N:Nat)(c1:Int)(c2:Int)(c3:Int)(c4:List LadderResult)(c5:List LadderPair)(m1:List (Int×LadderResult))(l1:List (Ar2 Int))(rec3:(Int×Int×(List LadderMatch))→Option ((List LadderMatch)))(v77:Int)(v78:Int)(l40:List LadderMatch):Option ((List LadderMatch)) :=
 if decide (v78<v77)then
  Option.bind (
   Option.bind (idx l1 v78) fun x24 =>
   Option.bind (
    if decide (x24.a0=(-1))then
     some true
    else
     if decide (x24.a1=(-1))then
      some true
     else
      Option.bind (dq N v78 c1 c2 c3 c4 c5 m1 l1) fun r70 =>
      some (!decide (r70=(-1)))
   ) fun v88 =>
   if v88 then
    some l40
   else
    Option.bind (
     Option.bind (mgt m1 v78 ((LadderResult.mk 0 ([]) false))) fun(v90,is24) =>
     Option.bind (xS N v78 v90.fGames c1 c2 c3 c4 c5 m1 l1) fun r72 =>
     some r72
    ) fun c29 =>
    Option.bind (app N l40 ([(LadderMatch.mk v78 x24.a0 x24.a1 c29.a0 c29.a1)])) fun l46 =>
    some l46
  ) fun l44 =>
  rec3 ((v77,w64 (v78+1),l44))
 else
  some l40
def yI (N:Nat)(c1:Int)(c2:Int)(c3:Int)(c4:List LadderResult)(c5:List LadderPair)(m1:List (Int×LadderResult))(l1:List (Ar2 Int)):Option ((List LadderMatch)) :=
 Option.bind (
  loopN (fun rec3 x=>rc N c1 c2 c3 c4 c5 m1 l1 rec3 x.1 x.2.1 x.2.2) N (((l1.length:Int),0,[]))
 ) fun l24 =>
 some l24
def yG (N:Nat)(c1:Int)(c2:Int)(c3:Int)(c4:List LadderResult)(c5:List LadderPair)(m1:List (Int×LadderResult))(l1:List (Ar2 Int)):Option ((List LadderMatch)) :=
 Option.bind (yI N c1 c2 c3 c4 c5 m1 l1) fun r2 =>
 some r2
def yh (N:Nat)(c1:LadderCup):Option ((List LadderMatch)×Int) :=
 Option.bind (ig N c1) fun z2 =>
 match z2 with
 | .inl r2 =>
  if !decide (r2=0)then
   some ([],r2)
  else
   none
 | .inr (ra2,rb2,rc2,rd2,re2,rf2,rg2,rh2) =>
  if !decide (ra2=0)then
   some ([],ra2)
  else
   Option.bind (yQ N rb2 rc2 rd2 re2 rf2 rg2 rh2) fun _ =>
   Option.bind (yG N rb2 rc2 rd2 re2 rf2 rg2 rh2) fun r4 =>
   some (r4,0)
def zm (N:Nat)  : Option (Unit) :=
 some ()
def yp (N:Nat)(s1:List LadderResult):Option ((List LadderResult)) :=
 Option.bind (app N ([]) s1) fun l2 =>
 some l2
def yk (N:Nat)(l:List LadderResult):Option ((List LadderResult)):=yp N l
def yY (N:Nat)(l1:List LadderResult)(x1:LadderResult):Option ((List LadderResult)) :=
 Option.bind (
  Option.bind (yk N l1) fun r2 =>
  Option.bind (app N r2 ([x1])) fun l5 =>
  some l5
 ) fun l4 =>
 some l4
def yw (N:Nat)(n1:List Int)(c1:DeskWork)(ra2:List LadderMatch)  : Option ((DeskRefusal×DeskWork)⊕DeskWork) :=
 Option.bind (idx ra2 0) fun x3 =>
 Option.bind (idx n1 0) fun x4 =>
 Option.bind (yY N c1.fState.fResults ((LadderResult.mk x3.fNumber ([x4]) false))) fun r7 =>
 some (.inr ((DeskWork.mk (DeskState.mk c1.fState.fBowlers c1.fState.fLanes c1.fState.fKept c1.fState.fSheets c1.fState.fWithdrawn r7))))
def yR (N:Nat)(n1:List Int)(c1:DeskWork):Option ((DeskRefusal×DeskWork)⊕DeskWork) :=
 Option.bind (jB N c1) fun r2 =>
 Option.bind (yh N r2) fun(ra2,rb2) =>
 Option.bind (b7 N (decide (0<(ra2.length:Int))) 8) fun z2 =>
 match z2 with
 | .inl r4 =>
  some (.inl (r4,c1))
 | .inr _ =>
  Option.bind (idx n1 0) fun x5 =>
  Option.bind (idx ra2 0) fun x6 =>
  if decide (x5=x6.fFirst)then
   Option.bind (b7 N true 10) fun z5 =>
   match z5 with
   | .inl r8 =>
    some (.inl (r8,c1))
   | .inr _ =>
    yw N n1 c1 ra2
  else
   Option.bind (b7 N (decide (x5=x6.fSecond)) 10) fun z6 =>
   match z6 with
   | .inl r9 =>
    some (.inl (r9,c1))
   | .inr _ =>
    yw N n1 c1 ra2
def yB (N:Nat)(r1:LadderResult)(a1:List Int):Option (Bool) :=
 Option.bind (idx a1 0) fun x2 =>
 some (decide (r1.fMatch=x2))
def yr (N:Nat)   : Option (Int) :=
 some (-1)
def xU (N:Nat)(s1:List LadderResult)(f1:List Int)(rec3:(Int×Int)→Option (Int))(v17:Int)(v18:Int):Option (Int) :=
 if decide (v18<v17)then
  Option.bind (idx s1 v18) fun x24 =>
  Option.bind (yB N x24 f1) fun r24 =>
  if r24 then
   some v18
  else
   rec3 ((v17,w64 (v18+1)))
 else
  yr N
def dE (N:Nat)(s1:List LadderResult)(f1:List Int):Option (Int) :=
 loopN (fun rec3 x=>xU N s1 f1 rec3 x.1 x.2) N (((s1.length:Int),0))
def yH (N:Nat)(n1:List Int)(c1:DeskWork):Option ((DeskRefusal×DeskWork)⊕DeskWork) :=
 Option.bind (dE N c1.fState.fResults n1) fun r2 =>
 Option.bind (b7 N (decide (0≤r2)) 7) fun z2 =>
 match z2 with
 | .inl r4 =>
  some (.inl (r4,c1))
 | .inr _ =>
  Option.bind (idx c1.fState.fResults r2) fun x2 =>
  Option.bind (b7 N (!x2.fProtested) 6) fun z4 =>
  match z4 with
  | .inl r6 =>
   some (.inl (r6,c1))
  | .inr _ =>
   Option.bind (yk N c1.fState.fResults) fun r8 =>
   Option.bind (idx r8 r2) fun x3 =>
   some (.inr ((DeskWork.mk (DeskState.mk c1.fState.fBowlers c1.fState.fLanes c1.fState.fKept c1.fState.fSheets c1.fState.fWithdrawn (List.set r8 (Int.toNat r2) (LadderResult.mk x3.fMatch x3.fGames true))))))
def fV (N:Nat)(c1:DeskWork)(c3:DeskAct)(l13:List Int):Option ((DeskRefusal×DeskWork)⊕DeskWork) :=
 if decide (c3.fDo=0)then
  Option.bind (gB N l13 c1) fun z9 =>
  match z9 with
  | .inl (ra1,rb1) =>
   some (.inl (ra1,rb1))
  | .inr r19 =>
   some (.inr r19)
 else
  if decide (c3.fDo=1)then
   Option.bind (iO N l13 c1) fun z10 =>
   match z10 with
   | .inl (ra2,rb2) =>
    some (.inl (ra2,rb2))
   | .inr r20 =>
    some (.inr r20)
  else
   if decide (c3.fDo=2)then
    Option.bind (iQ N l13 c1) fun z11 =>
    match z11 with
    | .inl (ra3,rb3) =>
     some (.inl (ra3,rb3))
    | .inr r21 =>
     some (.inr r21)
   else
    if decide (c3.fDo=3)then
     Option.bind (yO N l13 c1) fun z12 =>
     match z12 with
     | .inl (ra4,rb4) =>
      some (.inl (ra4,rb4))
     | .inr r22 =>
      some (.inr r22)
    else
     if decide (c3.fDo=4)then
      Option.bind (g8 N l13 c1) fun z13 =>
      match z13 with
      | .inl (ra5,rb5) =>
       some (.inl (ra5,rb5))
      | .inr r23 =>
       some (.inr r23)
     else
      if decide (c3.fDo=5)then
       Option.bind (yF N l13 c1) fun z14 =>
       match z14 with
       | .inl (ra6,rb6) =>
        some (.inl (ra6,rb6))
       | .inr r24 =>
        some (.inr r24)
      else
       if decide (c3.fDo=6)then
        Option.bind (yz N l13 c1) fun z15 =>
        match z15 with
        | .inl (ra7,rb7) =>
         some (.inl (ra7,rb7))
        | .inr r25 =>
         some (.inr r25)
       else
        if decide (c3.fDo=7)then
         Option.bind (yR N l13 c1) fun z16 =>
         match z16 with
         | .inl (ra8,rb8) =>
          some (.inl (ra8,rb8))
         | .inr r26 =>
          some (.inr r26)
        else
         if decide (c3.fDo=8)then
          Option.bind (yH N l13 c1) fun z17 =>
          match z17 with
          | .inl (ra9,rb9) =>
           some (.inl (ra9,rb9))
          | .inr r27 =>
           some (.inr r27)
         else
          none
def cN (N:Nat)(c1:DeskWork)(c3:DeskAct)(l15:List (List UInt8))(rec3:(Int×Int×(List Int))→Option ((DeskRefusal×DeskWork)⊕DeskWork))(v19:Int)(v20:Int)(l23:List Int):Option ((DeskRefusal×DeskWork)⊕DeskWork) :=
 if decide (v20<v19)then
  Option.bind (idx l15 v20) fun x26 =>
  Option.bind (L4 N x26) fun z23 =>
  match z23 with
  | .inl r38 =>
   Option.bind (app N l23 ([r38])) fun l25 =>
   rec3 ((v19,w64 (v20+1),l25))
  | .inr r39 =>
   some (.inl (r39,c1))
 else
  fV N c1 c3 l23
def dQ (N:Nat)(c1:DeskWork)(r2:List (List UInt8))(c3:DeskAct)  : Option ((DeskRefusal×DeskWork)⊕DeskWork) :=
 Option.bind (slc r2 1 (r2.length:Int)) fun l15 =>
 loopN (fun rec3 x=>cN N c1 c3 l15 rec3 x.1 x.2.1 x.2.2) N (((l15.length:Int),0,[]))
def iS (N:Nat)(s1:List UInt8)(c1:DeskWork):Option ((DeskRefusal×DeskWork)⊕DeskWork) :=
 Option.bind (wA N s1 ([32]:List UInt8)) fun r2 =>
 Option.bind (
  Option.bind (idx r2 0) fun x2 =>
  Option.bind (nD N) fun r4 =>
  Option.bind (mgt r4 x2 ((DeskAct.mk 0 (-1)))) fun(v2,is4) =>
  some (is4,v2)
 ) fun(is3,c3) =>
 if is3 then
  Option.bind (b7 N (decide ((r2.length:Int)=(w64 (c3.fMany+1)))) 4) fun z24 =>
  match z24 with
  | .inl r40 =>
   some (.inl (r40,c1))
  | .inr _ =>
   dQ N c1 r2 c3
 else
  Option.bind (b7 N false 4) fun z25 =>
  match z25 with
  | .inl r41 =>
   some (.inl (r41,c1))
  | .inr _ =>
   dQ N c1 r2 c3
def iT (N:Nat)(s1:List UInt8)(c1:DeskWork):Option (Int×DeskWork) :=
 match iS N s1 c1 with
 | none=>none
 | some (.inl r)=>some (r.1.fE,c1)
 | some (.inr r)=>some (0,r)
def eD (N:Nat)(lines1:List (List UInt8))(rec3:(Int×Int×DeskWork×(List Int))→Option (DeskWork×(List Int)))(v17:Int)(v18:Int)(c9:DeskWork)(l19:List Int):Option (DeskWork×(List Int)) :=
 if decide (v18<v17)then
  Option.bind (idx lines1 v18) fun x24 =>
  Option.bind (iT N x24 c9) fun(ra12,rb12) =>
  Option.bind (app N l19 ([ra12])) fun l21 =>
  rec3 ((v17,w64 (v18+1),rb12,l21))
 else
  some (c9,l19)
def gn (N:Nat)(lines1:List (List UInt8)):Option ((List Int)×DeskWork) :=
 Option.bind (lG N) fun r2 =>
 Option.bind (
  loopN (fun rec3 x=>eD N lines1 rec3 x.1 x.2.1 x.2.2.1 x.2.2.2) N (((lines1.length:Int),0,r2,[]))
 ) fun(c5,l11) =>
 some (l11,c5)
def bR (N:Nat)(s1:DeskState)(rec3:(Int×Int×(List DeskLane))→Option ((List DeskLane)))(v17:Int)(v18:Int)(l19:List DeskLane):Option ((List DeskLane)) :=
 if decide (v18<v17)then
  Option.bind (idx s1.fLanes v18) fun x24 =>
  Option.bind (cG N x24.fBalls) fun r18 =>
  Option.bind (app N l19 ([(DeskLane.mk x24.fBowler r18)])) fun l21 =>
  rec3 ((v17,w64 (v18+1),l21))
 else
  some l19
def bS (N:Nat)(s1:DeskState)(rec5:(Int×Int×(List (List Int)))→Option ((List (List Int))))(v35:Int)(v36:Int)(l40:List (List Int)):Option ((List (List Int))) :=
 if decide (v36<v35)then
  Option.bind (idx s1.fKept v36) fun x48 =>
  Option.bind (cG N x48) fun r30 =>
  Option.bind (app N l40 ([r30])) fun l42 =>
  rec5 ((v35,w64 (v36+1),l42))
 else
  some l40
def bT (N:Nat)(s1:DeskState)(rec7:(Int×Int×(List LadderResult))→Option ((List LadderResult)))(v53:Int)(v54:Int)(l61:List LadderResult):Option ((List LadderResult)) :=
 if decide (v54<v53)then
  Option.bind (idx s1.fResults v54) fun x72 =>
  Option.bind (cG N x72.fGames) fun r42 =>
  Option.bind (app N l61 ([(LadderResult.mk x72.fMatch r42 x72.fProtested)])) fun l63 =>
  rec7 ((v53,w64 (v54+1),l63))
 else
  some l61
def fW (N:Nat)(s1:DeskState):Option (DeskState) :=
 Option.bind (
  Option.bind (cG N s1.fBowlers) fun r4 =>
  Option.bind (gD N s1.fSheets) fun r5 =>
  Option.bind (cG N s1.fWithdrawn) fun r6 =>
  some (r4,r5,r6)
 ) fun(c4,c5,c6) =>
 Option.bind (
  loopN (fun rec3 x=>bR N s1 rec3 x.1 x.2.1 x.2.2) N (((s1.fLanes.length:Int),0,[]))
 ) fun l11 =>
 Option.bind (
  loopN (fun rec5 x=>bS N s1 rec5 x.1 x.2.1 x.2.2) N (((s1.fKept.length:Int),0,[]))
 ) fun l32 =>
 Option.bind (
  loopN (fun rec7 x=>bT N s1 rec7 x.1 x.2.1 x.2.2) N (((s1.fResults.length:Int),0,[]))
 ) fun l53 =>
 some (DeskState.mk c4 l11 l32 c5 c6 l53)
def nE (N:Nat)(lines1:List (List UInt8)):Option (DeskState×(List Int)×Int) :=
 Option.bind (dw N lines1) fun r4 =>
 if !decide (r4=0)then
  some (((DeskState.mk ([]) ([]) ([]) ([]) ([]) ([])),[],r4))
 else
  Option.bind (gn N lines1) fun(ra2,rb2) =>
  Option.bind (fW N rb2.fState) fun r6 =>
  some (r6,ra2,0)
def ct (N:Nat)(sheet1:List Int)(rec3:(Int×Int×Int×FramePlay)→Option (Int))(n10:Int)(v17:Int)(v18:Int)(p8:FramePlay):Option (Int) :=
 if decide (v18<v17)then
  Option.bind (idx sheet1 v18) fun x24 =>
  Option.bind (bA N p8 x24) fun(ra24,rb24,rc24) =>
  Option.bind (fL N ([n10,rc24])) fun r14 =>
  rec3 ((r14,v17,w64 (v18+1),ra24))
 else
  some n10
def fk (N:Nat)(l1:FrameLaw)(sheet1:List Int):Option (Int) :=
 Option.bind (bL N l1) fun r2 =>
 Option.bind (
  loopN (fun rec3 x=>ct N sheet1 rec3 x.1 x.2.1 x.2.2.1 x.2.2.2) N ((0,(sheet1.length:Int),0,r2))
 ) fun n6 =>
 some n6
def gE (N:Nat)(p1:FramePlay):Option (Int) :=
 some 0
def cu (N:Nat) (rec3:(Int×FramePlay)→Option (Int))(n10:Int)(p8:FramePlay):Option (Int) :=
 Option.bind (cT N p8) fun r62 =>
 if !r62 then
  Option.bind (
   Option.bind (gE N p8) fun r67 =>
   Option.bind (bA N p8 r67) fun(ra24,rb24,rc24) =>
   some (rc24,ra24)
  ) fun(worth24,now24) =>
  Option.bind (fL N ([n10,worth24])) fun r68 =>
  rec3 (r68,now24)
 else
  some n10
def g9 (N:Nat)(l1:FrameLaw)(sheet1:List Int):Option (Int) :=
 Option.bind (fk N l1 sheet1) fun r2 =>
 Option.bind (
  Option.bind (dg N l1 sheet1) fun r37 =>
  loopN (fun rec3 x=>cu N rec3 x.1 x.2) N (r2,r37)
 ) fun n6 =>
 some n6
def LA (N:Nat)(p1:FramePlay):Option (Int) :=
 some p1.fAt.fStanding
def ce (N:Nat) (rec3:(Int×FramePlay)→Option (Int))(n10:Int)(p8:FramePlay):Option (Int) :=
 Option.bind (cT N p8) fun r62 =>
 if !r62 then
  Option.bind (
   Option.bind (LA N p8) fun r67 =>
   Option.bind (bA N p8 r67) fun(ra24,rb24,rc24) =>
   some (rc24,ra24)
  ) fun(worth24,now24) =>
  Option.bind (fL N ([n10,worth24])) fun r68 =>
  rec3 (r68,now24)
 else
  some n10
def gF (N:Nat)(l1:FrameLaw)(sheet1:List Int):Option (Int) :=
 Option.bind (fk N l1 sheet1) fun r2 =>
 Option.bind (
  Option.bind (dg N l1 sheet1) fun r37 =>
  loopN (fun rec3 x=>ce N rec3 x.1 x.2) N (r2,r37)
 ) fun n6 =>
 some n6
def iU (N:Nat)(l1:FrameLaw)(sheet1:List Int):Option (FrameRange) :=
 Option.bind (
  Option.bind (g9 N l1 sheet1) fun r3 =>
  Option.bind (gF N l1 sheet1) fun r4 =>
  some (FrameRange.mk r3 r4)
 ) fun c2 =>
 some c2
def lI (N:Nat)(l1:FrameLaw)(balls1:List Int):Option (FrameRange×Int) :=
 Option.bind (fj N l1 balls1) fun r4 =>
 if !decide (r4=0)then
  some (((FrameRange.mk 0 0),r4))
 else
  Option.bind (iU N l1 balls1) fun r6 =>
  some (r6,0)
def lJ (N:Nat)(lines1:List (List UInt8))(lane1:Int):Option ((List Int)×Int×Int×Int) :=
 Option.bind (dw N lines1) fun r4 =>
 if !decide (r4=0)then
  some ([],0,0,r4)
 else
  Option.bind (gn N lines1) fun(ra2,rb2) =>
  Option.bind (
   Option.bind (cJ N lane1 0 (w64 ((rb2.fState.fLanes.length:Int)-1))) fun r8 =>
   if !r8 then
    some true
   else
    Option.bind (idx rb2.fState.fLanes lane1) fun x4 =>
    some (decide (x4.fBowler=(-1)))
  ) fun v4 =>
  if v4 then
   some ([],0,0,7)
  else
   Option.bind (idx rb2.fState.fLanes lane1) fun x6 =>
   Option.bind (iP N) fun r10 =>
   Option.bind (gm N r10 x6.fBalls) fun(ra4,rb4) =>
   Option.bind (iP N) fun r12 =>
   Option.bind (lI N r12 x6.fBalls) fun(ra6,rb6) =>
   some (ra4.fCounts,ra6.fLo,ra6.fHi,0)
def eF (N:Nat)(c1:DeskWork):Option (RateBook) :=
 some ((RateBook.mk (RateLaw.mk 90 80 40 3 5) c1.fState.fBowlers c1.fState.fSheets c1.fState.fWithdrawn))
def dZ (N:Nat)(n1:Int)(low1:Int)(high1:Int):Option (Bool) :=
 Option.bind (
  if decide (low1≤n1)then
   some (decide (n1≤high1))
  else
   some false
 ) fun v2 =>
 some v2
def gp (N:Nat)(n1:Int):Option (Bool) :=
 Option.bind (dZ N n1 0 300) fun r2 =>
 some r2
def iV (N:Nat)(l1:RateLaw):Option (Bool) :=
 Option.bind (
  Option.bind (gp N l1.fBase) fun r6 =>
  if r6 then
   Option.bind (dZ N l1.fPercent 0 100) fun r7 =>
   if r7 then
    Option.bind (gp N l1.fCap) fun r8 =>
    if r8 then
     Option.bind (dZ N l1.fLeast 1 30) fun r9 =>
     if r9 then
      Option.bind (gp N l1.fBlind) fun r10 =>
      some r10
     else
      some false
    else
     some false
   else
    some false
  else
   some false
 ) fun v2 =>
 some v2
def nF (N:Nat)(x1:Int):Option (Bool) :=
 Option.bind (gp N x1) fun r2 =>
 some (!r2)
def cy (N:Nat)   : Option (Int) :=
 some (-1)
def bc (N:Nat)(s1:List Int)(rec3:(Int×Int)→Option (Int))(v17:Int)(v18:Int):Option (Int) :=
 if decide (v18<v17)then
  Option.bind (idx s1 v18) fun x24 =>
  Option.bind (nF N x24) fun r24 =>
  if r24 then
   some v18
  else
   rec3 ((v17,w64 (v18+1)))
 else
  cy N
def dl (N:Nat)(s1:List Int):Option (Int) :=
 loopN (fun rec3 x=>bc N s1 rec3 x.1 x.2) N (((s1.length:Int),0))
def cK (N:Nat)(s1:List Int):Option (Bool) :=
 Option.bind (dl N s1) fun r2 =>
 some (decide (0≤r2))
def pW (N:Nat)(l1:List Int):Option (Bool) :=
 Option.bind (cK N l1) fun r2 =>
 some (!r2)
def xR (N:Nat)(s1:List RateSheet)(rec3:(Int)→Option (Unit))(v10:Int):Option (Unit) :=
 if decide (0<v10)then
  Option.bind (idx s1 0) fun x24 =>
  none
 else
  some ()
def cV (N:Nat)(s1:List RateSheet)(f1:RateBook):Option (Int) :=
 Option.bind (
  loopN (fun rec3 x=>xR N s1 rec3 x) N (s1.length:Int)
 ) fun _ =>
 some (-1)
def cz (N:Nat)(s1:List RateSheet)(f1:RateBook):Option (Bool) :=
 Option.bind (cV N s1 f1) fun r2 =>
 some (decide (0≤r2))
def nG (N:Nat)(l1:List RateSheet)(right1:RateBook):Option (Bool) :=
 Option.bind (cz N l1 right1) fun r2 =>
 some (!r2)
def xQ (N:Nat)(s1:List Int)(rec3:(Int)→Option (Unit))(v10:Int):Option (Unit) :=
 if decide (0<v10)then
  Option.bind (idx s1 0) fun x24 =>
  none
 else
  some ()
def yu (N:Nat)(s1:List Int):Option (Int) :=
 Option.bind (
  loopN (fun rec3 x=>xQ N s1 rec3 x) N (s1.length:Int)
 ) fun _ =>
 some (-1)
def ck (N:Nat)(s1:List Int):Option (Bool) :=
 Option.bind (yu N s1) fun r2 =>
 some (decide (0≤r2))
def lK (N:Nat)(l1:List Int):Option (Bool) :=
 Option.bind (ck N l1) fun r2 =>
 some (!r2)
def dI (N:Nat) (rec3:(Int)→Option (Unit))(v10:Int):Option (Unit) :=
 if decide (0<v10)then
  none
 else
  some ()
def MB (N:Nat)(l1:List Int):Option (Bool) :=
 Option.bind (
  loopN (fun rec3 x=>dI N rec3 x) N (l1.length:Int)
 ) fun _ =>
 some true
def cw (N:Nat)(b1:RateBook)(rec3:(Int)→Option (Unit))(v18:Int):Option (Unit) :=
 if decide (0<v18)then
  Option.bind (idx b1.fSheets 0) fun x24 =>
  none
 else
  some ()
def ic (N:Nat)(b1:RateBook):Option (Int) :=
 Option.bind (
  if decide (8<(b1.fBowlers.length:Int))then
   some true
  else
   if decide (40<(b1.fSheets.length:Int))then
    some true
   else
    some (decide (40<(b1.fWithdrawn.length:Int)))
 ) fun v6 =>
 if v6 then
  none
 else
  Option.bind (
   Option.bind (iV N b1.fLaw) fun r16 =>
   if !r16 then
    some true
   else
    Option.bind (pW N b1.fBowlers) fun r17 =>
    if !r17 then
     some true
    else
     Option.bind (nG N b1.fSheets b1) fun r18 =>
     if !r18 then
      some true
     else
      Option.bind (lK N b1.fWithdrawn) fun r19 =>
      if !r19 then
       some true
      else
       Option.bind (MB N b1.fWithdrawn) fun r20 =>
       some (!r20)
  ) fun v8 =>
  if v8 then
   none
  else
   Option.bind (
    loopN (fun rec3 x=>cw N b1 rec3 x) N (b1.fSheets.length:Int)
   ) fun _ =>
   some 0
def cO (N:Nat)(b1:RateBook)(rec3:(Int)→Option (Unit))(v10:Int):Option (Unit) :=
 if decide (0<v10)then
  Option.bind (idx b1.fSheets 0) fun x24 =>
  none
 else
  some ()
def gg (N:Nat)(b1:RateBook):Option (Int×Int×Int×Int×Int×Int×(List Int)×(List RateSheet)×(List Int)×(List (RateTurn×RateSheet))) :=
 Option.bind (ic N b1) fun r4 =>
 if !decide (r4=0)then
  none
 else
  Option.bind (
   loopN (fun rec3 x=>cO N b1 rec3 x) N (b1.fSheets.length:Int)
  ) fun _ =>
  some ((0,b1.fLaw.fBase,b1.fLaw.fPercent,b1.fLaw.fCap,b1.fLaw.fLeast,b1.fLaw.fBlind,b1.fBowlers,b1.fSheets,b1.fWithdrawn,([]:List (RateTurn×RateSheet))))
def gG (N:Nat)(b1:RateBook)(n1:Int):Option (Bool) :=
 Option.bind (dZ N n1 0 (w64 ((b1.fBowlers.length:Int)-1))) fun r2 =>
 some r2
def nH (N:Nat)(n1:Int):Option (Bool) :=
 Option.bind (dZ N n1 1 30) fun r2 =>
 some r2
def fm (N:Nat)(b1:RateBook)(bowler1:Int)(w1:Int):Option (Int×Int×Int×Int×Int×Int×(List Int)×(List RateSheet)×(List Int)×(List (RateTurn×RateSheet))) :=
 Option.bind (gg N b1) fun(ra2,rb2,rc2,rd2,re2,rf2,rg2,rh2,ri2,rj2) =>
 Option.bind (
  if decide (ra2=0)then
   Option.bind (gG N b1 bowler1) fun r7 =>
   if !r7 then
    some true
   else
    Option.bind (nH N w1) fun r8 =>
    some (!r8)
  else
   some false
 ) fun v4 =>
 if v4 then
  none
 else
  some (ra2,rb2,rc2,rd2,re2,rf2,rg2,rh2,ri2,rj2)
def gH (N:Nat)(l1:List Int)(rec3:(Int)→Option (Unit))(v10:Int):Option (Unit) :=
 if decide (0<v10)then
  Option.bind (idx l1 0) fun x24 =>
  none
 else
  some ()
def pX (N:Nat)(l1:List Int):Option (Int) :=
 Option.bind (
  loopN (fun rec3 x=>gH N l1 rec3 x) N (l1.length:Int)
 ) fun _ =>
 some 0
def eZ (N:Nat)(bowler1:Int)(before1:Int)(c1:Int)(c2:Int)(c3:Int)(c4:Int)(c5:Int)(c6:List Int)(c7:List RateSheet)(c8:List Int)(m1:List (RateTurn×RateSheet)):Option (Int×Int) :=
 some (before1,bowler1)
def bU (N:Nat)(m1:List (RateTurn×RateSheet))(ra4:Int)(rb4:Int)(rec3:(Int×Int)→Option (Int))(games8:Int)(c39:Int):Option (Int) :=
 if decide (games8<ra4)then
  Option.bind (
   Option.bind (mgt m1 (RateTurn.mk rb4 games8) ((RateSheet.mk 0 0 0 (Ar3.mk 0 0 0)))) fun(v24,is24) =>
   some (is24,v24)
  ) fun(besides25,c43) =>
  if besides25 then
   none
  else
   rec3 ((w64 (games8+1),c39))
 else
  some c39
def dS (N:Nat)(bowler1:Int)(before1:Int)(besides1:List Int)(c1:Int)(c2:Int)(c3:Int)(c4:Int)(c5:Int)(c6:List Int)(c7:List RateSheet)(c8:List Int)(m1:List (RateTurn×RateSheet)):Option (Int) :=
 Option.bind (pX N besides1) fun r2 =>
 Option.bind (
  Option.bind (eZ N bowler1 before1 c1 c2 c3 c4 c5 c6 c7 c8 m1) fun(ra4,rb4) =>
  loopN (fun rec3 x=>bU N m1 ra4 rb4 rec3 x.1 x.2) N ((0,(besides1.length:Int)))
 ) fun c26 =>
 if decide (c26<c4)then
  Option.bind (idx c6 bowler1) fun x4 =>
  some x4
 else
  none
def jz (N:Nat)(b1:RateBook)(bowler1:Int)(week1:Int):Option (Int×Int) :=
 Option.bind (fm N b1 bowler1 week1) fun(ra2,rb2,rc2,rd2,re2,rf2,rg2,rh2,ri2,rj2) =>
 if !decide (ra2=0)then
  none
 else
  Option.bind (dS N bowler1 week1 ([]) rb2 rc2 rd2 re2 rf2 rg2 rh2 ri2 rj2) fun r2 =>
  some (r2,0)
def K3 (N:Nat)(bowler1:Int)(before1:Int)(c1:Int)(c2:Int)(c3:Int)(c4:Int)(c5:Int)(c6:List Int)(c7:List RateSheet)(c8:List Int)(m1:List (RateTurn×RateSheet)):Option (Int) :=
 Option.bind (dS N bowler1 before1 ([]) c1 c2 c3 c4 c5 c6 c7 c8 m1) fun r2 =>
 some (min (max 0 (w64 (Int.tdiv (w64 ((w64 (c1-r2))*c2)) 100))) c3)
def iW (N:Nat)(b1:RateBook)(bowler1:Int)(week1:Int):Option (Int×Int) :=
 Option.bind (fm N b1 bowler1 week1) fun(ra2,rb2,rc2,rd2,re2,rf2,rg2,rh2,ri2,rj2) =>
 if !decide (ra2=0)then
  none
 else
  Option.bind (K3 N bowler1 week1 rb2 rc2 rd2 re2 rf2 rg2 rh2 ri2 rj2) fun r2 =>
  some (r2,0)
def lL (N:Nat)(lines1:List (List UInt8))(bowler1:Int)(week1:Int):Option (Int×Int×Int) :=
 Option.bind (dw N lines1) fun r4 =>
 if !decide (r4=0)then
  none
 else
  Option.bind (gn N lines1) fun(ra2,rb2) =>
  Option.bind (fg N bowler1 rb2) fun r8 =>
  if !r8 then
   none
  else
   Option.bind (eF N rb2) fun r10 =>
   Option.bind (jz N r10 bowler1 week1) fun(ra4,rb4) =>
   if !decide (rb4=0)then
    none
   else
    Option.bind (eF N rb2) fun r12 =>
    Option.bind (iW N r12 bowler1 week1) fun(ra6,rb6) =>
    some (ra4,ra6,rb6)
def dJ (N:Nat)(words6:List Int)(rec5:(Int×Int×(List (List UInt8)))→Option ((List (List UInt8))))(v35:Int)(v36:Int)(l70:List (List UInt8)):Option ((List (List UInt8))) :=
 if decide (v36<v35)then
  Option.bind (idx words6 v36) fun x48 =>
  Option.bind (nU N x48) fun r32 =>
  Option.bind (app N l70 ([r32])) fun l72 =>
  rec5 ((v35,w64 (v36+1),l72))
 else
  some l70
def kC (N:Nat)(words1:List UInt8)(words2:Int)(words3:List UInt8)(words4:Int)(words5:List UInt8)(words6:List Int):Option ((List UInt8)) :=
 Option.bind (
  Option.bind (app N ([]) ([words1])) fun l39 =>
  some l39
 ) fun l38 =>
 Option.bind (
  Option.bind (nU N words2) fun r18 =>
  Option.bind (app N l38 ([r18])) fun l42 =>
  some l42
 ) fun l41 =>
 Option.bind (
  Option.bind (app N l41 ([words3])) fun l45 =>
  some l45
 ) fun l44 =>
 Option.bind (
  Option.bind (nU N words4) fun r20 =>
  Option.bind (app N l44 ([r20])) fun l48 =>
  some l48
 ) fun l47 =>
 Option.bind (
  Option.bind (app N l47 ([words5])) fun l51 =>
  some l51
 ) fun l50 =>
 Option.bind (
  loopN (fun rec5 x=>dJ N words6 rec5 x.1 x.2.1 x.2.2) N (((words6.length:Int),0,l50))
 ) fun l62 =>
 Option.bind (pg N l62 ([32]:List UInt8)) fun r34 =>
 some r34
def fM (N:Nat)(s1:List UInt8)(bs1:List UInt8):Option ((List UInt8)) :=
 Option.bind (cat N s1 ([10]:List UInt8)) fun s2 =>
 Option.bind (wrS N ((s1++([10]:List UInt8))) bs1) fun(ra1,rb1) =>
 some rb1
def cx (N:Nat) (l8:List Int):WP ((List Int)×Int) :=
 dO (sortI N l8) fun r2 =>
 ug (r2,0)
def Ej (N:Nat) (rec3:((List Int)×(List (RateTurn×RateSheet)))→WP ((List Int)×Int))(l14:List Int)(rem18:List (RateTurn×RateSheet)):WP ((List Int)×Int) :=
 mq rem18 (
  cx N l14
 ) fun(k12,v18) rem20 =>
 dO (app N l14 ([v18.fNumber])) fun l15 =>
 rec3 (l15,rem20)
def fp (N:Nat)(b1:RateBook):WP ((List Int)×Int) :=
 dO (gg N b1) fun(ra2,rb2,rc2,rd2,re2,rf2,rg2,rh2,ri2,rj2) =>
 if !decide (ra2=0)then
  ug ([],ra2)
 else
  aG (fun rec3 x=>Ej N rec3 x.1 x.2) N ([],rj2)
def gh (N:Nat)(b1:RateBook):Option ((List Int)×Int):=det (fp N b1)
def jA (N:Nat)(words1:List UInt8)(words2:Int)(words3:List UInt8)(words4:Int)(words5:List UInt8)(words6:Int):Option ((List UInt8)) :=
 Option.bind (
  Option.bind (app N ([]) ([words1])) fun l21 =>
  some l21
 ) fun l20 =>
 Option.bind (
  Option.bind (nU N words2) fun r8 =>
  Option.bind (app N l20 ([r8])) fun l24 =>
  some l24
 ) fun l23 =>
 Option.bind (
  Option.bind (app N l23 ([words3])) fun l27 =>
  some l27
 ) fun l26 =>
 Option.bind (
  Option.bind (nU N words4) fun r10 =>
  Option.bind (app N l26 ([r10])) fun l30 =>
  some l30
 ) fun l29 =>
 Option.bind (
  Option.bind (app N l29 ([words5])) fun l33 =>
  some l33
 ) fun l32 =>
 Option.bind (
  Option.bind (nU N words6) fun r12 =>
  Option.bind (app N l32 ([r12])) fun l36 =>
  some l36
 ) fun l35 =>
 Option.bind (pg N l35 ([32]:List UInt8)) fun r14 =>
 some r14
def eI (N:Nat)(match1:Int)(first1:Int)(second1:Int)(c1:Int)(c2:Int)(c3:Int)(c4:List LadderResult)(c5:List LadderPair)(m1:List (Int×LadderResult))(l1:List (Ar2 Int)):Option (Int) :=
 Option.bind (
  Option.bind (idx l1 match1) fun x4 =>
  if !decide (x4=(Ar2.mk first1 second1))then
   some true
  else
   Option.bind (mgt m1 match1 ((LadderResult.mk 0 ([]) false))) fun(v8,is4) =>
   some v8.fProtested
 ) fun v7 =>
 if v7 then
  none
 else
  Option.bind (dq N match1 c1 c2 c3 c4 c5 m1 l1) fun r2 =>
  some r2
def dU (N:Nat)(s1:LadderSide)(c1:Int)(c2:Int)(c3:Int)(c4:List LadderResult)(c5:List LadderPair)(m1:List (LadderSpot×LadderCheapest))(m2:List (Int×LadderResult))(l1:List (Ar2 Int)):Option ((List (Int×Int))) :=
 if decide (s1.fMatch=(-1))then
  some ((mput (([]:List (Int×Int))) s1.fPlayer 0))
 else
  none
def Gp (N:Nat) (m321:List (LadderSpot×LadderCheapest)):WP ((List (LadderSpot×LadderCheapest))) :=
 ug m321
def cY (N:Nat)(v4697:Int)(v4698:Int)(rec43:(Int×Int×(List (LadderSpot×LadderCheapest)))→WP ((List (LadderSpot×LadderCheapest))))(m588:List (LadderSpot×LadderCheapest)):WP ((List (LadderSpot×LadderCheapest))) :=
 rec43 ((v4697,w64 (v4698+1),m588))
def bi (N:Nat)(rec51:((List (LadderSpot×LadderCheapest))×(List (Int×Int)))→WP ((List (LadderSpot×LadderCheapest))))(rem480:List (Int×Int))(m640:List (LadderSpot×LadderCheapest)):WP ((List (LadderSpot×LadderCheapest))) :=
 rec51 (m640,rem480)
def bj (N:Nat)(v4698:Int)(rec51:((List (LadderSpot×LadderCheapest))×(List (Int×Int)))→WP ((List (LadderSpot×LadderCheapest))))(rem480:List (Int×Int))(m638:List (LadderSpot×LadderCheapest))(x886:Ar2 Int)(cost862:Int)(v5620:Bool):WP ((List (LadderSpot×LadderCheapest))) :=
 if v5620 then
  bi N rec51 rem480 ((mput m638 (LadderSpot.mk v4698 x886.a0) (LadderCheapest.mk cost862 x886.a1)))
 else
  bi N rec51 rem480 m638
def DN (N:Nat)(v4698:Int)(rec51:((List (LadderSpot×LadderCheapest))×(List (Int×Int)))→WP ((List (LadderSpot×LadderCheapest))))(rem480:List (Int×Int))(m638:List (LadderSpot×LadderCheapest))(x886:Ar2 Int)(cost862:Int):WP ((List (LadderSpot×LadderCheapest))) :=
 dO (mgt m638 (LadderSpot.mk v4698 x886.a0) (LadderCheapest.mk 0 0)) fun(v5618,is862) =>
 if !is862 then
  bj N v4698 rec51 rem480 m638 x886 cost862 true
 else
  bj N v4698 rec51 rem480 m638 x886 cost862 (decide (cost862<v5618.fUpsets))
def bn (N:Nat)(v4698:Int)(rec51:((List (LadderSpot×LadderCheapest))×(List (Int×Int)))→WP ((List (LadderSpot×LadderCheapest))))(rem480:List (Int×Int))(m638:List (LadderSpot×LadderCheapest))(x886:Ar2 Int)(r2034:Int)(v5622:Bool):WP ((List (LadderSpot×LadderCheapest))) :=
 if v5622 then
  dO (gq N ([r2034,1])) fun r2036 =>
  DN N v4698 rec51 rem480 m638 x886 r2036
 else
  DN N v4698 rec51 rem480 m638 x886 r2034
def bp (N:Nat)(v4698:Int)(v5481:Int)(rec51:((List (LadderSpot×LadderCheapest))×(List (Int×Int)))→WP ((List (LadderSpot×LadderCheapest))))(v5586:Int)(rem480:List (Int×Int))(r2024:Int)(m638:List (LadderSpot×LadderCheapest))(x886:Ar2 Int)(v5614:Bool):WP ((List (LadderSpot×LadderCheapest))) :=
 if v5614 then
  bi N rec51 rem480 m638
 else
  dO (gq N ([v5481,v5586])) fun r2034 =>
  if decide (r2024=(-1))then
   bn N v4698 rec51 rem480 m638 x886 r2034 (decide (x886.a1<x886.a0))
  else
   bn N v4698 rec51 rem480 m638 x886 r2034 false
def aV (N:Nat)(v4698:Int)(v5481:Int)(rec51:((List (LadderSpot×LadderCheapest))×(List (Int×Int)))→WP ((List (LadderSpot×LadderCheapest))))(v5586:Int)(rem480:List (Int×Int))(r2024:Int)(m638:List (LadderSpot×LadderCheapest))(l1077:List (Ar2 Int)):WP ((List (LadderSpot×LadderCheapest))) :=
 dO (idx l1077 1) fun x886 =>
 if !decide (r2024=(-1))then
  bp N v4698 v5481 rec51 v5586 rem480 r2024 m638 x886 (!decide (r2024=x886.a0))
 else
  bp N v4698 v5481 rec51 v5586 rem480 r2024 m638 x886 false
def bq (N:Nat)(v4698:Int)(v5481:Int)(m636:List (LadderSpot×LadderCheapest))(rec51:((List (LadderSpot×LadderCheapest))×(List (Int×Int)))→WP ((List (LadderSpot×LadderCheapest))))(v5586:Int)(rem480:List (Int×Int))(r2024:Int)(x888:Ar2 Int)(l1081:List (Ar2 Int))(cost864:Int)(v5632:Bool):WP ((List (LadderSpot×LadderCheapest))) :=
 if v5632 then
  aV N v4698 v5481 rec51 v5586 rem480 r2024 ((mput m636 (LadderSpot.mk v4698 x888.a0) (LadderCheapest.mk cost864 x888.a1))) l1081
 else
  aV N v4698 v5481 rec51 v5586 rem480 r2024 m636 l1081
def aY (N:Nat)(v4698:Int)(v5481:Int)(m636:List (LadderSpot×LadderCheapest))(rec51:((List (LadderSpot×LadderCheapest))×(List (Int×Int)))→WP ((List (LadderSpot×LadderCheapest))))(v5586:Int)(rem480:List (Int×Int))(r2024:Int)(x888:Ar2 Int)(l1081:List (Ar2 Int))(cost864:Int):WP ((List (LadderSpot×LadderCheapest))) :=
 dO (mgt m636 (LadderSpot.mk v4698 x888.a0) (LadderCheapest.mk 0 0)) fun(v5630,is864) =>
 if !is864 then
  bq N v4698 v5481 m636 rec51 v5586 rem480 r2024 x888 l1081 cost864 true
 else
  bq N v4698 v5481 m636 rec51 v5586 rem480 r2024 x888 l1081 cost864 (decide (cost864<v5630.fUpsets))
def aZ (N:Nat)(v4698:Int)(v5481:Int)(m636:List (LadderSpot×LadderCheapest))(rec51:((List (LadderSpot×LadderCheapest))×(List (Int×Int)))→WP ((List (LadderSpot×LadderCheapest))))(v5586:Int)(rem480:List (Int×Int))(r2024:Int)(x888:Ar2 Int)(l1081:List (Ar2 Int))(r2038:Int)(v5634:Bool):WP ((List (LadderSpot×LadderCheapest))) :=
 if v5634 then
  dO (gq N ([r2038,1])) fun r2040 =>
  aY N v4698 v5481 m636 rec51 v5586 rem480 r2024 x888 l1081 r2040
 else
  aY N v4698 v5481 m636 rec51 v5586 rem480 r2024 x888 l1081 r2038
def CX (N:Nat)(v4698:Int)(v5481:Int)(m636:List (LadderSpot×LadderCheapest))(rec51:((List (LadderSpot×LadderCheapest))×(List (Int×Int)))→WP ((List (LadderSpot×LadderCheapest))))(v5586:Int)(rem480:List (Int×Int))(r2024:Int)(x888:Ar2 Int)(v5626:Bool)(l1081:List (Ar2 Int)):WP ((List (LadderSpot×LadderCheapest))) :=
 if v5626 then
  aV N v4698 v5481 rec51 v5586 rem480 r2024 m636 l1081
 else
  dO (gq N ([v5481,v5586])) fun r2038 =>
  if decide (r2024=(-1))then
   aZ N v4698 v5481 m636 rec51 v5586 rem480 r2024 x888 l1081 r2038 (decide (x888.a1<x888.a0))
  else
   aZ N v4698 v5481 m636 rec51 v5586 rem480 r2024 x888 l1081 r2038 false
def aw (N:Nat)(c1:Int)(c2:Int)(c3:Int)(c4:List LadderResult)(c5:List LadderPair)(m1:List (Int×LadderResult))(l1:List (Ar2 Int))(v4698:Int)(rec50:((List (LadderSpot×LadderCheapest))×(List (Int×Int)))→WP ((List (LadderSpot×LadderCheapest))))(k282:Int)(v5481:Int)(rem470:List (Int×Int))(rec51:((List (LadderSpot×LadderCheapest))×(List (Int×Int)))→WP ((List (LadderSpot×LadderCheapest))))(m636:List (LadderSpot×LadderCheapest))(rem478:List (Int×Int)):WP ((List (LadderSpot×LadderCheapest))) :=
 mq rem478 (
  rec50 (m636,rem470)
 ) fun(k288,v5586) rem480 =>
 dO (eI N v4698 k282 k288 c1 c2 c3 c4 c5 m1 l1) fun r2024 =>
 dO (idx ([(Ar2.mk k282 k288),(Ar2.mk k288 k282)]) 0) fun x888 =>
 if !decide (r2024=(-1))then
  CX N v4698 v5481 m636 rec51 v5586 rem480 r2024 x888 (!decide (r2024=x888.a0)) ([(Ar2.mk k282 k288),(Ar2.mk k288 k282)])
 else
  CX N v4698 v5481 m636 rec51 v5586 rem480 r2024 x888 false ([(Ar2.mk k282 k288),(Ar2.mk k288 k282)])
def au (N:Nat)(c1:Int)(c2:Int)(c3:Int)(c4:List LadderResult)(c5:List LadderPair)(m1:List (Int×LadderResult))(l1:List (Ar2 Int))(v4697:Int)(v4698:Int)(rec43:(Int×Int×(List (LadderSpot×LadderCheapest)))→WP ((List (LadderSpot×LadderCheapest))))(x816:LadderPair)(rec50:((List (LadderSpot×LadderCheapest))×(List (Int×Int)))→WP ((List (LadderSpot×LadderCheapest))))(m624:List (LadderSpot×LadderCheapest))(rem468:List (Int×Int)):WP ((List (LadderSpot×LadderCheapest))) :=
 mq rem468 (
  cY N v4697 v4698 rec43 m624
 ) fun(k282,v5481) rem470 =>
 dO (dU N x816.fSecond c1 c2 c3 c4 c5 m624 m1 l1) fun r1986 =>
 aG (fun rec51 x=>aw N c1 c2 c3 c4 c5 m1 l1 v4698 rec50 k282 v5481 rem470 rec51 x.1 x.2) N (m624,r1986)
def b8 (N:Nat)(c1:Int)(c2:Int)(c3:Int)(c4:List LadderResult)(c5:List LadderPair)(m1:List (Int×LadderResult))(l1:List (Ar2 Int))(rec43:(Int×Int×(List (LadderSpot×LadderCheapest)))→WP ((List (LadderSpot×LadderCheapest))))(v4697:Int)(v4698:Int)(m535:List (LadderSpot×LadderCheapest)):WP ((List (LadderSpot×LadderCheapest))) :=
 if decide (v4698<v4697)then
  dO (idx c5 v4698) fun x816 =>
  dO (dU N x816.fFirst c1 c2 c3 c4 c5 m535 m1 l1) fun r1872 =>
  aG (fun rec50 x=>au N c1 c2 c3 c4 c5 m1 l1 v4697 v4698 rec43 x816 rec50 x.1 x.2) N (m535,r1872)
 else
  Gp N m535
def cB (N:Nat)(c1:Int)(c2:Int)(c3:Int)(c4:List LadderResult)(c5:List LadderPair)(m1:List (Int×LadderResult))(l1:List (Ar2 Int)):WP ((List (LadderSpot×LadderCheapest))) :=
 aG (fun rec43 x=>b8 N c1 c2 c3 c4 c5 m1 l1 rec43 x.1 x.2.1 x.2.2) N (((c5.length:Int),0,([]:List (LadderSpot×LadderCheapest))))
def gL (N:Nat)(c1:Int)(c2:Int)(c3:Int)(c4:List LadderResult)(c5:List LadderPair)(m1:List (Int×LadderResult))(l1:List (Ar2 Int)):Option (Int) :=
 some (w64 ((c5.length:Int)-1))
def cg (N:Nat) (l18:List Int):WP ((List Int)) :=
 ug l18
def bG (N:Nat)(v28:Int)(rec3:(Int×(List Int))→WP ((List Int)))(l33:List Int):WP ((List Int)) :=
 rec3 ((w64 (v28+1),l33))
def aO (N:Nat)(c1:Int)(c2:Int)(c3:Int)(c4:List LadderResult)(c5:List LadderPair)(m1:List (Int×LadderResult))(l1:List (Ar2 Int))(r2:List (LadderSpot×LadderCheapest))(rec3:(Int×(List Int))→WP ((List Int)))(v28:Int)(l30:List Int):WP ((List Int)) :=
 if decide (v28<c2)then
  dO (gL N c1 c2 c3 c4 c5 m1 l1) fun r26 =>
  dO (mgt r2 (LadderSpot.mk r26 v28) (LadderCheapest.mk 0 0)) fun(v32,is24) =>
  if is24 then
   dO (app N l30 ([v28])) fun l34 =>
   bG N v28 rec3 l34
  else
   bG N v28 rec3 l30
 else
  cg N l30
def cC (N:Nat)(c1:Int)(c2:Int)(c3:Int)(c4:List LadderResult)(c5:List LadderPair)(m1:List (Int×LadderResult))(l1:List (Ar2 Int)):WP ((List Int)) :=
 bindW (cB N c1 c2 c3 c4 c5 m1 l1) fun r2 =>
 aG (fun rec3 x=>aO N c1 c2 c3 c4 c5 m1 l1 r2 rec3 x.1 x.2) N (0,[])
def fq (N:Nat)(c1:Int)(c2:Int)(c3:Int)(c4:List LadderResult)(c5:List LadderPair)(m1:List (Int×LadderResult))(l1:List (Ar2 Int)):Option ((List Int)):=det (cC N c1 c2 c3 c4 c5 m1 l1)
def eM (N:Nat)(c1:LadderCup):Option ((List Int)×Int) :=
 Option.bind (ig N c1) fun z2 =>
 match z2 with
 | .inl r2 =>
  if !decide (r2=0)then
   none
  else
   none
 | .inr (ra2,rb2,rc2,rd2,re2,rf2,rg2,rh2) =>
  if !decide (ra2=0)then
   none
  else
   Option.bind (fq N rb2 rc2 rd2 re2 rf2 rg2 rh2) fun r4 =>
   some (r4,0)
def cP (N:Nat)(words2:List Int)(rec5:(Int×Int×(List (List UInt8)))→Option ((List (List UInt8))))(v35:Int)(v36:Int)(l46:List (List UInt8)):Option ((List (List UInt8))) :=
 if decide (v36<v35)then
  Option.bind (idx words2 v36) fun x48 =>
  Option.bind (nU N x48) fun r24 =>
  Option.bind (app N l46 ([r24])) fun l48 =>
  rec5 ((v35,w64 (v36+1),l48))
 else
  some l46
def iX (N:Nat)(words1:List UInt8)(words2:List Int):Option ((List UInt8)) :=
 Option.bind (
  Option.bind (app N ([]) ([words1])) fun l27 =>
  some l27
 ) fun l26 =>
 Option.bind (
  loopN (fun rec5 x=>cP N words2 rec5 x.1 x.2.1 x.2.2) N (((words2.length:Int),0,l26))
 ) fun l38 =>
 Option.bind (pg N l38 ([32]:List UInt8)) fun r26 =>
 some r26
def dK (N:Nat)(rb2:DeskWork)(rec3:(Int×Int×(List UInt8))→Option ((List UInt8)))(v17:Int)(v18:Int)(bs19:List UInt8):Option ((List UInt8)) :=
 if decide (v18<v17)then
  Option.bind (
   Option.bind (idx rb2.fState.fLanes v18) fun x24 =>
   if !decide (x24.fBowler=(-1))then
    Option.bind (
     Option.bind (iP N) fun r50 =>
     Option.bind (gm N r50 x24.fBalls) fun(ra26,rb26) =>
     some ra26
    ) fun g24 =>
    Option.bind (kC N ([108,97,110,101]:List UInt8) v18 ([98,111,119,108,101,114]:List UInt8) x24.fBowler ([99,111,117,110,116,115]:List UInt8) g24.fCounts) fun r51 =>
    Option.bind (fM N r51 bs19) fun r52 =>
    some r52
   else
    some bs19
  ) fun bs21 =>
  rec3 ((v17,w64 (v18+1),bs21))
 else
  some bs19
def dL (N:Nat)(ra28:List Int)(rec29:(Int)→Option (Unit))(v156:Int):Option (Unit) :=
 if decide (0<v156)then
  Option.bind (idx ra28 0) fun x336 =>
  none
 else
  some ()
def dM (N:Nat)(rb2:DeskWork)(ra28:List Int)(rec25:(Int×Int×(List UInt8))→Option ((List UInt8)))(v135:Int)(v136:Int)(bs35:List UInt8):Option ((List UInt8)) :=
 if decide (v136<v135)then
  Option.bind (
   Option.bind (idx rb2.fState.fKept v136) fun x312 =>
   Option.bind (
    loopN (fun rec29 x=>dL N ra28 rec29 x) N (ra28.length:Int)
   ) fun _ =>
   Option.bind (jA N ([98,111,119,108,101,114]:List UInt8) v136 ([107,101,112,116]:List UInt8) (x312.length:Int) ([115,104,101,101,116,115]:List UInt8) 0) fun r77 =>
   Option.bind (fM N r77 bs35) fun r78 =>
   some r78
  ) fun bs36 =>
  rec25 ((v135,w64 (v136+1),bs36))
 else
  some bs35
def gM (N:Nat)(lines1:List (List UInt8)):Option ((List UInt8)×Int) :=
 Option.bind (dw N lines1) fun r4 =>
 if !decide (r4=0)then
  none
 else
  Option.bind (gn N lines1) fun(ra2,rb2) =>
  Option.bind (
   loopN (fun rec3 x=>dK N rb2 rec3 x.1 x.2.1 x.2.2) N (((rb2.fState.fLanes.length:Int),0,([]:List UInt8)))
  ) fun bs11 =>
  Option.bind (eF N rb2) fun r54 =>
  Option.bind (gh N r54) fun(ra28,rb28) =>
  Option.bind (
   loopN (fun rec25 x=>dM N rb2 ra28 rec25 x.1 x.2.1 x.2.2) N (((rb2.fState.fKept.length:Int),0,bs11))
  ) fun bs29 =>
  Option.bind (
   if decide (1<(rb2.fState.fBowlers.length:Int))then
    Option.bind (jB N rb2) fun r84 =>
    Option.bind (eM N r84) fun(ra32,rb32) =>
    Option.bind (iX N ([100,117,101,108,115]:List UInt8) ra32) fun r85 =>
    Option.bind (fM N r85 bs29) fun r86 =>
    some r86
   else
    some bs29
  ) fun bs38 =>
  Option.bind (w8 N bs38) fun r88 =>
  some (r88,0)
def bM (N:Nat) (rec3:(Int×(List Int)×Int×Int)→Option (Int))(check11:Int)(v26:List Int)(v27:Int)(v28:Int):Option (Int) :=
 if decide (v28<v27)then
  Option.bind (idx v26 v28) fun x24 =>
  rec3 ((w64 (check11+(w64 ((w64 (v28+2))*(w64 ((w64 x24)+1))))),v26,v27,w64 (v28+1)))
 else
  some check11
def MG (N:Nat)(s1:List UInt8)(index1:Int):Option (DeskHead) :=
 Option.bind (
  loopN (fun rec3 x=>bM N rec3 x.1 x.2.1 x.2.2.1 x.2.2.2) N ((w64 (13*(w64 (index1+1))),bytesI s1,((bytesI s1).length:Int),0))
 ) fun check6 =>
 some ((DeskHead.mk (s1.length:Int) (Int.tmod check6 99989)))
def aF (N:Nat) (rec3:(Int×Int×(Ar5 Int))→Option ((Ar5 Int)))(n10:Int)(i10:Int)(b31:Ar5 Int):Option ((Ar5 Int)) :=
 if decide (0≤i10)then
  Option.bind (
   if decide (i10=0)then
    some ((Ar5.mk (Go.IntKind.wrap .u8 (w64 (48+(Int.tmod n10 10)))) b31.a1 b31.a2 b31.a3 b31.a4))
   else
    if decide (i10=1)then
     some ((Ar5.mk b31.a0 (Go.IntKind.wrap .u8 (w64 (48+(Int.tmod n10 10)))) b31.a2 b31.a3 b31.a4))
    else
     if decide (i10=2)then
      some ((Ar5.mk b31.a0 b31.a1 (Go.IntKind.wrap .u8 (w64 (48+(Int.tmod n10 10)))) b31.a3 b31.a4))
     else
      if decide (i10=3)then
       some ((Ar5.mk b31.a0 b31.a1 b31.a2 (Go.IntKind.wrap .u8 (w64 (48+(Int.tmod n10 10)))) b31.a4))
      else
       if decide (i10=4)then
        some ((Ar5.mk b31.a0 b31.a1 b31.a2 b31.a3 (Go.IntKind.wrap .u8 (w64 (48+(Int.tmod n10 10))))))
       else
        none
  ) fun b35 =>
  rec3 ((w64 (Int.tdiv n10 10),w64 (i10-1),b35))
 else
  some b31
def dm (N:Nat)(n1:Int)(many1:Int):Option ((List UInt8)) :=
 Option.bind (
  loopN (fun rec3 x=>aF N rec3 x.1 x.2.1 x.2.2) N ((n1,w64 (many1-1),(Ar5.mk 0 0 0 0 0)))
 ) fun b19 =>
 Option.bind (slc ([b19.a0,b19.a1,b19.a2,b19.a3,b19.a4]:List Int) 0 many1) fun l2 =>
 some (mC l2)
def Mu (N:Nat)(hv1:DeskHead):Option ((List UInt8)) :=
 Option.bind (dm N hv1.fLong 3) fun r3 =>
 Option.bind (cat N ([60]:List UInt8) r3) fun s5 =>
 Option.bind (cat N ((([60]:List UInt8)++r3)) ([124]:List UInt8)) fun s6 =>
 Option.bind (dm N hv1.fCheck 5) fun r4 =>
 Option.bind (cat N ((((([60]:List UInt8)++r3))++([124]:List UInt8))) r4) fun s7 =>
 Option.bind (cat N ((((((([60]:List UInt8)++r3))++([124]:List UInt8)))++r4)) ([62]:List UInt8)) fun s8 =>
 some ((((((((([60]:List UInt8)++r3))++([124]:List UInt8)))++r4))++([62]:List UInt8)))
def cH (N:Nat)(lines1:List (List UInt8))(rec3:(Int×Int×(List Int))→Option ((List Int)))(v17:Int)(v18:Int)(l19:List Int):Option ((List Int)) :=
 if decide (v18<v17)then
  Option.bind (idx lines1 v18) fun x24 =>
  Option.bind (MG N x24 v18) fun r23 =>
  Option.bind (Mu N r23) fun r24 =>
  Option.bind (cat N r24 x24) fun s23 =>
  Option.bind (cat N (r24++x24) ([10]:List UInt8)) fun s24 =>
  Option.bind (app N l19 (bytesI (((r24++x24)++([10]:List UInt8))))) fun l21 =>
  rec3 ((v17,w64 (v18+1),l21))
 else
  some l19
def jE (N:Nat)(lines1:List (List UInt8)):Option ((List Int)) :=
 Option.bind (
  loopN (fun rec3 x=>cH N lines1 rec3 x.1 x.2.1 x.2.2) N (((lines1.length:Int),0,[]))
 ) fun l11 =>
 some l11
def gr (N:Nat)(lines1:List (List UInt8)):Option ((List Int)×Int) :=
 Option.bind (dw N lines1) fun r4 =>
 if !decide (r4=0)then
  none
 else
  Option.bind (jE N lines1) fun r6 =>
  some (r6,0)
def iY (N:Nat)   : Option (Bool) :=
 some true
def eN (N:Nat)(a1:List Int)(b1:List Int)(rec3:(Int)→Option (Bool))(i8:Int):Option (Bool) :=
 if decide (i8<(a1.length:Int))then
  Option.bind (idx a1 i8) fun x47 =>
  Option.bind (idx b1 i8) fun x48 =>
  if !decide (x47=x48)then
   some false
  else
   rec3 (w64 (i8+1))
 else
  iY N
def lN (N:Nat)(a1:List Int)(b1:List Int):Option (Bool) :=
 if !decide ((a1.length:Int)=(b1.length:Int))then
  some false
 else
  loopN (fun rec3 x=>eN N a1 b1 rec3 x) N 0
def cL (N:Nat)  : Option (Bool) :=
 Option.bind (gl N) fun r2 =>
 Option.bind (app N r2 ([([98,97,108,108,32,49,32,50]:List UInt8),([111,112,101,110,32,49,32,49]:List UInt8),([99,108,111,115,101,32,49]:List UInt8),([99,108,111,115,101,32,49]:List UInt8)])) fun l2 =>
 Option.bind (nE N l2) fun(ra2,rb2,rc2) =>
 Option.bind (gl N) fun r4 =>
 Option.bind (slc r4 0 7) fun l4 =>
 Option.bind (lJ N l4 1) fun(ra4,rb4,rc4,rd2) =>
 Option.bind (gl N) fun r6 =>
 Option.bind (lL N r6 0 1) fun(ra6,rb6,rc6) =>
 Option.bind (gl N) fun r8 =>
 Option.bind (slc r8 0 7) fun l6 =>
 Option.bind (gM N l6) fun(ra8,rb8) =>
 Option.bind (gr N ([([97]:List UInt8)])) fun(ra10,rb10) =>
 Option.bind (
  if decide (rc2=0)then
   if decide ((rb2.length:Int)=12)then
    Option.bind (idx rb2 7) fun x6 =>
    if decide (x6=0)then
     Option.bind (idx rb2 8) fun x7 =>
     if decide (x7=10)then
      Option.bind (idx rb2 9) fun x8 =>
      if decide (x8=6)then
       Option.bind (idx rb2 10) fun x9 =>
       if decide (x9=0)then
        Option.bind (idx rb2 11) fun x10 =>
        if decide (x10=8)then
         if decide (rd2=0)then
          Option.bind (lN N ra4 ([20,34])) fun r10 =>
          if r10 then
           if decide (rb4=38)then
            if decide (rc4=54)then
             if decide (rc6=0)then
              if decide (ra6=70)then
               if decide (rb6=16)then
                if decide (rb8=0)then
                 if decide (ra8=([108,97,110,101,32,49,32,98,111,119,108,101,114,32,48,32,99,111,117,110,116,115,32,50,48,32,51,52,10,98,111,119,108,101,114,32,48,32,107,101,112,116,32,48,32,115,104,101,101,116,115,32,48,10,98,111,119,108,101,114,32,49,32,107,101,112,116,32,48,32,115,104,101,101,116,115,32,48,10,100,117,101,108,115,32,48,32,49,10]:List UInt8))then
                  if decide (rb10=0)then
                   some (decide ((mC ra10)=([60,48,48,49,124,48,48,50,48,57,62,97,10]:List UInt8)))
                  else
                   some false
                 else
                  some false
                else
                 some false
               else
                some false
              else
               some false
             else
              some false
            else
             some false
           else
            some false
          else
           some false
         else
          some false
        else
         some false
       else
        some false
      else
       some false
     else
      some false
    else
     some false
   else
    some false
  else
   some false
 ) fun v2 =>
 some v2
def iw (N:Nat)(l1:List (List UInt8)):Option ((List (List UInt8))) :=
 Option.bind (app N ([]) l1) fun l3 =>
 some l3
def fc (N:Nat)(lines1:List (List UInt8))  : Option (Bool) :=
 some (decide ((lines1.length:Int)≤50))
def bf (N:Nat)(lines1:List (List UInt8))(rec3:(Int)→Option (Bool))(i8:Int):Option (Bool) :=
 if decide (i8<(lines1.length:Int))then
  Option.bind (idx lines1 i8) fun x24 =>
  if decide (200<(x24.length:Int))then
   some false
  else
   rec3 (w64 (i8+1))
 else
  fc N lines1
def gz (N:Nat)(lines1:List (List UInt8)):Option (Bool) :=
 loopN (fun rec3 x=>bf N lines1 rec3 x) N 0
def Dg (N:Nat)(lines1:List (List UInt8)):Option (Int) :=
 Option.bind (gz N lines1) fun r4 =>
 if !r4 then
  some 3
 else
  some 0
def DJ (N:Nat)  : Option (Ref12State) :=
 some ((Ref12State.mk ([]) (Ar4.mk (Ref12Lane.mk (-1) ([])) (Ref12Lane.mk (-1) ([])) (Ref12Lane.mk (-1) ([])) (Ref12Lane.mk (-1) ([]))) ([]) ([]) ([]) ([])))
def CF (N:Nat)(less2:Bool)(n6:Int):Option (Int×Bool) :=
 Option.bind (
  if less2 then
   some (w64 (-n6))
  else
   some n6
 ) fun n8 =>
 some (n8,true)
def Cm (N:Nat)(s1:List UInt8)(at10:Int)(n12:Int)(rec3:(Int×Int)→Option (Int×Bool))  : Option (Int×Bool) :=
 Option.bind (
  Option.bind (idx s1 at10) fun c67 =>
  if decide ((c67.toNat:Int)<48)then
   some true
  else
   some (decide (57<(c67.toNat:Int)))
 ) fun v56 =>
 if v56 then
  some (0,false)
 else
  Option.bind (idx s1 at10) fun c68 =>
  rec3 ((w64 (at10+1),w64 ((w64 (10*n12))+(w64 (Go.IntKind.wrap .u8 ((c68.toNat:Int)-48))))))
def kW (N:Nat)(s1:List UInt8)(less2:Bool)(rec3:(Int×Int)→Option (Int×Bool))(at10:Int)(n12:Int):Option (Int×Bool) :=
 if decide (at10<(s1.length:Int))then
  Cm N s1 at10 n12 rec3
 else
  CF N less2 n12
def yW (N:Nat)(s1:List UInt8):Option (Int×Bool) :=
 Option.bind (
  Option.bind (
   if decide (0<(s1.length:Int))then
    Option.bind (idx s1 0) fun c4 =>
    some (decide ((c4.toNat:Int)=45))
   else
    some false
  ) fun v4 =>
  if v4 then
   some (true,1)
  else
   some (false,0)
 ) fun(less2,at2) =>
 Option.bind (
  if decide ((s1.length:Int)=at2)then
   some true
  else
   if decide (9<(w64 ((s1.length:Int)-at2)))then
    some true
   else
    Option.bind (idx s1 at2) fun c8 =>
    if decide ((c8.toNat:Int)=48)then
     some (decide (1<(s1.length:Int)))
    else
     some false
 ) fun v8 =>
 if v8 then
  some (0,false)
 else
  loopN (fun rec3 x=>kW N s1 less2 rec3 x.1 x.2) N (at2,0)
def y7 (N:Nat)(line1:List UInt8)(rec3:(Int×Int×(List (List UInt8)))→Option ((List (List UInt8))))(from18:Int)(i8:Int)(l39:List (List UInt8)):Option ((List (List UInt8))) :=
 if decide (i8≤(line1.length:Int))then
  Option.bind (
   Option.bind (
    if decide (i8=(line1.length:Int))then
     some true
    else
     Option.bind (idx line1 i8) fun c24 =>
     some (decide ((c24.toNat:Int)=32))
   ) fun v24 =>
   if v24 then
    Option.bind (Ib line1 from18 i8) fun _ =>
    Option.bind (app N l39 ([IY line1 from18 i8])) fun l45 =>
    some ((w64 (i8+1),l45))
   else
    some (from18,l39)
  ) fun(from20,l43) =>
  rec3 ((from20,w64 (i8+1),l43))
 else
  some l39
def CW (N:Nat)(l23:List (List UInt8))(l56:List Int):Option ((List UInt8)×(List Int)×Bool) :=
 Option.bind (idx l23 0) fun x18 =>
 some (x18,l56,true)
def xT (N:Nat)(l23:List (List UInt8))(rec5:(Int×(List Int))→Option ((List UInt8)×(List Int)×Bool))(i16:Int)(l64:List Int):Option ((List UInt8)×(List Int)×Bool) :=
 if decide (i16<(l23.length:Int))then
  Option.bind (idx l23 i16) fun x30 =>
  Option.bind (yW N x30) fun(ra24,rb24) =>
  if !rb24 then
   some ((([]:List UInt8),[],false))
  else
   Option.bind (app N l64 ([ra24])) fun l66 =>
   rec5 ((w64 (i16+1),l66))
 else
  CW N l23 l64
def Cz (N:Nat)(line1:List UInt8):Option ((List UInt8)×(List Int)×Bool) :=
 Option.bind (
  loopN (fun rec3 x=>y7 N line1 rec3 x.1 x.2.1 x.2.2) N (0,0,[])
 ) fun l23 =>
 Option.bind (
  Option.bind (idx l23 0) fun x4 =>
  Option.bind (
   if decide (x4=([98,111,119,108,101,114]:List UInt8))then
    some (decide (x4=([98,111,119,108,101,114]:List UInt8)))
   else
    if decide (x4=([98,97,99,107]:List UInt8))then
     some (decide (x4=([98,97,99,107]:List UInt8)))
    else
     if decide (x4=([99,108,111,115,101]:List UInt8))then
      some (decide (x4=([99,108,111,115,101]:List UInt8)))
     else
      if decide (x4=([115,116,114,105,107,101]:List UInt8))then
       some (decide (x4=([115,116,114,105,107,101]:List UInt8)))
      else
       if decide (x4=([100,117,101,108]:List UInt8))then
        some (decide (x4=([100,117,101,108]:List UInt8)))
       else
        some (decide (x4=([100,111,117,98,116]:List UInt8)))
  ) fun v30 =>
  if v30 then
   some 1
  else
   Option.bind (
    if decide (x4=([111,112,101,110]:List UInt8))then
     some (decide (x4=([111,112,101,110]:List UInt8)))
    else
     if decide (x4=([98,97,108,108]:List UInt8))then
      some (decide (x4=([98,97,108,108]:List UInt8)))
     else
      some (decide (x4=([115,104,101,101,116]:List UInt8)))
   ) fun v32 =>
   if v32 then
    some 2
   else
    some (-1)
 ) fun many2 =>
 if !decide ((l23.length:Int)=(w64 (many2+1)))then
  some ((([]:List UInt8),[],false))
 else
  loopN (fun rec5 x=>xT N l23 rec5 x.1 x.2) N (1,[])
def Bw (N:Nat)(n1:Int)(low1:Int)(high1:Int):Option (Bool) :=
 Option.bind (
  if decide (low1≤n1)then
   some (decide (n1≤high1))
  else
   some false
 ) fun v2 =>
 some v2
def CZ (N:Nat)(s1:Ref12State)(average1:Int):Option (Ref12State×Int) :=
 Option.bind (Bw N average1 0 300) fun r4 =>
 if !r4 then
  some (s1,2)
 else
  if decide (8≤(s1.fBowlers.length:Int))then
   some (s1,3)
  else
   if decide (0<(s1.fResults.length:Int))then
    some (s1,8)
   else
    Option.bind (app N ([]) s1.fBowlers) fun l3 =>
    Option.bind (app N l3 ([average1])) fun l4 =>
    Option.bind (app N ([]) s1.fKept) fun l7 =>
    Option.bind (app N l7 ([[]])) fun l8 =>
    some (((Ref12State.mk l4 s1.fLanes l8 s1.fSheets s1.fWithdrawn s1.fResults),0))
def Du (N:Nat)(s1:Ref12State)(lane1:Int)(bowler1:Int):Option (Ref12State×Int) :=
 Option.bind (
  Option.bind (Bw N lane1 0 3) fun r7 =>
  if !r7 then
   some true
  else
   Option.bind (Bw N bowler1 0 (w64 ((s1.fBowlers.length:Int)-1))) fun r8 =>
   some (!r8)
 ) fun v4 =>
 if v4 then
  some (s1,7)
 else
  Option.bind (
   if decide (s1.fLanes.a0.fBowler=bowler1)then
    some true
   else
    if decide (0=lane1)then
     some (decide (0≤s1.fLanes.a0.fBowler))
    else
     some false
  ) fun v24 =>
  if v24 then
   some (s1,6)
  else
   Option.bind (
    if decide (s1.fLanes.a1.fBowler=bowler1)then
     some true
    else
     if decide (1=lane1)then
      some (decide (0≤s1.fLanes.a1.fBowler))
     else
      some false
   ) fun v28 =>
   if v28 then
    some (s1,6)
   else
    Option.bind (
     if decide (s1.fLanes.a2.fBowler=bowler1)then
      some true
     else
      if decide (2=lane1)then
       some (decide (0≤s1.fLanes.a2.fBowler))
      else
       some false
    ) fun v32 =>
    if v32 then
     some (s1,6)
    else
     Option.bind (
      if decide (s1.fLanes.a3.fBowler=bowler1)then
       some true
      else
       if decide (3=lane1)then
        some (decide (0≤s1.fLanes.a3.fBowler))
       else
        some false
     ) fun v36 =>
     if v36 then
      some (s1,6)
     else
      Option.bind (
       if decide (lane1=0)then
        some (bowler1,[],s1.fLanes.a1.fBowler,s1.fLanes.a1.fBalls,s1.fLanes.a2.fBowler,s1.fLanes.a2.fBalls,s1.fLanes.a3.fBowler,s1.fLanes.a3.fBalls)
       else
        if decide (lane1=1)then
         some (s1.fLanes.a0.fBowler,s1.fLanes.a0.fBalls,bowler1,[],s1.fLanes.a2.fBowler,s1.fLanes.a2.fBalls,s1.fLanes.a3.fBowler,s1.fLanes.a3.fBalls)
        else
         if decide (lane1=2)then
          some (s1.fLanes.a0.fBowler,s1.fLanes.a0.fBalls,s1.fLanes.a1.fBowler,s1.fLanes.a1.fBalls,bowler1,[],s1.fLanes.a3.fBowler,s1.fLanes.a3.fBalls)
         else
          if decide (lane1=3)then
           some (s1.fLanes.a0.fBowler,s1.fLanes.a0.fBalls,s1.fLanes.a1.fBowler,s1.fLanes.a1.fBalls,s1.fLanes.a2.fBowler,s1.fLanes.a2.fBalls,bowler1,[])
          else
           none
      ) fun(c9,c10,c11,c12,c13,c14,c15,c16) =>
      some (((Ref12State.mk s1.fBowlers (Ar4.mk (Ref12Lane.mk c9 c10) (Ref12Lane.mk c11 c12) (Ref12Lane.mk c13 c14) (Ref12Lane.mk c15 c16)) s1.fKept s1.fSheets s1.fWithdrawn s1.fResults),0))
def Dh (N:Nat)  : Option (Ref01Law) :=
 some (Ref01Law.mk 3 10 2 10)
def DK (N:Nat)(l1:Ref01Law):Option (Ref01Stand) :=
 some (Ref01Stand.mk 0 0 l1.fPins true l1.fBalls)
def Ef (N:Nat)(n1:Int)(low1:Int)(high1:Int):Option (Bool) :=
 Option.bind (
  if decide (low1≤n1)then
   some (decide (n1≤high1))
  else
   some false
 ) fun v2 =>
 some v2
def Dv (N:Nat)(l1:Ref01Law)(s1:Ref01Stand)(ball1:Int):Option (Bool) :=
 Option.bind (
  if decide (s1.fFrame<l1.fFrames)then
   Option.bind (Ef N ball1 (-1) s1.fStanding) fun r2 =>
   some r2
  else
   some false
 ) fun v2 =>
 some v2
def Di (N:Nat)(l1:Ref01Law)(s1:Ref01Stand)(ball1:Int):Option (Ref01Stand×Int) :=
 Option.bind (
  if decide (ball1<0)then
   some 0
  else
   some ball1
 ) fun n2 =>
 Option.bind (
  Option.bind (
   if s1.fSet then
    some (decide (l1.fTap≤n2))
   else
    some false
  ) fun v4 =>
  if v4 then
   some l1.fPins
  else
   some n2
 ) fun n4 =>
 if decide (s1.fFrame<(w64 (l1.fFrames-1)))then
  Option.bind (
   Option.bind (
    if decide ((w64 (s1.fStanding-n4))=0)then
     some ((true,(Ref01Stand.mk s1.fFrame (w64 (s1.fThrown+1)) (w64 (s1.fStanding-n4)) false s1.fHas)))
    else
     some ((decide ((w64 (s1.fThrown+1))=l1.fBalls),(Ref01Stand.mk s1.fFrame (w64 (s1.fThrown+1)) (w64 (s1.fStanding-n4)) false s1.fHas)))
   ) fun(v12,out12) =>
   if v12 then
    some ((Ref01Stand.mk (w64 (s1.fFrame+1)) 0 l1.fPins true l1.fBalls))
   else
    some out12
  ) fun out10 =>
  some (out10,n4)
 else
  Option.bind (
   Option.bind (
    if decide ((w64 (s1.fStanding-n4))=0)then
     some ((decide ((w64 (s1.fThrown+1))<3),(Ref01Stand.mk s1.fFrame (w64 (s1.fThrown+1)) (w64 (s1.fStanding-n4)) false s1.fHas)))
    else
     some ((false,(Ref01Stand.mk s1.fFrame (w64 (s1.fThrown+1)) (w64 (s1.fStanding-n4)) false s1.fHas)))
   ) fun(v16,out18) =>
   if v16 then
    some (Ref01Stand.mk out18.fFrame out18.fThrown out18.fStanding out18.fSet 3)
   else
    some out18
  ) fun out16 =>
  if decide (out16.fThrown=out16.fHas)then
   some (((Ref01Stand.mk l1.fFrames 0 l1.fPins true l1.fBalls),n4))
  else
   Option.bind (
    if decide (out16.fStanding=0)then
     some (Ref01Stand.mk out16.fFrame out16.fThrown l1.fPins true out16.fHas)
    else
     some out16
   ) fun out20 =>
   some (out20,n4)
def CG (N:Nat)(l1:Ref01Law)(sheet1:List Int)(rec3:(Int×Ref01Stand×(List Ref01Ball))→Option (Ref01Stand×(List Ref01Ball)))(i8:Int)(s9:Ref01Stand)(l30:List Ref01Ball):Option (Ref01Stand×(List Ref01Ball)) :=
 Option.bind (
  if decide (i8<(sheet1.length:Int))then
   Option.bind (idx sheet1 i8) fun x44 =>
   Option.bind (Dv N l1 s9 x44) fun r26 =>
   some r26
  else
   some false
 ) fun v24 =>
 if v24 then
  Option.bind (
   Option.bind (idx sheet1 i8) fun x48 =>
   Option.bind (Di N l1 s9 x48) fun(ra24,rb24) =>
   some (rb24,ra24)
  ) fun(n26,next24) =>
  Option.bind (app N l30 ([(Ref01Ball.mk s9.fFrame n26)])) fun l34 =>
  rec3 ((w64 (i8+1),next24,l34))
 else
  some (s9,l30)
def Ct (N:Nat)(l1:Ref01Law)(sheet1:List Int):Option (Ref01Stand×(List Ref01Ball)) :=
 Option.bind (DK N l1) fun r2 =>
 Option.bind (
  loopN (fun rec3 x=>CG N l1 sheet1 rec3 x.1 x.2.1 x.2.2) N (0,r2,[])
 ) fun(s5,l18) =>
 some (s5,l18)
def DX (N:Nat)(l1:Ref01Law)(sheet1:List Int):Option (Bool) :=
 Option.bind (Ct N l1 sheet1) fun(ra2,rb2) =>
 some (decide ((rb2.length:Int)=(sheet1.length:Int)))
def Dw (N:Nat)(s1:Ref12State)(lane1:Int)(pins1:Int):Option (Ref12State×Int) :=
 Option.bind (Bw N lane1 0 3) fun r4 =>
 if !r4 then
  some (s1,7)
 else
  Option.bind (
   if decide (lane1=0)then
    some (decide (s1.fLanes.a0.fBowler<0))
   else
    if decide (lane1=1)then
     some (decide (s1.fLanes.a1.fBowler<0))
    else
     if decide (lane1=2)then
      some (decide (s1.fLanes.a2.fBowler<0))
     else
      if decide (lane1=3)then
       some (decide (s1.fLanes.a3.fBowler<0))
      else
       none
  ) fun v4 =>
  if v4 then
   some (s1,8)
  else
   Option.bind (
    if decide (lane1=0)then
     Option.bind (app N ([]) s1.fLanes.a0.fBalls) fun l11 =>
     Option.bind (app N l11 ([pins1])) fun l12 =>
     some l12
    else
     if decide (lane1=1)then
      Option.bind (app N ([]) s1.fLanes.a1.fBalls) fun l13 =>
      Option.bind (app N l13 ([pins1])) fun l14 =>
      some l14
     else
      if decide (lane1=2)then
       Option.bind (app N ([]) s1.fLanes.a2.fBalls) fun l15 =>
       Option.bind (app N l15 ([pins1])) fun l16 =>
       some l16
      else
       if decide (lane1=3)then
        Option.bind (app N ([]) s1.fLanes.a3.fBalls) fun l17 =>
        Option.bind (app N l17 ([pins1])) fun l18 =>
        some l18
       else
        none
   ) fun l10 =>
   Option.bind (Dh N) fun r11 =>
   Option.bind (DX N r11 l10) fun r12 =>
   if !r12 then
    some (s1,10)
   else
    if decide (lane1=0)then
     some (((Ref12State.mk s1.fBowlers (Ar4.mk (Ref12Lane.mk s1.fLanes.a0.fBowler l10) s1.fLanes.a1 s1.fLanes.a2 s1.fLanes.a3) s1.fKept s1.fSheets s1.fWithdrawn s1.fResults),0))
    else
     if decide (lane1=1)then
      some (((Ref12State.mk s1.fBowlers (Ar4.mk s1.fLanes.a0 (Ref12Lane.mk s1.fLanes.a1.fBowler l10) s1.fLanes.a2 s1.fLanes.a3) s1.fKept s1.fSheets s1.fWithdrawn s1.fResults),0))
     else
      if decide (lane1=2)then
       some (((Ref12State.mk s1.fBowlers (Ar4.mk s1.fLanes.a0 s1.fLanes.a1 (Ref12Lane.mk s1.fLanes.a2.fBowler l10) s1.fLanes.a3) s1.fKept s1.fSheets s1.fWithdrawn s1.fResults),0))
      else
       if decide (lane1=3)then
        some (((Ref12State.mk s1.fBowlers (Ar4.mk s1.fLanes.a0 s1.fLanes.a1 s1.fLanes.a2 (Ref12Lane.mk s1.fLanes.a3.fBowler l10)) s1.fKept s1.fSheets s1.fWithdrawn s1.fResults),0))
       else
        none
def Dx (N:Nat)(s1:Ref12State)(lane1:Int):Option (Ref12State×Int) :=
 Option.bind (Bw N lane1 0 3) fun r4 =>
 if !r4 then
  some (s1,7)
 else
  Option.bind (
   if decide (lane1=0)then
    some (s1.fLanes.a0.fBalls.length:Int)
   else
    if decide (lane1=1)then
     some (s1.fLanes.a1.fBalls.length:Int)
    else
     if decide (lane1=2)then
      some (s1.fLanes.a2.fBalls.length:Int)
     else
      if decide (lane1=3)then
       some (s1.fLanes.a3.fBalls.length:Int)
      else
       none
  ) fun n2 =>
  Option.bind (
   if decide (lane1=0)then
    if decide (s1.fLanes.a0.fBowler<0)then
     some true
    else
     some (decide (n2=0))
   else
    if decide (lane1=1)then
     if decide (s1.fLanes.a1.fBowler<0)then
      some true
     else
      some (decide (n2=0))
    else
     if decide (lane1=2)then
      if decide (s1.fLanes.a2.fBowler<0)then
       some true
      else
       some (decide (n2=0))
     else
      if decide (lane1=3)then
       if decide (s1.fLanes.a3.fBowler<0)then
        some true
       else
        some (decide (n2=0))
      else
       none
  ) fun v4 =>
  if v4 then
   some (s1,8)
  else
   if decide (lane1=0)then
    Option.bind (slc s1.fLanes.a0.fBalls 0 (w64 (n2-1))) fun l9 =>
    Option.bind (app N ([]) l9) fun l10 =>
    some (((Ref12State.mk s1.fBowlers (Ar4.mk (Ref12Lane.mk s1.fLanes.a0.fBowler l10) s1.fLanes.a1 s1.fLanes.a2 s1.fLanes.a3) s1.fKept s1.fSheets s1.fWithdrawn s1.fResults),0))
   else
    if decide (lane1=1)then
     Option.bind (slc s1.fLanes.a1.fBalls 0 (w64 (n2-1))) fun l11 =>
     Option.bind (app N ([]) l11) fun l12 =>
     some (((Ref12State.mk s1.fBowlers (Ar4.mk s1.fLanes.a0 (Ref12Lane.mk s1.fLanes.a1.fBowler l12) s1.fLanes.a2 s1.fLanes.a3) s1.fKept s1.fSheets s1.fWithdrawn s1.fResults),0))
    else
     if decide (lane1=2)then
      Option.bind (slc s1.fLanes.a2.fBalls 0 (w64 (n2-1))) fun l13 =>
      Option.bind (app N ([]) l13) fun l14 =>
      some (((Ref12State.mk s1.fBowlers (Ar4.mk s1.fLanes.a0 s1.fLanes.a1 (Ref12Lane.mk s1.fLanes.a2.fBowler l14) s1.fLanes.a3) s1.fKept s1.fSheets s1.fWithdrawn s1.fResults),0))
     else
      if decide (lane1=3)then
       Option.bind (slc s1.fLanes.a3.fBalls 0 (w64 (n2-1))) fun l15 =>
       Option.bind (app N ([]) l15) fun l16 =>
       some (((Ref12State.mk s1.fBowlers (Ar4.mk s1.fLanes.a0 s1.fLanes.a1 s1.fLanes.a2 (Ref12Lane.mk s1.fLanes.a3.fBowler l16)) s1.fKept s1.fSheets s1.fWithdrawn s1.fResults),0))
      else
       none
def CH (N:Nat) (l15:List Int):Option ((List Int)) :=
 some l15
def CJ (N:Nat)(f8:Int)(rec43:(Int×Int×(List Int))→Option ((List Int)))(up14:Int)(l27:List Int):Option ((List Int)) :=
 rec43 ((up14,w64 (f8+1),l27))
def Cn (N:Nat)(rb2:List Ref01Ball)(f8:Int)(rec49:(Int×Int×Int×Int)→Option (Int×Int×Int))(own445:Int)(balls346:Int)(last250:Int)(i254:Int):Option (Int×Int×Int) :=
 if decide (i254<(rb2.length:Int))then
  Option.bind (
   Option.bind (idx rb2 i254) fun x516 =>
   if decide (x516.fFrame=f8)then
    some ((w64 (own445+x516.fCount),w64 (balls346+1),i254))
   else
    some (own445,balls346,last250)
  ) fun(own447,balls348,last252) =>
  rec49 ((own447,balls348,last252,w64 (i254+1)))
 else
  some (own445,balls346,last250)
def Co (N:Nat)(rb2:List Ref01Ball)(last242:Int)(more48:Int)(rec51:(Int×Int)→Option (Int))(own456:Int)(i264:Int):Option (Int) :=
 if decide (i264≤(w64 (last242+more48)))then
  Option.bind (idx rb2 i264) fun x528 =>
  rec51 ((w64 (own456+x528.fCount),w64 (i264+1)))
 else
  some own456
def Cp (N:Nat)(l1:Ref01Law)(ra2:Ref01Stand)(rb2:List Ref01Ball)(rec43:(Int×Int×(List Int))→Option ((List Int)))(up13:Int)(f8:Int)(l25:List Int):Option ((List Int)) :=
 if decide (f8<ra2.fFrame)then
  Option.bind (
   loopN (fun rec49 x=>Cn N rb2 f8 rec49 x.1 x.2.1 x.2.2.1 x.2.2.2) N (0,0,0,0)
  ) fun(own433,balls334,last242) =>
  Option.bind (
   Option.bind (
    if decide (f8<(w64 (l1.fFrames-1)))then
     if decide (own433=l1.fPins)then
      some (decide (balls334=1))
     else
      some false
    else
     some false
   ) fun v92 =>
   if v92 then
    some 2
   else
    some 0
  ) fun more46 =>
  Option.bind (
   Option.bind (
    if decide (f8<(w64 (l1.fFrames-1)))then
     if decide (own433=l1.fPins)then
      some (decide (balls334=2))
     else
      some false
    else
     some false
   ) fun v96 =>
   if v96 then
    some 1
   else
    some more46
  ) fun more48 =>
  if decide ((rb2.length:Int)≤(w64 (last242+more48)))then
   some l25
  else
   Option.bind (
    loopN (fun rec51 x=>Co N rb2 last242 more48 rec51 x.1 x.2) N ((own433,w64 (last242+1)))
   ) fun own452 =>
   Option.bind (app N l25 ([w64 (up13+own452)])) fun l28 =>
   CJ N f8 rec43 (w64 (up13+own452)) l28
 else
  CH N l25
def C0 (N:Nat)(l1:Ref01Law)(sheet1:List Int):Option ((List Int)) :=
 Option.bind (Ct N l1 sheet1) fun(ra2,rb2) =>
 loopN (fun rec43 x=>Cp N l1 ra2 rb2 rec43 x.1 x.2.1 x.2.2) N (0,0,[])
def Cq (N:Nat)(l1:Ref01Law)(sheet1:List Int):Option (Int) :=
 Option.bind (Ct N l1 sheet1) fun(ra4,rb4) =>
 Option.bind (
  if decide (ra4.fFrame<l1.fFrames)then
   some true
  else
   some (decide ((rb4.length:Int)<(sheet1.length:Int)))
 ) fun v4 =>
 if v4 then
  some (-1)
 else
  Option.bind (C0 N l1 sheet1) fun r2 =>
  Option.bind (idx r2 (w64 (l1.fFrames-1))) fun x2 =>
  some x2
def Dj (N:Nat)(s1:Ref12State)(lane1:Int):Option (Ref12State×Int) :=
 Option.bind (Bw N lane1 0 3) fun r4 =>
 if !r4 then
  some (s1,7)
 else
  Option.bind (
   if decide (lane1=0)then
    some s1.fLanes.a0
   else
    if decide (lane1=1)then
     some s1.fLanes.a1
    else
     if decide (lane1=2)then
      some s1.fLanes.a2
     else
      if decide (lane1=3)then
       some s1.fLanes.a3
      else
       none
  ) fun x2 =>
  Option.bind (
   if decide (x2.fBowler<0)then
    some true
   else
    Option.bind (Dh N) fun r11 =>
    Option.bind (Cq N r11 x2.fBalls) fun r12 =>
    some (decide (r12<0))
  ) fun v4 =>
  if v4 then
   some (s1,8)
  else
   Option.bind (app N ([]) s1.fKept) fun l2 =>
   Option.bind (idx l2 x2.fBowler) fun x4 =>
   Option.bind (app N ([]) x4) fun l5 =>
   Option.bind (Dh N) fun r15 =>
   Option.bind (Cq N r15 x2.fBalls) fun r16 =>
   Option.bind (app N l5 ([r16])) fun l6 =>
   Option.bind (
    if decide (lane1=0)then
     some (((-1),[],s1.fLanes.a1.fBowler,s1.fLanes.a1.fBalls,s1.fLanes.a2.fBowler,s1.fLanes.a2.fBalls,s1.fLanes.a3.fBowler,s1.fLanes.a3.fBalls,(List.set l2 (Int.toNat x2.fBowler) l6)))
    else
     if decide (lane1=1)then
      some ((s1.fLanes.a0.fBowler,s1.fLanes.a0.fBalls,(-1),[],s1.fLanes.a2.fBowler,s1.fLanes.a2.fBalls,s1.fLanes.a3.fBowler,s1.fLanes.a3.fBalls,(List.set l2 (Int.toNat x2.fBowler) l6)))
     else
      if decide (lane1=2)then
       some ((s1.fLanes.a0.fBowler,s1.fLanes.a0.fBalls,s1.fLanes.a1.fBowler,s1.fLanes.a1.fBalls,(-1),[],s1.fLanes.a3.fBowler,s1.fLanes.a3.fBalls,(List.set l2 (Int.toNat x2.fBowler) l6)))
      else
       if decide (lane1=3)then
        some ((s1.fLanes.a0.fBowler,s1.fLanes.a0.fBalls,s1.fLanes.a1.fBowler,s1.fLanes.a1.fBalls,s1.fLanes.a2.fBowler,s1.fLanes.a2.fBalls,(-1),[],(List.set l2 (Int.toNat x2.fBowler) l6)))
       else
        none
   ) fun(c9,c10,c11,c12,c13,c14,c15,c16,l8) =>
   some (((Ref12State.mk s1.fBowlers (Ar4.mk (Ref12Lane.mk c9 c10) (Ref12Lane.mk c11 c12) (Ref12Lane.mk c13 c14) (Ref12Lane.mk c15 c16)) l8 s1.fSheets s1.fWithdrawn s1.fResults),0))
def Dk (N:Nat)(s1:Ref12State)(week1:Int)(bowler1:Int):Option (Ref12State×Int) :=
 Option.bind (Bw N week1 1 30) fun r4 =>
 if !r4 then
  some (s1,2)
 else
  Option.bind (Bw N bowler1 0 (w64 ((s1.fBowlers.length:Int)-1))) fun r8 =>
  if !r8 then
   some (s1,7)
  else
   Option.bind (idx s1.fKept bowler1) fun x2 =>
   if decide ((x2.length:Int)<3)then
    some (s1,8)
   else
    if decide (40≤(s1.fSheets.length:Int))then
     some (s1,3)
    else
     Option.bind (app N ([]) s1.fKept) fun l2 =>
     Option.bind (
      Option.bind (slc x2 0 (w64 ((x2.length:Int)-3))) fun l7 =>
      Option.bind (app N ([]) l7) fun l8 =>
      Option.bind (idx l2 bowler1) fun x4 =>
      some (((x2.length:Int),(List.set l2 (Int.toNat bowler1) l8)))
     ) fun(n2,l6) =>
     Option.bind (
      Option.bind (idx x2 (w64 (n2-3))) fun x8 =>
      Option.bind (idx x2 (w64 (n2-2))) fun x9 =>
      Option.bind (idx x2 (w64 (n2-1))) fun x10 =>
      Option.bind (app N ([]) s1.fSheets) fun l13 =>
      Option.bind (app N l13 ([(Ref07Sheet.mk (w64 (1+(s1.fSheets.length:Int))) bowler1 week1 (Ar3.mk x8 x9 x10))])) fun l14 =>
      some l14
     ) fun l12 =>
     some (((Ref12State.mk s1.fBowlers s1.fLanes l6 l12 s1.fWithdrawn s1.fResults),0))
def DO (N:Nat)   : Option (Bool) :=
 some false
def Ex (N:Nat)(l1:List Int)(n1:Int)(rec3:(Int)→Option (Bool))(i8:Int):Option (Bool) :=
 if decide (i8<(l1.length:Int))then
  Option.bind (idx l1 i8) fun x24 =>
  if decide (x24=n1)then
   some true
  else
   rec3 (w64 (i8+1))
 else
  DO N
def DP (N:Nat)(l1:List Int)(n1:Int):Option (Bool) :=
 loopN (fun rec3 x=>Ex N l1 n1 rec3 x) N 0
def CK (N:Nat)(s1:Ref12State)(number1:Int)(rec3:(Int×(List Int))→Option ((List Int)))(n9:Int)(l29:List Int):Option ((List Int)) :=
 if decide (n9≤(s1.fSheets.length:Int))then
  Option.bind (
   Option.bind (
    if decide (n9=number1)then
     some true
    else
     Option.bind (DP N s1.fWithdrawn n9) fun r32 =>
     some r32
   ) fun v24 =>
   if v24 then
    Option.bind (app N l29 ([n9])) fun l33 =>
    some l33
   else
    some l29
  ) fun l32 =>
  rec3 ((w64 (n9+1),l32))
 else
  some l29
def C1 (N:Nat)(s1:Ref12State)(number1:Int):Option (Ref12State×Int) :=
 Option.bind (Bw N number1 1 (s1.fSheets.length:Int)) fun r4 =>
 if !r4 then
  some (s1,7)
 else
  Option.bind (DP N s1.fWithdrawn number1) fun r8 =>
  if r8 then
   some (s1,6)
  else
   Option.bind (
    loopN (fun rec3 x=>CK N s1 number1 rec3 x.1 x.2) N (1,[])
   ) fun l17 =>
   some (((Ref12State.mk s1.fBowlers s1.fLanes s1.fKept s1.fSheets l17 s1.fResults),0))
def Eg (N:Nat)(s1:Ref12State):Option (Ref09Cup) :=
 some ((Ref09Cup.mk 1 (s1.fBowlers.length:Int) 1 s1.fResults))
def DL (N:Nat)   : Option ((List Ref09Pair)) :=
 none
def C8 (N:Nat)(c1:Ref09Cup)(rec5:(Int×(List Ref09Pair))→Option ((List Ref09Pair)))(n19:Int)(l40:List Ref09Pair):Option ((List Ref09Pair)) :=
 if decide (n19<(w64 (c1.fPlayers-1)))then
  Option.bind (
   if decide (n19=0)then
    some ((Ref09Side.mk (w64 (c1.fPlayers-1)) (-1)))
   else
    some ((Ref09Side.mk (-1) (w64 (n19-1))))
  ) fun second40 =>
  Option.bind (app N l40 ([(Ref09Pair.mk (Ref09Side.mk (w64 ((w64 (c1.fPlayers-2))-n19)) (-1)) second40)])) fun l42 =>
  rec5 ((w64 (n19+1),l42))
 else
  some l40
def Dy (N:Nat)(c1:Ref09Cup):Option ((List Ref09Pair)) :=
 if decide (c1.fForm=1)then
  Option.bind (
   loopN (fun rec5 x=>C8 N c1 rec5 x.1 x.2) N (0,[])
  ) fun l32 =>
  some l32
 else
  DL N
def C9 (N:Nat)   : Option (Int) :=
 some (-1)
def CL (N:Nat)(c1:Ref09Cup)(match1:Int)(rec3:(Int)→Option (Int))(i8:Int):Option (Int) :=
 if decide (i8<(c1.fResults.length:Int))then
  Option.bind (idx c1.fResults i8) fun x24 =>
  if decide (x24.fMatch=match1)then
   some i8
  else
   rec3 (w64 (i8+1))
 else
  C9 N
def Dd (N:Nat)(c1:Ref09Cup)(match1:Int):Option (Int) :=
 loopN (fun rec3 x=>CL N c1 match1 rec3 x) N 0
def zG (N:Nat)(games1:List Int)(player1:Int)(rec3:(Int×Int)→Option (Int))(n20:Int)(i8:Int):Option (Int) :=
 if decide (i8<(games1.length:Int))then
  Option.bind (
   Option.bind (idx games1 i8) fun x24 =>
   if decide (x24=player1)then
    some (w64 (n20+1))
   else
    some n20
  ) fun n23 =>
  rec3 ((n23,w64 (i8+1)))
 else
  some n20
def CU (N:Nat)(games1:List Int)(player1:Int):Option (Int) :=
 Option.bind (
  loopN (fun rec3 x=>zG N games1 player1 rec3 x.1 x.2) N (0,0)
 ) fun n12 =>
 some n12
def C3 (N:Nat)   : Option (Int) :=
 some (-1)
def zc (N:Nat)(c1:Ref09Cup)(games1:List Int)(rec3:(Int)→Option (Int))(i8:Int):Option (Int) :=
 if decide (i8<(games1.length:Int))then
  Option.bind (idx games1 i8) fun x24 =>
  Option.bind (CU N games1 x24) fun r24 =>
  if decide (c1.fGames<(w64 (2*r24)))then
   some x24
  else
   rec3 (w64 (i8+1))
 else
  C3 N
def CM (N:Nat)(c1:Ref09Cup)(games1:List Int):Option (Int) :=
 loopN (fun rec3 x=>zc N c1 games1 rec3 x) N 0
def Dz (N:Nat)(c1:Ref09Cup)(match1:Int):Option (Int) :=
 Option.bind (Dd N c1 match1) fun r2 =>
 if decide (r2<0)then
  some (-1)
 else
  Option.bind (idx c1.fResults r2) fun x2 =>
  Option.bind (CM N c1 x2.fGames) fun r4 =>
  some r4
def CA (N:Nat)(c1:Ref09Cup)(s1:Ref09Side):Option (Int) :=
 if decide (s1.fMatch<0)then
  some s1.fPlayer
 else
  Option.bind (Dz N c1 s1.fMatch) fun r2 =>
  some r2
def CN (N:Nat)(c1:Ref09Cup)(r2:List Ref09Pair)(rec3:(Int×(List Ref09Match))→Option ((List Ref09Match)))(n9:Int)(l29:List Ref09Match):Option ((List Ref09Match)) :=
 if decide (n9<(r2.length:Int))then
  Option.bind (
   Option.bind (idx r2 n9) fun x46 =>
   Option.bind (CA N c1 x46.fFirst) fun r181 =>
   Option.bind (CA N c1 x46.fSecond) fun r182 =>
   Option.bind (
    if decide (r181<0)then
     some true
    else
     if decide (r182<0)then
      some true
     else
      Option.bind (Dz N c1 n9) fun r186 =>
      some (decide (0≤r186))
   ) fun v48 =>
   if v48 then
    some l29
   else
    Option.bind (
     Option.bind (Dd N c1 n9) fun r192 =>
     if decide (0≤r192)then
      Option.bind (idx c1.fResults r192) fun x48 =>
      Option.bind (CU N x48.fGames r181) fun r193 =>
      Option.bind (CU N x48.fGames r182) fun r194 =>
      some (Ref09Match.mk n9 r181 r182 r193 r194)
     else
      some (Ref09Match.mk n9 r181 r182 0 0)
    ) fun m24 =>
    Option.bind (app N l29 ([m24])) fun l33 =>
    some l33
  ) fun l32 =>
  rec3 ((w64 (n9+1),l32))
 else
  some l29
def DA (N:Nat)(c1:Ref09Cup):Option ((List Ref09Match)) :=
 Option.bind (Dy N c1) fun r2 =>
 Option.bind (
  loopN (fun rec3 x=>CN N c1 r2 rec3 x.1 x.2) N (0,[])
 ) fun l17 =>
 some l17
def DB (N:Nat)(s1:Ref12State)(bowler1:Int):Option (Ref12State×Int) :=
 if decide ((s1.fBowlers.length:Int)<2)then
  some (s1,8)
 else
  Option.bind (Eg N s1) fun r3 =>
  Option.bind (DA N r3) fun r4 =>
  if decide ((r4.length:Int)=0)then
   some (s1,8)
  else
   Option.bind (
    Option.bind (idx r4 0) fun x4 =>
    if !decide (x4.fFirst=bowler1)then
     some (!decide (x4.fSecond=bowler1))
    else
     some false
   ) fun v4 =>
   if v4 then
    some (s1,10)
   else
    Option.bind (
     Option.bind (idx r4 0) fun x6 =>
     Option.bind (app N ([]) s1.fResults) fun l5 =>
     Option.bind (app N l5 ([(Ref09Result.mk x6.fNumber ([bowler1]) false)])) fun l6 =>
     some l6
    ) fun l4 =>
    some (((Ref12State.mk s1.fBowlers s1.fLanes s1.fKept s1.fSheets s1.fWithdrawn l4),0))
def Dq (N:Nat)(s1:Ref12State)  : Option (Ref12State×Int) :=
 some (s1,7)
def Cy (N:Nat)(s1:Ref12State)(match1:Int)(rec3:(Int)→Option (Ref12State×Int))(i8:Int):Option (Ref12State×Int) :=
 if decide (i8<(s1.fResults.length:Int))then
  Option.bind (idx s1.fResults i8) fun x70 =>
  if !decide (x70.fMatch=match1)then
   rec3 (w64 (i8+1))
  else
   if x70.fProtested then
    some (s1,6)
   else
    Option.bind (app N ([]) s1.fResults) fun l24 =>
    Option.bind (idx l24 i8) fun x72 =>
    some (((Ref12State.mk s1.fBowlers s1.fLanes s1.fKept s1.fSheets s1.fWithdrawn (List.set l24 (Int.toNat i8) (Ref09Result.mk x72.fMatch x72.fGames true))),0))
 else
  Dq N s1
def Dl (N:Nat)(s1:Ref12State)(match1:Int):Option (Ref12State×Int) :=
 loopN (fun rec3 x=>Cy N s1 match1 rec3 x) N 0
def Eh (N:Nat)(s1:Ref12State)(line1:List UInt8):Option (Ref12State×Int) :=
 Option.bind (Cz N line1) fun(ra2,rb2,rc2) =>
 if !rc2 then
  some (s1,4)
 else
  if decide (ra2=([98,111,119,108,101,114]:List UInt8))then
   Option.bind (idx rb2 0) fun x24 =>
   Option.bind (CZ N s1 x24) fun(ra20,rb20) =>
   some (ra20,rb20)
  else
   if decide (ra2=([111,112,101,110]:List UInt8))then
    Option.bind (idx rb2 0) fun x27 =>
    Option.bind (idx rb2 1) fun x28 =>
    Option.bind (Du N s1 x27 x28) fun(ra22,rb22) =>
    some (ra22,rb22)
   else
    if decide (ra2=([98,97,108,108]:List UInt8))then
     Option.bind (idx rb2 0) fun x31 =>
     Option.bind (idx rb2 1) fun x32 =>
     Option.bind (Dw N s1 x31 x32) fun(ra24,rb24) =>
     some (ra24,rb24)
    else
     if decide (ra2=([98,97,99,107]:List UInt8))then
      Option.bind (idx rb2 0) fun x34 =>
      Option.bind (Dx N s1 x34) fun(ra26,rb26) =>
      some (ra26,rb26)
     else
      if decide (ra2=([99,108,111,115,101]:List UInt8))then
       Option.bind (idx rb2 0) fun x36 =>
       Option.bind (Dj N s1 x36) fun(ra28,rb28) =>
       some (ra28,rb28)
      else
       if decide (ra2=([115,104,101,101,116]:List UInt8))then
        Option.bind (idx rb2 0) fun x39 =>
        Option.bind (idx rb2 1) fun x40 =>
        Option.bind (Dk N s1 x39 x40) fun(ra30,rb30) =>
        some (ra30,rb30)
       else
        if decide (ra2=([115,116,114,105,107,101]:List UInt8))then
         Option.bind (idx rb2 0) fun x42 =>
         Option.bind (C1 N s1 x42) fun(ra32,rb32) =>
         some (ra32,rb32)
        else
         if decide (ra2=([100,117,101,108]:List UInt8))then
          Option.bind (idx rb2 0) fun x44 =>
          Option.bind (DB N s1 x44) fun(ra34,rb34) =>
          some (ra34,rb34)
         else
          Option.bind (idx rb2 0) fun x46 =>
          Option.bind (Dl N s1 x46) fun(ra36,rb36) =>
          some (ra36,rb36)
def CO (N:Nat)(lines1:List (List UInt8))(rec3:(Int×Ref12State×(List Int))→Option (Ref12State×(List Int)))(i8:Int)(s9:Ref12State)(l19:List Int):Option (Ref12State×(List Int)) :=
 if decide (i8<(lines1.length:Int))then
  Option.bind (
   Option.bind (idx lines1 i8) fun x24 =>
   Option.bind (Eh N s9 x24) fun(ra24,rb24) =>
   some (rb24,ra24)
  ) fun(e24,t24) =>
  Option.bind (app N l19 ([e24])) fun l21 =>
  rec3 ((w64 (i8+1),t24,l21))
 else
  some (s9,l19)
def DC (N:Nat)(lines1:List (List UInt8)):Option (Ref12State×(List Int)) :=
 Option.bind (DJ N) fun r2 =>
 Option.bind (
  loopN (fun rec3 x=>CO N lines1 rec3 x.1 x.2.1 x.2.2) N (0,r2,[])
 ) fun(s5,l11) =>
 some (s5,l11)
def ED (N:Nat)(rb2:List Ref01Ball)(f8:Int)(rec27:(Int×Int×Int×Int)→Option (Int×Int×Int))(own346:Int)(balls346:Int)(last250:Int)(i144:Int):Option (Int×Int×Int) :=
 if decide (i144<(rb2.length:Int))then
  Option.bind (
   Option.bind (idx rb2 i144) fun x384 =>
   if decide (x384.fFrame=f8)then
    some ((w64 (own346+x384.fCount),w64 (balls346+1),i144))
   else
    some (own346,balls346,last250)
  ) fun(own348,balls348,last252) =>
  rec27 ((own348,balls348,last252,w64 (i144+1)))
 else
  some (own346,balls346,last250)
def Df (N:Nat)(l1:Ref01Law)(ra2:Ref01Stand)(rb2:List Ref01Ball)(rec23:(Int×Ref01Tail)→Option (Ref01Tail))(f8:Int)(t39:Ref01Tail):Option (Ref01Tail) :=
 Option.bind (
  if decide (f8<ra2.fFrame)then
   some (decide (f8<(w64 (l1.fFrames-1))))
  else
   some false
 ) fun v64 =>
 if v64 then
  Option.bind (
   Option.bind (
    loopN (fun rec27 x=>ED N rb2 f8 rec27 x.1 x.2.1 x.2.2.1 x.2.2.2) N (0,0,0,0)
   ) fun(own334,balls334,last242) =>
   Option.bind (
    Option.bind (
     if decide (own334=l1.fPins)then
      some (decide (balls334<3))
     else
      some false
    ) fun v72 =>
    if v72 then
     some (w64 (3-balls334))
    else
     some 0
   ) fun more24 =>
   Option.bind (
    if decide (1≤(w64 ((w64 ((w64 (last242+1))+more24))-(rb2.length:Int))))then
     some ((w64 ((w64 ((w64 (last242+1))+more24))-(rb2.length:Int)),(Ref01Tail.mk t39.fStand (w64 (t39.fOne+1)) t39.fTwo)))
    else
     some ((w64 ((w64 ((w64 (last242+1))+more24))-(rb2.length:Int)),t39))
   ) fun(left24,t45) =>
   if decide (2≤left24)then
    some ((Ref01Tail.mk t45.fStand t45.fOne (w64 (t45.fTwo+1))))
   else
    some t45
  ) fun t43 =>
  rec23 ((w64 (f8+1),t43))
 else
  some t39
def Em (N:Nat)(l1:Ref01Law)(sheet1:List Int):Option (Ref01Tail) :=
 Option.bind (Ct N l1 sheet1) fun(ra2,rb2) =>
 Option.bind (
  loopN (fun rec23 x=>Df N l1 ra2 rb2 rec23 x.1 x.2) N ((0,(Ref01Tail.mk ra2 0 0)))
 ) fun t23 =>
 some t23
def D5 (N:Nat)(l1:Ref01Law)(sheet1:List Int)(rec3:(Int×Int)→Option (Int))(n10:Int)(i8:Int):Option (Int) :=
 if decide (i8<(sheet1.length:Int))then
  Option.bind (
   Option.bind (slc sheet1 0 i8) fun l25 =>
   Option.bind (Em N l1 l25) fun r24 =>
   some r24
  ) fun t24 =>
  Option.bind (
   Option.bind (idx sheet1 i8) fun x24 =>
   Option.bind (Di N l1 t24.fStand x24) fun(ra24,rb24) =>
   some rb24
  ) fun own24 =>
  rec3 ((w64 (n10+(w64 (own24*(w64 (1+t24.fOne))))),w64 (i8+1)))
 else
  some n10
def EG (N:Nat)(l1:Ref01Law)(sheet1:List Int):Option (Int) :=
 Option.bind (
  loopN (fun rec3 x=>D5 N l1 sheet1 rec3 x.1 x.2) N (0,0)
 ) fun n6 =>
 some n6
def D6 (N:Nat)(l1:Ref01Law)(t1:Ref01Tail)(ball1:Int):Option (Ref01Tail×Int) :=
 Option.bind (Di N l1 t1.fStand ball1) fun(ra2,rb2) =>
 Option.bind (
  Option.bind (
   if decide (t1.fStand.fFrame<(w64 (l1.fFrames-1)))then
    some ((w64 (rb2*(w64 (1+t1.fOne))),decide (t1.fStand.fStanding=rb2)))
   else
    some ((w64 (rb2*(w64 (1+t1.fOne))),false))
  ) fun(worth6,v4) =>
  if v4 then
   Option.bind (
    if decide (t1.fStand.fThrown=0)then
     some ((Ref01Tail.mk ra2 (w64 (t1.fTwo+1)) 1))
    else
     some (Ref01Tail.mk ra2 t1.fTwo 0)
   ) fun out6 =>
   if decide (t1.fStand.fThrown=1)then
    some ((worth6,(Ref01Tail.mk out6.fStand (w64 (out6.fOne+1)) out6.fTwo)))
   else
    some (worth6,out6)
  else
   some ((worth6,(Ref01Tail.mk ra2 t1.fTwo 0)))
 ) fun(worth4,out4) =>
 some (out4,worth4)
def El (N:Nat)(l1215:List Bool)(rec159:((List Bool))→Option ((List Bool)))  : Option ((List Bool)) :=
 Option.bind (app N l1215 ([false])) fun l1216 =>
 rec159 l1216
def zD (N:Nat)(rb46:Int)(k48:Int)(rec159:((List Bool))→Option ((List Bool)))(l1215:List Bool):Option ((List Bool)) :=
 if decide ((l1215.length:Int)≤(w64 (rb46+k48)))then
  El N l1215 rec159
 else
  some l1215
def zR (N:Nat)(rb46:Int)(ra48:List Bool)(rb48:List (Ref01Tail×List Bool))(rec155:(Int×(List Bool))→Option ((List (Ref01Tail×List Bool))×(List Bool)))(k48:Int)(l1184:List Bool):Option ((List (Ref01Tail×List Bool))×(List Bool)) :=
 if decide (k48<(ra48.length:Int))then
  Option.bind (
   Option.bind (
    loopN (fun rec159 x=>zD N rb46 k48 rec159 x) N l1184
   ) fun l1209 =>
   Option.bind (idx l1209 (w64 (rb46+k48))) fun x143 =>
   if x143 then
    some ((List.set l1209 (Int.toNat (w64 (rb46+k48))) true))
   else
    Option.bind (idx ra48 k48) fun x144 =>
    some ((List.set l1209 (Int.toNat (w64 (rb46+k48))) x144))
  ) fun l1201 =>
  rec155 ((w64 (k48+1),l1201))
 else
  some (rb48,l1184)
def yM (N:Nat)(rec1:(Ref01Law×Ref01Tail×(List (Ref01Tail×List Bool)))→Option ((List Bool)×(List (Ref01Tail×List Bool))))(l1:Ref01Law)(t1:Ref01Tail)(rec133:(Int×(List (Ref01Tail×List Bool))×(List Bool))→Option ((List (Ref01Tail×List Bool))×(List Bool)))(ball8:Int)(m15:List (Ref01Tail×List Bool))(l1015:List Bool):Option ((List (Ref01Tail×List Bool))×(List Bool)) :=
 if decide (ball8≤t1.fStand.fStanding)then
  Option.bind (
   Option.bind (D6 N l1 t1 ball8) fun(ra46,rb46) =>
   Option.bind (rec1 (l1,ra46,m15)) fun(ra48,rb48) =>
   loopN (fun rec155 x=>zR N rb46 ra48 rb48 rec155 x.1 x.2) N (0,l1015)
  ) fun(m16,l1116) =>
  rec133 ((w64 (ball8+1),m16,l1116))
 else
  some (m15,l1015)
def yN (N:Nat)(rec1:(Ref01Law×Ref01Tail×(List (Ref01Tail×List Bool)))→Option ((List Bool)×(List (Ref01Tail×List Bool))))(l1:Ref01Law)(t1:Ref01Tail)(m1:List (Ref01Tail×List Bool)):Option ((List Bool)×(List (Ref01Tail×List Bool))) :=
 if decide (t1.fStand.fFrame=l1.fFrames)then
  some ([true],m1)
 else
  Option.bind (mgt m1 t1 ([])) fun(v4,is4) =>
  if is4 then
   some (v4,m1)
  else
   Option.bind (
    loopN (fun rec133 x=>yM N rec1 l1 t1 rec133 x.1 x.2.1 x.2.2) N (0,m1,[])
   ) fun(m9,l609) =>
   some ((l609,(mput m9 t1 l609)))
def GO (N:Nat)(l1:Ref01Law)(t1:Ref01Tail)(m1:List (Ref01Tail×List Bool)):Option ((List Bool)×(List (Ref01Tail×List Bool))) :=
 loopN (fun rr x=>yN N rr x.1 x.2.1 x.2.2) N (l1,t1,m1)
def CE (N:Nat)(n2:Int)(rest2:List Bool)(rec3:(Int×(List Int))→Option ((List Int)))(k8:Int)(l30:List Int):Option ((List Int)) :=
 if decide (k8<(rest2.length:Int))then
  Option.bind (
   Option.bind (idx rest2 k8) fun x24 =>
   if x24 then
    Option.bind (app N l30 ([w64 (n2+k8)])) fun l34 =>
    some l34
   else
    some l30
  ) fun l33 =>
  rec3 ((w64 (k8+1),l33))
 else
  some l30
def D7 (N:Nat)(l1:Ref01Law)(sheet1:List Int):Option ((List Int)) :=
 Option.bind (
  Option.bind (EG N l1 sheet1) fun r3 =>
  Option.bind (Em N l1 sheet1) fun r4 =>
  Option.bind (GO N l1 r4 (([]:List (Ref01Tail×List Bool)))) fun(ra2,rb2) =>
  some (r3,ra2)
 ) fun(n2,rest2) =>
 Option.bind (
  loopN (fun rec3 x=>CE N n2 rest2 rec3 x.1 x.2) N (0,[])
 ) fun l18 =>
 some l18
def En (N:Nat)(l1:Ref01Law)(sheet1:List Int):Option (Ref01Range) :=
 Option.bind (D7 N l1 sheet1) fun r2 =>
 Option.bind (idx r2 0) fun x3 =>
 Option.bind (idx r2 (w64 ((r2.length:Int)-1))) fun x4 =>
 some (Ref01Range.mk x3 x4)
end
end Go.Proofs.YtdodahpkpeodfaaGreatDoor
