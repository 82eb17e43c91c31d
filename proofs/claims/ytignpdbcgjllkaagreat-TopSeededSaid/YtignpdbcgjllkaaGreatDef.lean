/-
 The functions of the program and of the document, typed, by fuel; printed by a program off the translation. No program in sight.
-/
import Derived.Test.YtignpdbcgjllkaaGreatPre
namespace Go.Proofs.YtignpdbcgjllkaaGreat
open Go.Kp
set_option linter.all false
noncomputable section
structure Ref08Game where
 fA : Int
 fB : Int
 fPinsA : Int
 fPinsB : Int
 fOpen : Bool
 deriving DecidableEq
structure Ref08League where
 fTeams : Int
 fGames : List Ref08Game
 deriving DecidableEq
structure RateLaw where
 fBase : Int
 fPercent : Int
 fCap : Int
 fLeast : Int
 fBlind : Int
 deriving DecidableEq
structure RateSheet where
 fNumber : Int
 fBowler : Int
 fWeek : Int
 fGames : Ar3 Int
 deriving DecidableEq
structure RateBook where
 fLaw : RateLaw
 fBowlers : List Int
 fSheets : List RateSheet
 fWithdrawn : List Int
 deriving DecidableEq
structure RateTurn where
 fBowler : Int
 fWeek : Int
 deriving DecidableEq
structure LeagueGame where
 fA : Int
 fB : Int
 fPinsA : Int
 fPinsB : Int
 fOpen : Bool
 deriving DecidableEq
structure LeagueLeague where
 fTeams : Int
 fGames : List LeagueGame
 deriving DecidableEq
structure LeagueRuled where
 fOf : Int
 deriving DecidableEq
structure LeagueTable where
 fLeague : LeagueLeague
 deriving DecidableEq
structure LeagueSide where
 fOther : Int
 fPoints : Int
 fPins : Int
 deriving DecidableEq
structure LadderResult where
 fMatch : Int
 fGames : List Int
 fProtested : Bool
 deriving DecidableEq
structure LadderCup where
 fForm : Int
 fPlayers : Int
 fGames : Int
 fResults : List LadderResult
 deriving DecidableEq
structure LadderSide where
 fPlayer : Int
 fMatch : Int
 deriving DecidableEq
structure LadderPair where
 fFirst : LadderSide
 fSecond : LadderSide
 deriving DecidableEq
structure LadderSideT174 where
 fOf : Unit
 deriving DecidableEq
structure LadderSpot where
 fMatch : Int
 fPlayer : Int
 deriving DecidableEq
structure LadderCheapest where
 fUpsets : Int
 fOther : Int
 deriving DecidableEq
structure Ref09Result where
 fMatch : Int
 fGames : List Int
 fProtested : Bool
 deriving DecidableEq
structure Ref09Cup where
 fForm : Int
 fPlayers : Int
 fGames : Int
 fResults : List Ref09Result
 deriving DecidableEq
structure LadderMatch where
 fNumber : Int
 fFirst : Int
 fSecond : Int
 fWon : Int
 fLost : Int
 deriving DecidableEq
def law08Thin (N : Nat) (l1 : Ref08League) : Option (Bool) :=
 some (decide ((l1.fGames.length : Int) ≤ 24))
def ref08In (N : Nat) (n1 : Int) (low1 : Int) (high1 : Int) : Option (Bool) :=
 Option.bind (
  if decide (low1 ≤ n1) then
   some (decide (n1 ≤ high1))
  else
   some false
 ) fun v1 =>
 some v1
def ref08Fault_k1 (N : Nat)   : Option (Int) :=
 some 0
def ref08Fault_b2 (N : Nat) (l1 : Ref08League) (rec3 : (Int) → Option (Int)) (i8 : Int) : Option (Int) :=
 if decide (i8 < (l1.fGames.length : Int)) then
  Option.bind (idx l1.fGames i8) fun x24 =>
  Option.bind (
   Option.bind (ref08In N x24.fA 0 (w64 (l1.fTeams - 1))) fun r97 =>
   if !r97 then
    some true
   else
    Option.bind (ref08In N x24.fB 0 (w64 (l1.fTeams - 1))) fun r98 =>
    if !r98 then
     some true
    else
     if decide (x24.fA = x24.fB) then
      some true
     else
      Option.bind (ref08In N x24.fPinsA 0 3000) fun r99 =>
      if !r99 then
       some true
      else
       Option.bind (ref08In N x24.fPinsB 0 3000) fun r100 =>
       if !r100 then
        some true
       else
        if x24.fOpen then
         some (decide (0 < (w64 (x24.fPinsA + x24.fPinsB))))
        else
         some false
  ) fun v12 =>
  if v12 then
   some 1
  else
   rec3 (w64 (i8 + 1))
 else
  ref08Fault_k1 N
def ref08Fault (N : Nat) (l1 : Ref08League) : Option (Int) :=
 if decide (20 < (l1.fGames.length : Int)) then
  some 3
 else
  Option.bind (ref08In N l1.fTeams 2 6) fun r4 =>
  if !r4 then
   some 1
  else
   loopN (fun rec3 x => ref08Fault_b2 N l1 rec3 x) N 0
def rateWithin (N : Nat) (n1 : Int) (low1 : Int) (high1 : Int) : Option (Bool) :=
 Option.bind (
  if decide (low1 ≤ n1) then
   some (decide (n1 ≤ high1))
  else
   some false
 ) fun v1 =>
 some v1
def rateCount (N : Nat) (n1 : Int) : Option (Bool) :=
 Option.bind (rateWithin N n1 0 300) fun r2 =>
 some r2
def rateLawValid (N : Nat) (l1 : RateLaw) : Option (Bool) :=
 Option.bind (
  Option.bind (rateCount N l1.fBase) fun r6 =>
  if r6 then
   Option.bind (rateWithin N l1.fPercent 0 100) fun r7 =>
   if r7 then
    Option.bind (rateCount N l1.fCap) fun r8 =>
    if r8 then
     Option.bind (rateWithin N l1.fLeast 1 30) fun r9 =>
     if r9 then
      Option.bind (rateCount N l1.fBlind) fun r10 =>
      some r10
     else
      some false
    else
     some false
   else
    some false
  else
   some false
 ) fun v1 =>
 some v1
def rateAll1 (N : Nat) (x1 : Int) : Option (Bool) :=
 Option.bind (rateCount N x1) fun r2 =>
 some (!r2)
def slicesIndexFunc_k1 (N : Nat)   : Option (Int) :=
 some (-1)
def slicesIndexFunc_b2 (N : Nat) (s1 : List Int) (rec3 : (Int × Int) → Option (Int)) (v17 : Int) (v18 : Int) : Option (Int) :=
 if decide (v18 < v17) then
  Option.bind (idx s1 v18) fun x24 =>
  Option.bind (rateAll1 N x24) fun r24 =>
  if r24 then
   some v18
  else
   rec3 ((v17, w64 (v18 + 1)))
 else
  slicesIndexFunc_k1 N
def slicesIndexFunc (N : Nat) (s1 : List Int) : Option (Int) :=
 loopN (fun rec3 x => slicesIndexFunc_b2 N s1 rec3 x.1 x.2) N (((s1.length : Int), 0))
def slicesContainsFunc (N : Nat) (s1 : List Int) : Option (Bool) :=
 Option.bind (slicesIndexFunc N s1) fun r2 =>
 some (decide (0 ≤ r2))
def rateAll (N : Nat) (l1 : List Int) : Option (Bool) :=
 Option.bind (slicesContainsFunc N l1) fun r2 =>
 some (!r2)
def slicesIndexFuncX_b1 (N : Nat) (s1 : List RateSheet) (rec3 : (Int) → Option (Unit)) (v10 : Int) : Option (Unit) :=
 if decide (0 < v10) then
  Option.bind (idx s1 0) fun x24 =>
  none
 else
  some ()
def slicesIndexFuncX (N : Nat) (s1 : List RateSheet) (f1 : RateBook) : Option (Int) :=
 Option.bind (
  loopN (fun rec3 x => slicesIndexFuncX_b1 N s1 rec3 x) N (s1.length : Int)
 ) fun _ =>
 some (-1)
def slicesContainsFuncX (N : Nat) (s1 : List RateSheet) (f1 : RateBook) : Option (Bool) :=
 Option.bind (slicesIndexFuncX N s1 f1) fun r2 =>
 some (decide (0 ≤ r2))
def rateAllX (N : Nat) (l1 : List RateSheet) (right1 : RateBook) : Option (Bool) :=
 Option.bind (slicesContainsFuncX N l1 right1) fun r2 =>
 some (!r2)
def slicesIndexFuncXX_b1 (N : Nat) (s1 : List Int) (rec3 : (Int) → Option (Unit)) (v10 : Int) : Option (Unit) :=
 if decide (0 < v10) then
  Option.bind (idx s1 0) fun x24 =>
  none
 else
  some ()
def slicesIndexFuncXX (N : Nat) (s1 : List Int) : Option (Int) :=
 Option.bind (
  loopN (fun rec3 x => slicesIndexFuncXX_b1 N s1 rec3 x) N (s1.length : Int)
 ) fun _ =>
 some (-1)
def slicesContainsFuncXX (N : Nat) (s1 : List Int) : Option (Bool) :=
 Option.bind (slicesIndexFuncXX N s1) fun r2 =>
 some (decide (0 ≤ r2))
def rateAllXX (N : Nat) (l1 : List Int) : Option (Bool) :=
 Option.bind (slicesContainsFuncXX N l1) fun r2 =>
 some (!r2)
def rateRising_b1 (N : Nat) (l1 : List Int) (rec3 : (Int × Int) → Option (Unit)) (v23 : Int) (v24 : Int) : Option (Unit) :=
 if decide (v24 < v23) then
  Option.bind (
   if decide (0 < v24) then
    Option.bind (idx l1 v24) fun x31 =>
    Option.bind (idx l1 (w64 (v24 - 1))) fun x32 =>
    some (decide (x31 ≤ x32))
   else
    some false
  ) fun v26 =>
  if v26 then
   none
  else
   rec3 ((v23, w64 (v24 + 1)))
 else
  some ()
def rateRising (N : Nat) (l1 : List Int) : Option (Bool) :=
 Option.bind (
  loopN (fun rec3 x => rateRising_b1 N l1 rec3 x.1 x.2) N (((l1.length : Int), 0))
 ) fun _ =>
 some true
def rateCheckBook_b1 (N : Nat) (b1 : RateBook) (rec3 : (Int) → Option (Unit)) (v14 : Int) : Option (Unit) :=
 if decide (0 < v14) then
  Option.bind (idx b1.fSheets 0) fun x24 =>
  none
 else
  some ()
def rateCheckBook (N : Nat) (b1 : RateBook) : Option (Int) :=
 Option.bind (
  if decide (8 < (b1.fBowlers.length : Int)) then
   some true
  else
   if decide (40 < (b1.fSheets.length : Int)) then
    some true
   else
    some (decide (40 < (b1.fWithdrawn.length : Int)))
 ) fun v3 =>
 if v3 then
  none
 else
  Option.bind (
   Option.bind (rateLawValid N b1.fLaw) fun r16 =>
   if !r16 then
    some true
   else
    Option.bind (rateAll N b1.fBowlers) fun r17 =>
    if !r17 then
     some true
    else
     Option.bind (rateAllX N b1.fSheets b1) fun r18 =>
     if !r18 then
      some true
     else
      Option.bind (rateAllXX N b1.fWithdrawn) fun r19 =>
      if !r19 then
       some true
      else
       Option.bind (rateRising N b1.fWithdrawn) fun r20 =>
       some (!r20)
  ) fun v4 =>
  if v4 then
   none
  else
   Option.bind (
    loopN (fun rec3 x => rateCheckBook_b1 N b1 rec3 x) N (b1.fSheets.length : Int)
   ) fun _ =>
   some 0
def rateBookRead_b1 (N : Nat) (b1 : RateBook) (rec3 : (Int) → Option (Unit)) (v10 : Int) : Option (Unit) :=
 if decide (0 < v10) then
  Option.bind (idx b1.fSheets 0) fun x24 =>
  none
 else
  some ()
def rateBookRead (N : Nat) (b1 : RateBook) : Option (Int × Int × Int × Int × Int × Int × (List Int) × (List RateSheet) × (List Int) × (List (RateTurn × RateSheet))) :=
 Option.bind (rateCheckBook N b1) fun r4 =>
 if !decide (r4 = 0) then
  none
 else
  Option.bind (
   loopN (fun rec3 x => rateBookRead_b1 N b1 rec3 x) N (b1.fSheets.length : Int)
  ) fun _ =>
  some ((0, b1.fLaw.fBase, b1.fLaw.fPercent, b1.fLaw.fCap, b1.fLaw.fLeast, b1.fLaw.fBlind, b1.fBowlers, b1.fSheets, b1.fWithdrawn, ([] : List (RateTurn × RateSheet))))
def rateWeek (N : Nat) (n1 : Int) : Option (Bool) :=
 Option.bind (rateWithin N n1 1 30) fun r2 =>
 some r2
def slicesGrow (N : Nat) (n1 : Int) : Option ((List Int)) :=
 if decide (n1 < 0) then
  none
 else
  Option.bind (
   if decide (0 < (w64 (n1 - 0))) then
    Option.bind (mklp N (w64 (n1 - 0)) 0) fun l4 =>
    Option.bind (slc l4 0 0) fun l5 =>
    some l5
   else
    some ([])
  ) fun l3 =>
  some l3
def slicesConcat_b1 (N : Nat) (slices1 : List (List Int)) (rec3 : (Int × Int × Int) → Option (Int)) (size9 : Int) (v17 : Int) (v18 : Int) : Option (Int) :=
 if decide (v18 < v17) then
  Option.bind (idx slices1 v18) fun x24 =>
  if decide ((w64 (size9 + (x24.length : Int))) < 0) then
   none
  else
   rec3 ((w64 (size9 + (x24.length : Int)), v17, w64 (v18 + 1)))
 else
  some size9
def slicesConcat_b2 (N : Nat) (slices1 : List (List Int)) (rec5 : (Int × Int × (List Int)) → Option ((List Int))) (v35 : Int) (v36 : Int) (l19 : List Int) : Option ((List Int)) :=
 if decide (v36 < v35) then
  Option.bind (idx slices1 v36) fun x48 =>
  Option.bind (app N l19 x48) fun l21 =>
  rec5 ((v35, w64 (v36 + 1), l21))
 else
  some l19
def slicesConcat (N : Nat) (slices1 : List (List Int)) : Option ((List Int)) :=
 Option.bind (
  loopN (fun rec3 x => slicesConcat_b1 N slices1 rec3 x.1 x.2.1 x.2.2) N ((0, (slices1.length : Int), 0))
 ) fun size5 =>
 Option.bind (slicesGrow N size5) fun r2 =>
 Option.bind (
  loopN (fun rec5 x => slicesConcat_b2 N slices1 rec5 x.1 x.2.1 x.2.2) N (((slices1.length : Int), 0, r2))
 ) fun l11 =>
 some l11
def rateBookBowler (N : Nat) (b1 : RateBook) (n1 : Int) : Option (Bool) :=
 Option.bind (rateWithin N n1 0 (w64 ((b1.fBowlers.length : Int) - 1))) fun r2 =>
 some r2
def rateAll1X (N : Nat) (x1 : Int) (a1 : RateBook) : Option (Bool) :=
 Option.bind (rateBookBowler N a1 x1) fun r2 =>
 some (!r2)
def slicesIndexFuncXXX_k1 (N : Nat)   : Option (Int) :=
 some (-1)
def slicesIndexFuncXXX_b2 (N : Nat) (f1 : RateBook) (l1 : List Int) (rec3 : (Int × Int) → Option (Int)) (v17 : Int) (v18 : Int) : Option (Int) :=
 if decide (v18 < v17) then
  Option.bind (idx l1 v18) fun x24 =>
  Option.bind (rateAll1X N x24 f1) fun r24 =>
  if r24 then
   some v18
  else
   rec3 ((v17, w64 (v18 + 1)))
 else
  slicesIndexFuncXXX_k1 N
def slicesIndexFuncXXX (N : Nat) (f1 : RateBook) (l1 : List Int) : Option (Int) :=
 loopN (fun rec3 x => slicesIndexFuncXXX_b2 N f1 l1 rec3 x.1 x.2) N (((l1.length : Int), 0))
def slicesContainsFuncXXX (N : Nat) (f1 : RateBook) (l1 : List Int) : Option (Bool) :=
 Option.bind (slicesIndexFuncXXX N f1 l1) fun r2 =>
 some (decide (0 ≤ r2))
def rateAllXXX (N : Nat) (right1 : RateBook) (l1 : List Int) : Option (Bool) :=
 Option.bind (slicesContainsFuncXXX N right1 l1) fun r2 =>
 some (!r2)
def rateRisingX_b1 (N : Nat) (l1 : List Int) (rec3 : (Int × Int) → Option (Unit)) (v23 : Int) (v24 : Int) : Option (Unit) :=
 if decide (v24 < v23) then
  Option.bind (
   if decide (0 < v24) then
    Option.bind (idx l1 v24) fun x31 =>
    Option.bind (idx l1 (w64 (v24 - 1))) fun x32 =>
    some (decide (x31 ≤ x32))
   else
    some false
  ) fun v26 =>
  if v26 then
   none
  else
   rec3 ((v23, w64 (v24 + 1)))
 else
  some ()
def rateRisingX (N : Nat) (l1 : List Int) : Option (Bool) :=
 Option.bind (
  loopN (fun rec3 x => rateRisingX_b1 N l1 rec3 x.1 x.2) N (((l1.length : Int), 0))
 ) fun _ =>
 some true
def rateBookTeams (N : Nat) (b1 : RateBook) (home1 : List Int) (away1 : List Int) : Option (Int) :=
 Option.bind (
  if decide (4 < (home1.length : Int)) then
   some true
  else
   some (decide (4 < (away1.length : Int)))
 ) fun v2 =>
 if v2 then
  none
 else
  Option.bind (slicesConcat N ([home1, away1])) fun r2 =>
  Option.bind (
   if decide ((home1.length : Int) = 0) then
    some true
   else
    if decide ((away1.length : Int) = 0) then
     some true
    else
     Option.bind (rateAllXXX N b1 r2) fun r6 =>
     some (!r6)
  ) fun v4 =>
  if v4 then
   none
  else
   Option.bind (sortI N r2) fun r8 =>
   Option.bind (rateRisingX N r8) fun r12 =>
   if !r12 then
    none
   else
    some 0
def rateSum_b1 (N : Nat) (l1 : List Int) (rec3 : (Int × Int × Int) → Option (Int)) (n10 : Int) (v17 : Int) (v18 : Int) : Option (Int) :=
 if decide (v18 < v17) then
  Option.bind (idx l1 v18) fun x24 =>
  rec3 ((w64 (n10 + x24), v17, w64 (v18 + 1)))
 else
  some n10
def rateSum (N : Nat) (l1 : List Int) : Option (Int) :=
 Option.bind (
  loopN (fun rec3 x => rateSum_b1 N l1 rec3 x.1 x.2.1 x.2.2) N ((0, (l1.length : Int), 0))
 ) fun n6 =>
 some n6
def rateReadCounting (N : Nat) (bowler1 : Int) (before1 : Int) (c1 : Int) (c2 : Int) (c3 : Int) (c4 : Int) (c5 : Int) (c6 : List Int) (c7 : List RateSheet) (c8 : List Int) (m1 : List (RateTurn × RateSheet)) : Option (Int × Int) :=
 some (before1, bowler1)
def rateReadAverage_b1 (N : Nat) (m1 : List (RateTurn × RateSheet)) (ra4 : Int) (rb4 : Int) (rec3 : (Int × Int) → Option (Int)) (games8 : Int) (c29 : Int) : Option (Int) :=
 if decide (games8 < ra4) then
  Option.bind (
   Option.bind (mgt m1 (RateTurn.mk rb4 games8) ((RateSheet.mk 0 0 0 (Ar3.mk 0 0 0)))) fun (v24, is24) =>
   some (is24, v24)
  ) fun (besides13, c31) =>
  if besides13 then
   none
  else
   rec3 ((w64 (games8 + 1), c29))
 else
  some c29
def rateReadAverage (N : Nat) (bowler1 : Int) (before1 : Int) (besides1 : List Int) (c1 : Int) (c2 : Int) (c3 : Int) (c4 : Int) (c5 : Int) (c6 : List Int) (c7 : List RateSheet) (c8 : List Int) (m1 : List (RateTurn × RateSheet)) : Option (Int) :=
 Option.bind (rateSum N besides1) fun r2 =>
 Option.bind (
  Option.bind (rateReadCounting N bowler1 before1 c1 c2 c3 c4 c5 c6 c7 c8 m1) fun (ra4, rb4) =>
  loopN (fun rec3 x => rateReadAverage_b1 N m1 ra4 rb4 rec3 x.1 x.2) N ((0, (besides1.length : Int)))
 ) fun c20 =>
 if decide (c20 < c4) then
  Option.bind (idx c6 bowler1) fun x4 =>
  some x4
 else
  none
def rateReadHandicap (N : Nat) (bowler1 : Int) (before1 : Int) (c1 : Int) (c2 : Int) (c3 : Int) (c4 : Int) (c5 : Int) (c6 : List Int) (c7 : List RateSheet) (c8 : List Int) (m1 : List (RateTurn × RateSheet)) : Option (Int) :=
 Option.bind (rateReadAverage N bowler1 before1 ([]) c1 c2 c3 c4 c5 c6 c7 c8 m1) fun r2 =>
 some (min (max 0 (w64 (Int.tdiv (w64 ((w64 (c1 - r2)) * c2)) 100))) c3)
def rateReadMakes (N : Nat) (bowler1 : Int) (w1 : Int) (c1 : Int) (c2 : Int) (c3 : Int) (c4 : Int) (c5 : Int) (c6 : List Int) (c7 : List RateSheet) (c8 : List Int) (m1 : List (RateTurn × RateSheet)) : Option ((Ar3 Int)) :=
 Option.bind (mgt m1 (RateTurn.mk bowler1 w1) ((RateSheet.mk 0 0 0 (Ar3.mk 0 0 0)))) fun (v2, is2) =>
 Option.bind (rateReadAverage N bowler1 w1 ([]) c1 c2 c3 c4 c5 c6 c7 c8 m1) fun r23 =>
 if is2 then
  none
 else
  Option.bind (rateReadHandicap N bowler1 w1 c1 c2 c3 c4 c5 c6 c7 c8 m1) fun r24 =>
  Option.bind (rateReadAverage N bowler1 w1 ([]) c1 c2 c3 c4 c5 c6 c7 c8 m1) fun r29 =>
  if is2 then
   none
  else
   Option.bind (rateReadHandicap N bowler1 w1 c1 c2 c3 c4 c5 c6 c7 c8 m1) fun r30 =>
   Option.bind (rateReadAverage N bowler1 w1 ([]) c1 c2 c3 c4 c5 c6 c7 c8 m1) fun r35 =>
   if is2 then
    none
   else
    Option.bind (rateReadHandicap N bowler1 w1 c1 c2 c3 c4 c5 c6 c7 c8 m1) fun r36 =>
    some ((Ar3.mk (w64 ((max 0 (w64 (r23 - c5))) + r24)) (w64 ((max 0 (w64 (r29 - c5))) + r30)) (w64 ((max 0 (w64 (r35 - c5))) + r36))))
def rateMatch1_b1 (N : Nat) (team1 : List Int) (a1 : Int) (c1 : Int) (c2 : Int) (c3 : Int) (c4 : Int) (c5 : Int) (c6 : List Int) (c7 : List RateSheet) (c8 : List Int) (m1 : List (RateTurn × RateSheet)) (rec3 : (Int × Int × (List Int)) → Option ((List Int))) (v17 : Int) (v18 : Int) (l11 : List Int) : Option ((List Int)) :=
 if decide (v18 < v17) then
  Option.bind (idx team1 v18) fun x90 =>
  Option.bind (rateReadMakes N x90 a1 c1 c2 c3 c4 c5 c6 c7 c8 m1) fun r24 =>
  Option.bind (idx l11 0) fun x92 =>
  Option.bind (idx ((List.set l11 (Int.toNat 0) (w64 (x92 + r24.a0)))) 1) fun x94 =>
  Option.bind (idx ((List.set ((List.set l11 (Int.toNat 0) (w64 (x92 + r24.a0)))) (Int.toNat 1) (w64 (x94 + r24.a1)))) 2) fun x96 =>
  rec3 ((v17, w64 (v18 + 1), (List.set ((List.set ((List.set l11 (Int.toNat 0) (w64 (x92 + r24.a0)))) (Int.toNat 1) (w64 (x94 + r24.a1)))) (Int.toNat 2) (w64 (x96 + r24.a2)))))
 else
  some l11
def rateMatch1 (N : Nat) (team1 : List Int) (a1 : Int) (c1 : Int) (c2 : Int) (c3 : Int) (c4 : Int) (c5 : Int) (c6 : List Int) (c7 : List RateSheet) (c8 : List Int) (m1 : List (RateTurn × RateSheet)) : Option ((List Int)) :=
 Option.bind (mkl N 3 0) fun l2 =>
 Option.bind (
  loopN (fun rec3 x => rateMatch1_b1 N team1 a1 c1 c2 c3 c4 c5 c6 c7 c8 m1 rec3 x.1 x.2.1 x.2.2) N (((team1.length : Int), 0, l2))
 ) fun l7 =>
 Option.bind (rateSum N l7) fun r26 =>
 Option.bind (app N l7 ([r26])) fun l13 =>
 some l13
def rateMatch_b1 (N : Nat) (r9 : List Int) (r10 : List Int) (rec3 : (Int × Int × Int) → Option (Int)) (forHome9 : Int) (v19 : Int) (v20 : Int) : Option (Int) :=
 if decide (v20 < v19) then
  Option.bind (idx r9 v20) fun x68 =>
  Option.bind (idx r10 v20) fun x72 =>
  if decide (x72 < x68) then
   rec3 ((w64 (forHome9 + 2), v19, w64 (v20 + 1)))
  else
   if decide (x68 < x72) then
    none
   else
    none
 else
  some forHome9
def rateMatch (N : Nat) (b1 : RateBook) (w1 : Int) (home1 : List Int) (away1 : List Int) : Option (Int × Int × Int) :=
 Option.bind (rateBookRead N b1) fun (ra2, rb2, rc2, rd2, re2, rf2, rg2, rh2, ri2, rj2) =>
 Option.bind (
  if decide (ra2 = 0) then
   Option.bind (rateWeek N w1) fun r4 =>
   some (!r4)
  else
   some false
 ) fun v2 =>
 if v2 then
  none
 else
  Option.bind (
   if decide (ra2 = 0) then
    Option.bind (rateBookTeams N b1 home1 away1) fun r6 =>
    some r6
   else
    some ra2
  ) fun e1 =>
  if !decide (e1 = 0) then
   none
  else
   Option.bind (rateMatch1 N home1 w1 rb2 rc2 rd2 re2 rf2 rg2 rh2 ri2 rj2) fun r9 =>
   Option.bind (rateMatch1 N away1 w1 rb2 rc2 rd2 re2 rf2 rg2 rh2 ri2 rj2) fun r10 =>
   Option.bind (
    loopN (fun rec3 x => rateMatch_b1 N r9 r10 rec3 x.1 x.2.1 x.2.2) N ((0, (r9.length : Int), 0))
   ) fun forHome5 =>
   some (forHome5, 0, 0)
def leagueWithin (N : Nat) (n1 : Int) (low1 : Int) (high1 : Int) : Option (Bool) :=
 Option.bind (
  if decide (low1 ≤ n1) then
   some (decide (n1 ≤ high1))
  else
   some false
 ) fun v1 =>
 some v1
def leagueTeams (N : Nat) (n1 : Int) : Option (Bool) :=
 Option.bind (leagueWithin N n1 2 6) fun r2 =>
 some r2
def leagueLeagueTeam (N : Nat) (l1 : LeagueLeague) (n1 : Int) : Option (Bool) :=
 Option.bind (leagueWithin N n1 0 (w64 (l1.fTeams - 1))) fun r2 =>
 some r2
def leagueLeagueGame (N : Nat) (l1 : LeagueLeague) (g1 : LeagueGame) : Option (Bool) :=
 Option.bind (
  Option.bind (leagueWithin N g1.fPinsA 0 3000) fun r3 =>
  if r3 then
   Option.bind (leagueWithin N g1.fPinsB 0 3000) fun r4 =>
   some r4
  else
   some false
 ) fun pins1 =>
 Option.bind (
  Option.bind (leagueLeagueTeam N l1 g1.fA) fun r7 =>
  if r7 then
   Option.bind (leagueLeagueTeam N l1 g1.fB) fun r8 =>
   if r8 then
    if !decide (g1.fA = g1.fB) then
     if pins1 then
      if !g1.fOpen then
       some true
      else
       if decide (g1.fPinsA = 0) then
        some (decide (g1.fPinsB = 0))
       else
        some false
     else
      some false
    else
     some false
   else
    some false
  else
   some false
 ) fun v1 =>
 some v1
def leagueAll1 (N : Nat) (x1 : LeagueGame) (a1 : LeagueLeague) : Option (Bool) :=
 Option.bind (leagueLeagueGame N a1 x1) fun r2 =>
 some (!r2)
def slicesIndexFuncXXXX_k1 (N : Nat)   : Option (Int) :=
 some (-1)
def slicesIndexFuncXXXX_b2 (N : Nat) (s1 : List LeagueGame) (f1 : LeagueLeague) (rec3 : (Int × Int) → Option (Int)) (v17 : Int) (v18 : Int) : Option (Int) :=
 if decide (v18 < v17) then
  Option.bind (idx s1 v18) fun x24 =>
  Option.bind (leagueAll1 N x24 f1) fun r24 =>
  if r24 then
   some v18
  else
   rec3 ((v17, w64 (v18 + 1)))
 else
  slicesIndexFuncXXXX_k1 N
def slicesIndexFuncXXXX (N : Nat) (s1 : List LeagueGame) (f1 : LeagueLeague) : Option (Int) :=
 loopN (fun rec3 x => slicesIndexFuncXXXX_b2 N s1 f1 rec3 x.1 x.2) N (((s1.length : Int), 0))
def slicesContainsFuncXXXX (N : Nat) (s1 : List LeagueGame) (f1 : LeagueLeague) : Option (Bool) :=
 Option.bind (slicesIndexFuncXXXX N s1 f1) fun r2 =>
 some (decide (0 ≤ r2))
def leagueAll (N : Nat) (l1 : List LeagueGame) (right1 : LeagueLeague) : Option (Bool) :=
 Option.bind (slicesContainsFuncXXXX N l1 right1) fun r2 =>
 some (!r2)
def leagueCheckLeague (N : Nat) (l1 : LeagueLeague) : Option (Int) :=
 if decide (20 < (l1.fGames.length : Int)) then
  none
 else
  Option.bind (
   Option.bind (leagueTeams N l1.fTeams) fun r7 =>
   if !r7 then
    some true
   else
    Option.bind (leagueAll N l1.fGames l1) fun r8 =>
    some (!r8)
  ) fun v2 =>
  if v2 then
   none
  else
   some 0
def leagueRank1 (N : Nat) (r1 : Int) : Option (Bool) :=
 Option.bind (
  if decide (1 ≤ r1) then
   some (decide (r1 ≤ 4))
  else
   some false
 ) fun v1 =>
 some v1
def leagueAll1X (N : Nat) (x1 : Int) : Option (Bool) :=
 Option.bind (leagueRank1 N x1) fun r2 =>
 some (!r2)
def slicesIndexFuncXXXXX_k1 (N : Nat)   : Option (Int) :=
 some (-1)
def slicesIndexFuncXXXXX_b2 (N : Nat) (s1 : List Int) (rec3 : (Int × Int) → Option (Int)) (v17 : Int) (v18 : Int) : Option (Int) :=
 if decide (v18 < v17) then
  Option.bind (idx s1 v18) fun x24 =>
  Option.bind (leagueAll1X N x24) fun r24 =>
  if r24 then
   some v18
  else
   rec3 ((v17, w64 (v18 + 1)))
 else
  slicesIndexFuncXXXXX_k1 N
def slicesIndexFuncXXXXX (N : Nat) (s1 : List Int) : Option (Int) :=
 loopN (fun rec3 x => slicesIndexFuncXXXXX_b2 N s1 rec3 x.1 x.2) N (((s1.length : Int), 0))
def slicesContainsFuncXXXXX (N : Nat) (s1 : List Int) : Option (Bool) :=
 Option.bind (slicesIndexFuncXXXXX N s1) fun r2 =>
 some (decide (0 ≤ r2))
def leagueAllX (N : Nat) (l1 : List Int) : Option (Bool) :=
 Option.bind (slicesContainsFuncXXXXX N l1) fun r2 =>
 some (!r2)
def leagueRule (N : Nat) (code1 : Int) : Option (LeagueRuled) :=
 if decide (code1 = 1) then
  some (LeagueRuled.mk 0)
 else
  if decide (code1 = 2) then
   some (LeagueRuled.mk 1)
  else
   if decide (code1 = 3) then
    some (LeagueRuled.mk 2)
   else
    some (LeagueRuled.mk 3)
def slicesClone0 (N : Nat)  : Option ((List Int)) :=
 some ([])
def slicesClone1 (N : Nat) (s1 : List Int) : Option ((List Int)) :=
 Option.bind (app N ([]) s1) fun l2 =>
 some l2
def slicesClone (N : Nat) (l : List Int) : Option ((List Int)) := slicesClone1 N l
def leagueLeagueOf (N : Nat) (l1 : LeagueLeague) (team1 : Int) : Option (LeagueLeague × Int) :=
 some (l1, team1)
def leagueGameGives (N : Nat) (g1 : LeagueGame) : Option (Int × Int) :=
 if g1.fOpen then
  some (0, 0)
 else
  if decide (g1.fPinsB < g1.fPinsA) then
   some (2, 0)
  else
   if decide (g1.fPinsA < g1.fPinsB) then
    some (0, 2)
   else
    some (1, 1)
def leagueSideAll (N : Nat) (x1 : LeagueSide) (v1 : List Int) : Option (Int) :=
 some x1.fPoints
def leagueTableNumberV0_b1 (N : Nat) (group1 : List Int) (ra16 : LeagueLeague) (rb16 : Int) (rec3 : (Int × Int × Int) → Option (Int)) (x30 : Int) (v28 : Int) (c19 : Int) : Option (Int) :=
 if decide (v28 < x30) then
  Option.bind (idx ra16.fGames v28) fun x34 =>
  Option.bind (leagueGameGives N x34) fun (ra28, rb28) =>
  Option.bind (
   if decide (x34.fA = rb16) then
    Option.bind (leagueSideAll N (LeagueSide.mk x34.fB ra28 x34.fPinsA) group1) fun r70 =>
    if decide (x34.fB = rb16) then
     Option.bind (leagueSideAll N (LeagueSide.mk x34.fA rb28 x34.fPinsB) group1) fun r71 =>
     some ((decide (x34.fB = rb16), true, w64 ((w64 (c19 + r70)) + r71)))
    else
     some ((decide (x34.fB = rb16), false, w64 (c19 + r70)))
   else
    if decide (x34.fB = rb16) then
     Option.bind (leagueSideAll N (LeagueSide.mk x34.fA rb28 x34.fPinsB) group1) fun r72 =>
     some ((decide (x34.fB = rb16), true, w64 (c19 + r72)))
    else
     some ((decide (x34.fB = rb16), false, c19))
  ) fun (v31, v32, c21) =>
  rec3 ((x30, w64 (v28 + 1), c21))
 else
  some c19
def leagueTableNumberV0 (N : Nat) (t1 : LeagueTable) (team1 : Int) (group1 : List Int) : Option (Int) :=
 Option.bind (
  Option.bind (leagueLeagueOf N t1.fLeague team1) fun (ra16, rb16) =>
  loopN (fun rec3 x => leagueTableNumberV0_b1 N group1 ra16 rb16 rec3 x.1 x.2.1 x.2.2) N (((ra16.fGames.length : Int), 0, 0))
 ) fun c11 =>
 some c11
def leagueSideWon (N : Nat) (x1 : LeagueSide) (v1 : List Int) : Option (Int) :=
 some (w64 (Int.tdiv x1.fPoints 2))
def leagueTableNumberV1_b1 (N : Nat) (group1 : List Int) (ra16 : LeagueLeague) (rb16 : Int) (rec3 : (Int × Int × Int) → Option (Int)) (x30 : Int) (v28 : Int) (c19 : Int) : Option (Int) :=
 if decide (v28 < x30) then
  Option.bind (idx ra16.fGames v28) fun x34 =>
  Option.bind (leagueGameGives N x34) fun (ra28, rb28) =>
  Option.bind (
   if decide (x34.fA = rb16) then
    Option.bind (leagueSideWon N (LeagueSide.mk x34.fB ra28 x34.fPinsA) group1) fun r70 =>
    if decide (x34.fB = rb16) then
     Option.bind (leagueSideWon N (LeagueSide.mk x34.fA rb28 x34.fPinsB) group1) fun r71 =>
     some ((decide (x34.fB = rb16), true, w64 ((w64 (c19 + r70)) + r71)))
    else
     some ((decide (x34.fB = rb16), false, w64 (c19 + r70)))
   else
    if decide (x34.fB = rb16) then
     Option.bind (leagueSideWon N (LeagueSide.mk x34.fA rb28 x34.fPinsB) group1) fun r72 =>
     some ((decide (x34.fB = rb16), true, w64 (c19 + r72)))
    else
     some ((decide (x34.fB = rb16), false, c19))
  ) fun (v31, v32, c21) =>
  rec3 ((x30, w64 (v28 + 1), c21))
 else
  some c19
def leagueTableNumberV1 (N : Nat) (t1 : LeagueTable) (team1 : Int) (group1 : List Int) : Option (Int) :=
 Option.bind (
  Option.bind (leagueLeagueOf N t1.fLeague team1) fun (ra16, rb16) =>
  loopN (fun rec3 x => leagueTableNumberV1_b1 N group1 ra16 rb16 rec3 x.1 x.2.1 x.2.2) N (((ra16.fGames.length : Int), 0, 0))
 ) fun c11 =>
 some c11
def slicesIndex_k1 (N : Nat)   : Option (Int) :=
 some (-1)
def slicesIndex_b2 (N : Nat) (s1 : List Int) (v1 : Int) (rec3 : (Int × Int) → Option (Int)) (v18 : Int) (v19 : Int) : Option (Int) :=
 if decide (v19 < v18) then
  Option.bind (idx s1 v19) fun x24 =>
  if decide (v1 = x24) then
   some v19
  else
   rec3 ((v18, w64 (v19 + 1)))
 else
  slicesIndex_k1 N
def slicesIndex (N : Nat) (s1 : List Int) (v1 : Int) : Option (Int) :=
 loopN (fun rec3 x => slicesIndex_b2 N s1 v1 rec3 x.1 x.2) N (((s1.length : Int), 0))
def slicesContains (N : Nat) (s1 : List Int) (v1 : Int) : Option (Bool) :=
 Option.bind (slicesIndex N s1 v1) fun r2 =>
 some (decide (0 ≤ r2))
def leagueSideDirect (N : Nat) (x1 : LeagueSide) (group1 : List Int) : Option (Int) :=
 Option.bind (slicesContains N group1 x1.fOther) fun r4 =>
 if r4 then
  some x1.fPoints
 else
  some 0
def leagueTableNumberV2_b1 (N : Nat) (group1 : List Int) (ra16 : LeagueLeague) (rb16 : Int) (rec3 : (Int × Int × Int) → Option (Int)) (x30 : Int) (v28 : Int) (c19 : Int) : Option (Int) :=
 if decide (v28 < x30) then
  Option.bind (idx ra16.fGames v28) fun x34 =>
  Option.bind (leagueGameGives N x34) fun (ra28, rb28) =>
  Option.bind (
   if decide (x34.fA = rb16) then
    Option.bind (leagueSideDirect N (LeagueSide.mk x34.fB ra28 x34.fPinsA) group1) fun r70 =>
    if decide (x34.fB = rb16) then
     Option.bind (leagueSideDirect N (LeagueSide.mk x34.fA rb28 x34.fPinsB) group1) fun r71 =>
     some ((decide (x34.fB = rb16), true, w64 ((w64 (c19 + r70)) + r71)))
    else
     some ((decide (x34.fB = rb16), false, w64 (c19 + r70)))
   else
    if decide (x34.fB = rb16) then
     Option.bind (leagueSideDirect N (LeagueSide.mk x34.fA rb28 x34.fPinsB) group1) fun r72 =>
     some ((decide (x34.fB = rb16), true, w64 (c19 + r72)))
    else
     some ((decide (x34.fB = rb16), false, c19))
  ) fun (v31, v32, c21) =>
  rec3 ((x30, w64 (v28 + 1), c21))
 else
  some c19
def leagueTableNumberV2 (N : Nat) (t1 : LeagueTable) (team1 : Int) (group1 : List Int) : Option (Int) :=
 Option.bind (
  Option.bind (leagueLeagueOf N t1.fLeague team1) fun (ra16, rb16) =>
  loopN (fun rec3 x => leagueTableNumberV2_b1 N group1 ra16 rb16 rec3 x.1 x.2.1 x.2.2) N (((ra16.fGames.length : Int), 0, 0))
 ) fun c11 =>
 some c11
def leagueSideFelled (N : Nat) (x1 : LeagueSide) (v1 : List Int) : Option (Int) :=
 some x1.fPins
def leagueTableNumberV3_b1 (N : Nat) (group1 : List Int) (ra16 : LeagueLeague) (rb16 : Int) (rec3 : (Int × Int × Int) → Option (Int)) (x30 : Int) (v28 : Int) (c19 : Int) : Option (Int) :=
 if decide (v28 < x30) then
  Option.bind (idx ra16.fGames v28) fun x34 =>
  Option.bind (leagueGameGives N x34) fun (ra28, rb28) =>
  Option.bind (
   if decide (x34.fA = rb16) then
    Option.bind (leagueSideFelled N (LeagueSide.mk x34.fB ra28 x34.fPinsA) group1) fun r70 =>
    if decide (x34.fB = rb16) then
     Option.bind (leagueSideFelled N (LeagueSide.mk x34.fA rb28 x34.fPinsB) group1) fun r71 =>
     some ((decide (x34.fB = rb16), true, w64 ((w64 (c19 + r70)) + r71)))
    else
     some ((decide (x34.fB = rb16), false, w64 (c19 + r70)))
   else
    if decide (x34.fB = rb16) then
     Option.bind (leagueSideFelled N (LeagueSide.mk x34.fA rb28 x34.fPinsB) group1) fun r72 =>
     some ((decide (x34.fB = rb16), true, w64 (c19 + r72)))
    else
     some ((decide (x34.fB = rb16), false, c19))
  ) fun (v31, v32, c21) =>
  rec3 ((x30, w64 (v28 + 1), c21))
 else
  some c19
def leagueTableNumberV3 (N : Nat) (t1 : LeagueTable) (team1 : Int) (group1 : List Int) : Option (Int) :=
 Option.bind (
  Option.bind (leagueLeagueOf N t1.fLeague team1) fun (ra16, rb16) =>
  loopN (fun rec3 x => leagueTableNumberV3_b1 N group1 ra16 rb16 rec3 x.1 x.2.1 x.2.2) N (((ra16.fGames.length : Int), 0, 0))
 ) fun c11 =>
 some c11
def leagueTableNumber (N : Nat) (a0 : LeagueTable) (a1 : LeagueRuled) (a2 : Int) (a3 : List Int) : Option (Int) :=
 if a1.fOf = 0 then leagueTableNumberV0 N a0 a2 a3 else
 if a1.fOf = 1 then leagueTableNumberV1 N a0 a2 a3 else
 if a1.fOf = 2 then leagueTableNumberV2 N a0 a2 a3 else
 if a1.fOf = 3 then leagueTableNumberV3 N a0 a2 a3 else
 none
def slicesMax_b1 (N : Nat) (x1 : List Int) (rec3 : (Int × Int) → Option (Int)) (m9 : Int) (i8 : Int) : Option (Int) :=
 if decide (i8 < (x1.length : Int)) then
  Option.bind (idx x1 i8) fun x15 =>
  rec3 ((max m9 x15, w64 (i8 + 1)))
 else
  some m9
def slicesMax (N : Nat) (x1 : List Int) : Option (Int) :=
 if decide ((x1.length : Int) < 1) then
  none
 else
  Option.bind (idx x1 0) fun x3 =>
  Option.bind (
   loopN (fun rec3 x => slicesMax_b1 N x1 rec3 x.1 x.2) N (x3, 1)
  ) fun m5 =>
  some m5
def leagueGreatest (N : Nat) (l1 : List Int) : Option (Int) :=
 Option.bind (slicesMax N l1) fun r2 =>
 some r2
def leagueTableFall_b1 (N : Nat) (t1 : LeagueTable) (r1 : LeagueRuled) (group1 : List Int) (rest8 : List Int) (rec25 : (Int × Int × Int) → Option (Int)) (best54 : Int) (v197 : Int) (v198 : Int) : Option (Int) :=
 if decide (v198 < v197) then
  Option.bind (idx rest8 v198) fun x264 =>
  Option.bind (leagueTableNumber N t1 r1 x264 group1) fun r266 =>
  Option.bind (leagueGreatest N ([best54, r266])) fun r267 =>
  rec25 ((r267, v197, w64 (v198 + 1)))
 else
  some best54
def leagueTableFall_b2 (N : Nat) (t1 : LeagueTable) (r1 : LeagueRuled) (group1 : List Int) (rest8 : List Int) (best50 : Int) (rec27 : (Int × Int × (List Int) × (List Int)) → Option ((List Int) × (List Int))) (v215 : Int) (v216 : Int) (l331 : List Int) (l332 : List Int) : Option ((List Int) × (List Int)) :=
 if decide (v216 < v215) then
  Option.bind (
   Option.bind (idx rest8 v216) fun x288 =>
   Option.bind (leagueTableNumber N t1 r1 x288 group1) fun r291 =>
   if decide (r291 = best50) then
    Option.bind (app N l331 ([x288])) fun l337 =>
    some (l337, l332)
   else
    Option.bind (app N l332 ([x288])) fun l338 =>
    some (l331, l338)
  ) fun (l335, l336) =>
  rec27 ((v215, w64 (v216 + 1), l335, l336))
 else
  some (l331, l332)
def leagueTableFall_k3 (N : Nat) (t1 : LeagueTable) (r1 : LeagueRuled) (group1 : List Int) (rest8 : List Int) (l284 : List (List Int)) (rec23 : ((List Int) × (List (List Int))) → Option ((List (List Int))))  : Option ((List (List Int))) :=
 Option.bind (
  loopN (fun rec25 x => leagueTableFall_b1 N t1 r1 group1 rest8 rec25 x.1 x.2.1 x.2.2) N (((-1), (rest8.length : Int), 0))
 ) fun best50 =>
 Option.bind (
  loopN (fun rec27 x => leagueTableFall_b2 N t1 r1 group1 rest8 best50 rec27 x.1 x.2.1 x.2.2.1 x.2.2.2) N (((rest8.length : Int), 0, [], []))
 ) fun (l311, l312) =>
 Option.bind (app N l284 ([l311])) fun l339 =>
 rec23 (l312, l339)
def leagueTableFall_b4 (N : Nat) (t1 : LeagueTable) (r1 : LeagueRuled) (group1 : List Int) (rec23 : ((List Int) × (List (List Int))) → Option ((List (List Int)))) (rest8 : List Int) (l284 : List (List Int)) : Option ((List (List Int))) :=
 if decide (0 < (rest8.length : Int)) then
  leagueTableFall_k3 N t1 r1 group1 rest8 l284 rec23
 else
  some l284
def leagueTableFall (N : Nat) (t1 : LeagueTable) (r1 : LeagueRuled) (group1 : List Int) : Option ((List (List Int))) :=
 Option.bind (slicesClone N group1) fun r3 =>
 Option.bind (
  loopN (fun rec23 x => leagueTableFall_b4 N t1 r1 group1 rec23 x.1 x.2) N (r3, [])
 ) fun l170 =>
 some l170
def leagueRank_b1 (N : Nat) (l1 : LeagueLeague) (rec3 : (Int × (List Int)) → Option ((List Int))) (v8 : Int) (l12 : List Int) : Option ((List Int)) :=
 if decide (v8 < l1.fTeams) then
  Option.bind (idx l12 v8) fun x12 =>
  rec3 ((w64 (v8 + 1), (List.set l12 (Int.toNat v8) v8)))
 else
  some l12
def leagueRank_b2 (N : Nat) (l1 : LeagueLeague) (l236 : List (List Int)) (x300 : Int) (rec29 : (Int × Int × (List (List Int))) → Option ((List (List Int)))) (v241 : Int) (v242 : Int) (l277 : List (List Int)) : Option ((List (List Int))) :=
 if decide (v242 < v241) then
  Option.bind (idx l236 v242) fun x324 =>
  Option.bind (leagueRule N x300) fun r295 =>
  Option.bind (leagueTableFall N (LeagueTable.mk l1) r295 x324) fun r296 =>
  Option.bind (app N l277 r296) fun l279 =>
  rec29 ((v241, w64 (v242 + 1), l279))
 else
  some l277
def leagueRank_b3 (N : Nat) (l1 : LeagueLeague) (rules1 : List Int) (rec25 : (Int × Int × (List (List Int))) → Option ((List (List Int)))) (v205 : Int) (v206 : Int) (l236 : List (List Int)) : Option ((List (List Int))) :=
 if decide (v206 < v205) then
  Option.bind (
   Option.bind (idx rules1 v206) fun x300 =>
   Option.bind (
    loopN (fun rec29 x => leagueRank_b2 N l1 l236 x300 rec29 x.1 x.2.1 x.2.2) N (((l236.length : Int), 0, []))
   ) fun l269 =>
   some l269
  ) fun l258 =>
  rec25 ((v205, w64 (v206 + 1), l258))
 else
  some l236
def leagueRank_b4 (N : Nat) (rank13 : Int) (x744 : List Int) (rec55 : (Int × Int × (List Int)) → Option ((List Int))) (v475 : Int) (v476 : Int) (l404 : List Int) : Option ((List Int)) :=
 if decide (v476 < v475) then
  Option.bind (idx x744 v476) fun x779 =>
  Option.bind (idx l404 x779) fun x780 =>
  rec55 ((v475, w64 (v476 + 1), (List.set l404 (Int.toNat x779) rank13)))
 else
  some l404
def leagueRank_b5 (N : Nat) (l146 : List (List Int)) (rec51 : (Int × Int × Int × (List Int)) → Option ((List Int))) (rank13 : Int) (v439 : Int) (v440 : Int) (l385 : List Int) : Option ((List Int)) :=
 if decide (v440 < v439) then
  Option.bind (
   Option.bind (idx l146 v440) fun x744 =>
   Option.bind (
    loopN (fun rec55 x => leagueRank_b4 N rank13 x744 rec55 x.1 x.2.1 x.2.2) N (((x744.length : Int), 0, l385))
   ) fun l400 =>
   some ((w64 (rank13 + (x744.length : Int)), l400))
  ) fun (rank14, l395) =>
  rec51 ((rank14, v439, w64 (v440 + 1), l395))
 else
  some l385
def leagueRank (N : Nat) (l1 : LeagueLeague) (rules1 : List Int) : Option ((List Int) × Int) :=
 Option.bind (leagueCheckLeague N l1) fun r4 =>
 if !decide (r4 = 0) then
  none
 else
  if decide (6 < (rules1.length : Int)) then
   none
  else
   Option.bind (leagueAllX N rules1) fun r8 =>
   if !r8 then
    none
   else
    Option.bind (mkl N l1.fTeams 0) fun l3 =>
    Option.bind (
     loopN (fun rec3 x => leagueRank_b1 N l1 rec3 x.1 x.2) N (0, l3)
    ) fun l8 =>
    Option.bind (
     loopN (fun rec25 x => leagueRank_b3 N l1 rules1 rec25 x.1 x.2.1 x.2.2) N (((rules1.length : Int), 0, [l8]))
    ) fun l146 =>
    Option.bind (mkl N l1.fTeams 0) fun l281 =>
    Option.bind (
     loopN (fun rec51 x => leagueRank_b5 N l146 rec51 x.1 x.2.1 x.2.2.1 x.2.2.2) N ((1, (l146.length : Int), 0, l281))
    ) fun l343 =>
    some (l343, 0)
def ladderCupDraw1 (N : Nat) (r1 : LadderResult) : Option (Bool) :=
 some (decide ((r1.fGames.length : Int) ≤ 5))
def ladderAll1 (N : Nat) (x1 : LadderResult) : Option (Bool) :=
 Option.bind (ladderCupDraw1 N x1) fun r2 =>
 some (!r2)
def slicesIndexFuncXXXXXX_k1 (N : Nat)   : Option (Int) :=
 some (-1)
def slicesIndexFuncXXXXXX_b2 (N : Nat) (s1 : List LadderResult) (rec3 : (Int × Int) → Option (Int)) (v17 : Int) (v18 : Int) : Option (Int) :=
 if decide (v18 < v17) then
  Option.bind (idx s1 v18) fun x24 =>
  Option.bind (ladderAll1 N x24) fun r24 =>
  if r24 then
   some v18
  else
   rec3 ((v17, w64 (v18 + 1)))
 else
  slicesIndexFuncXXXXXX_k1 N
def slicesIndexFuncXXXXXX (N : Nat) (s1 : List LadderResult) : Option (Int) :=
 loopN (fun rec3 x => slicesIndexFuncXXXXXX_b2 N s1 rec3 x.1 x.2) N (((s1.length : Int), 0))
def slicesContainsFuncXXXXXX (N : Nat) (s1 : List LadderResult) : Option (Bool) :=
 Option.bind (slicesIndexFuncXXXXXX N s1) fun r2 =>
 some (decide (0 ≤ r2))
def ladderAll (N : Nat) (l1 : List LadderResult) : Option (Bool) :=
 Option.bind (slicesContainsFuncXXXXXX N l1) fun r2 =>
 some (!r2)
def ladderWithin (N : Nat) (n1 : Int) (low1 : Int) (high1 : Int) : Option (Bool) :=
 Option.bind (
  if decide (low1 ≤ n1) then
   some (decide (n1 ≤ high1))
  else
   some false
 ) fun v1 =>
 some v1
def ladderCupCheck (N : Nat) (c1 : LadderCup) : Option (Int) :=
 Option.bind (
  if decide (1 < c1.fForm) then
   some true
  else
   Option.bind (ladderWithin N c1.fPlayers 2 16) fun r7 =>
   if !r7 then
    some true
   else
    Option.bind (ladderWithin N c1.fGames 1 5) fun r8 =>
    if !r8 then
     some true
    else
     some (decide ((Int.tmod c1.fGames 2) = 0))
 ) fun v2 =>
 if v2 then
  some 1
 else
  some 0
def ladderCupDraw2 (N : Nat) (r1 : LadderResult) (a1 : LadderCup) : Option (Bool) :=
 Option.bind (
  Option.bind (ladderWithin N r1.fMatch 0 (w64 (a1.fPlayers - 2))) fun r3 =>
  if r3 then
   some (decide (0 < (r1.fGames.length : Int)))
  else
   some false
 ) fun v1 =>
 some v1
def ladderAll1X (N : Nat) (x1 : LadderResult) (a1 : LadderCup) : Option (Bool) :=
 Option.bind (ladderCupDraw2 N x1 a1) fun r2 =>
 some (!r2)
def slicesIndexFuncXXXXXXX_k1 (N : Nat)   : Option (Int) :=
 some (-1)
def slicesIndexFuncXXXXXXX_b2 (N : Nat) (s1 : List LadderResult) (f1 : LadderCup) (rec3 : (Int × Int) → Option (Int)) (v17 : Int) (v18 : Int) : Option (Int) :=
 if decide (v18 < v17) then
  Option.bind (idx s1 v18) fun x24 =>
  Option.bind (ladderAll1X N x24 f1) fun r24 =>
  if r24 then
   some v18
  else
   rec3 ((v17, w64 (v18 + 1)))
 else
  slicesIndexFuncXXXXXXX_k1 N
def slicesIndexFuncXXXXXXX (N : Nat) (s1 : List LadderResult) (f1 : LadderCup) : Option (Int) :=
 loopN (fun rec3 x => slicesIndexFuncXXXXXXX_b2 N s1 f1 rec3 x.1 x.2) N (((s1.length : Int), 0))
def slicesContainsFuncXXXXXXX (N : Nat) (s1 : List LadderResult) (f1 : LadderCup) : Option (Bool) :=
 Option.bind (slicesIndexFuncXXXXXXX N s1 f1) fun r2 =>
 some (decide (0 ≤ r2))
def ladderAllX (N : Nat) (l1 : List LadderResult) (right1 : LadderCup) : Option (Bool) :=
 Option.bind (slicesContainsFuncXXXXXXX N l1 right1) fun r2 =>
 some (!r2)
def ladderPlayer (N : Nat) (n1 : Int) : Option (LadderSide) :=
 some ((LadderSide.mk n1 (-1)))
def ladderWinnerX (N : Nat) (n1 : Int) : Option (LadderSide) :=
 some ((LadderSide.mk (-1) n1))
def ladderCupLadder_b1 (N : Nat)  (rec3 : (Int × Int × (List LadderPair)) → Option ((List LadderPair))) (last10 : Int) (n9 : Int) (l21 : List LadderPair) : Option ((List LadderPair)) :=
 if decide (n9 < last10) then
  Option.bind (ladderPlayer N (w64 ((w64 (last10 - 1)) - n9))) fun r27 =>
  Option.bind (ladderWinnerX N (w64 (n9 - 1))) fun r28 =>
  Option.bind (app N l21 ([(LadderPair.mk r27 r28)])) fun l23 =>
  rec3 ((last10, w64 (n9 + 1), l23))
 else
  some l21
def ladderCupLadder (N : Nat) (c1 : LadderCup) : Option ((List LadderPair)) :=
 Option.bind (ladderPlayer N (w64 ((w64 (c1.fPlayers - 1)) - 1))) fun r3 =>
 Option.bind (ladderPlayer N (w64 (c1.fPlayers - 1))) fun r4 =>
 Option.bind (
  loopN (fun rec3 x => ladderCupLadder_b1 N rec3 x.1 x.2.1 x.2.2) N ((w64 (c1.fPlayers - 1), 1, [(LadderPair.mk r3 r4)]))
 ) fun l12 =>
 some l12
def ladderCupOrder1_b1 (N : Nat) (l1 : List Int) (rec3 : (Int × Int × (List Int)) → Option ((List Int))) (v17 : Int) (v18 : Int) (l20 : List Int) : Option ((List Int)) :=
 if decide (v18 < v17) then
  Option.bind (idx l1 v18) fun x24 =>
  Option.bind (app N l20 ([x24, w64 ((w64 ((w64 (2 * (l1.length : Int))) - 1)) - x24)])) fun l22 =>
  rec3 ((v17, w64 (v18 + 1), l22))
 else
  some l20
def ladderCupOrder1_f (N : Nat) (rec1 : ((List Int) × LadderCup × LadderCup) → Option ((List Int))) (l1 : List Int) (a1 : LadderCup) (c1 : LadderCup) : Option ((List Int)) :=
 if decide (a1.fPlayers ≤ (l1.length : Int)) then
  some l1
 else
  Option.bind (
   loopN (fun rec3 x => ladderCupOrder1_b1 N l1 rec3 x.1 x.2.1 x.2.2) N (((l1.length : Int), 0, []))
  ) fun l12 =>
  Option.bind (rec1 (l12, c1, c1)) fun r2 =>
  some r2
def ladderCupOrder1 (N : Nat) (l1 : List Int) (a1 : LadderCup) (c1 : LadderCup) : Option ((List Int)) :=
 loopN (fun rr x => ladderCupOrder1_f N rr x.1 x.2.1 x.2.2) N (l1, a1, c1)
def ladderCupOrder (N : Nat) (c1 : LadderCup) : Option ((List Int)) :=
 Option.bind (ladderCupOrder1 N ([0]) c1 c1) fun r2 =>
 some r2
def slicesChunk (N : Nat) (s1 : List LadderSide) (n1 : Int) : Option ((List LadderSide) × Int) :=
 if decide (n1 < 1) then
  none
 else
  some (s1, n1)
def ladderCupBracket_b1 (N : Nat) (c1 : LadderCup) (r16 : List Int) (rec3 : (Int × Int × (List LadderSide)) → Option ((List LadderSide))) (v17 : Int) (v18 : Int) (l19 : List LadderSide) : Option ((List LadderSide)) :=
 if decide (v18 < v17) then
  Option.bind (idx r16 v18) fun x24 =>
  Option.bind (
   if decide (x24 < c1.fPlayers) then
    Option.bind (ladderPlayer N x24) fun r28 =>
    some r28
   else
    some ((LadderSide.mk (-1) (-1)))
  ) fun side12 =>
  Option.bind (app N l19 ([side12])) fun l21 =>
  rec3 ((v17, w64 (v18 + 1), l21))
 else
  some l19
def ladderCupBracket_b2 (N : Nat) (ra24 : List LadderSide) (rb24 : Int) (rec17 : (Int × (List LadderPair) × (List LadderSide)) → Option ((List LadderPair) × (List LadderSide))) (sides48 : Int) (l1265 : List LadderPair) (l1266 : List LadderSide) : Option ((List LadderPair) × (List LadderSide)) :=
 if decide (sides48 < (ra24.length : Int)) then
  Option.bind (slc ra24 sides48 (ra24.length : Int)) fun l1284 =>
  Option.bind (
   Option.bind (slc ra24 sides48 (w64 (sides48 + (min rb24 (l1284.length : Int))))) fun l1293 =>
   Option.bind (idx l1293 0) fun x741 =>
   if decide (((LadderSide.mk (-1) (-1))) = x741) then
    Option.bind (idx l1293 1) fun x742 =>
    Option.bind (app N l1266 ([x742])) fun l1294 =>
    some (l1265, l1294)
   else
    Option.bind (idx l1293 1) fun x744 =>
    if decide (((LadderSide.mk (-1) (-1))) = x744) then
     Option.bind (app N l1266 ([x741])) fun l1295 =>
     some (l1265, l1295)
    else
     Option.bind (ladderWinnerX N (l1265.length : Int)) fun r316 =>
     Option.bind (app N l1266 ([r316])) fun l1297 =>
     Option.bind (app N l1265 ([(LadderPair.mk x741 x744)])) fun l1298 =>
     some (l1298, l1297)
  ) fun (l1291, l1292) =>
  rec17 ((w64 (sides48 + rb24), l1291, l1292))
 else
  some (l1265, l1266)
def ladderCupBracket_k3 (N : Nat) (l1087 : List LadderSide) (l1088 : List LadderPair) (rec15 : ((List LadderSide) × (List LadderPair)) → Option ((List LadderPair)))  : Option ((List LadderPair)) :=
 Option.bind (
  Option.bind (slicesChunk N l1087 2) fun (ra24, rb24) =>
  loopN (fun rec17 x => ladderCupBracket_b2 N ra24 rb24 rec17 x.1 x.2.1 x.2.2) N (0, l1088, [])
 ) fun (l1193, l1194) =>
 rec15 (l1194, l1193)
def ladderCupBracket_b4 (N : Nat)  (rec15 : ((List LadderSide) × (List LadderPair)) → Option ((List LadderPair))) (l1087 : List LadderSide) (l1088 : List LadderPair) : Option ((List LadderPair)) :=
 if decide (1 < (l1087.length : Int)) then
  ladderCupBracket_k3 N l1087 l1088 rec15
 else
  some l1088
def ladderCupBracket (N : Nat) (c1 : LadderCup) : Option ((List LadderPair)) :=
 Option.bind (
  Option.bind (ladderCupOrder N c1) fun r16 =>
  loopN (fun rec3 x => ladderCupBracket_b1 N c1 r16 rec3 x.1 x.2.1 x.2.2) N (((r16.length : Int), 0, []))
 ) fun l11 =>
 Option.bind (
  loopN (fun rec15 x => ladderCupBracket_b4 N rec15 x.1 x.2) N (l11, [])
 ) fun l660 =>
 some l660
def ladderCupTree (N : Nat) (c1 : LadderCup) : Option ((List LadderPair)) :=
 if decide (c1.fForm = 1) then
  Option.bind (ladderCupLadder N c1) fun r4 =>
  some r4
 else
  Option.bind (ladderCupBracket N c1) fun r6 =>
  some r6
def ladderSides (N : Nat)  : Option (Unit) :=
 some ()
def ladderPairFirst (N : Nat) (p1 : LadderPair) : Option (LadderSide) :=
 some p1.fFirst
def ladderSum_b1 (N : Nat) (l1 : List Int) (rec3 : (Int × Int × Int) → Option (Int)) (n10 : Int) (v17 : Int) (v18 : Int) : Option (Int) :=
 if decide (v18 < v17) then
  Option.bind (idx l1 v18) fun x24 =>
  rec3 ((w64 (n10 + x24), v17, w64 (v18 + 1)))
 else
  some n10
def ladderSum (N : Nat) (l1 : List Int) : Option (Int) :=
 Option.bind (
  loopN (fun rec3 x => ladderSum_b1 N l1 rec3 x.1 x.2.1 x.2.2) N ((0, (l1.length : Int), 0))
 ) fun n6 =>
 some n6
def ladderPairSecond (N : Nat) (p1 : LadderPair) : Option (LadderSide) :=
 some p1.fSecond
def ladderDrawScoreXXXXX_b1 (N : Nat) (games1 : List Int) (x52 : Ar2 Int) (rec7 : (Int × Int × (Ar2 Int)) → Option ((Ar2 Int))) (v53 : Int) (v54 : Int) (c49 : Ar2 Int) : Option ((Ar2 Int)) :=
 if decide (v54 < v53) then
  Option.bind (
   Option.bind (idx games1 v54) fun x76 =>
   if decide (x76 = x52.a0) then
    Option.bind (ladderSum N ([c49.a0, 1])) fun r36 =>
    some (Ar2.mk r36 c49.a1)
   else
    some c49
  ) fun c50 =>
  rec7 ((v53, w64 (v54 + 1), c50))
 else
  some c49
def ladderDrawScoreXXXXX_b2 (N : Nat) (games1 : List Int) (x52 : Ar2 Int) (rec9 : (Int × Int × (Ar2 Int)) → Option ((Ar2 Int))) (v71 : Int) (v72 : Int) (c64 : Ar2 Int) : Option ((Ar2 Int)) :=
 if decide (v72 < v71) then
  Option.bind (
   Option.bind (idx games1 v72) fun x100 =>
   if decide (x100 = x52.a1) then
    Option.bind (ladderSum N ([c64.a1, 1])) fun r48 =>
    some (Ar2.mk c64.a0 r48)
   else
    some c64
  ) fun c65 =>
  rec9 ((v71, w64 (v72 + 1), c65))
 else
  some c64
def ladderDrawScoreXXXXX (N : Nat) (match1 : Int) (games1 : List Int) (c1 : Int) (c2 : Int) (c3 : Int) (c4 : List LadderResult) (c5 : List LadderPair) (m1 : List (Int × LadderResult)) (l1 : List (Ar2 Int)) : Option ((Ar2 Int)) :=
 Option.bind (idx l1 match1) fun x52 =>
 Option.bind (
  loopN (fun rec7 x => ladderDrawScoreXXXXX_b1 N games1 x52 rec7 x.1 x.2.1 x.2.2) N (((games1.length : Int), 0, (Ar2.mk 0 0)))
 ) fun c43 =>
 Option.bind (
  loopN (fun rec9 x => ladderDrawScoreXXXXX_b2 N games1 x52 rec9 x.1 x.2.1 x.2.2) N (((games1.length : Int), 0, c43))
 ) fun c58 =>
 some c58
def ladderDrawDecidedXXXXX (N : Nat) (match1 : Int) (games1 : List Int) (c1 : Int) (c2 : Int) (c3 : Int) (c4 : List LadderResult) (c5 : List LadderPair) (m1 : List (Int × LadderResult)) (l1 : List (Ar2 Int)) : Option (Int) :=
 Option.bind (ladderDrawScoreXXXXX N match1 games1 c1 c2 c3 c4 c5 m1 l1) fun r4 =>
 if decide (c3 < (w64 (2 * r4.a0))) then
  Option.bind (idx l1 match1) fun x12 =>
  some x12.a0
 else
  if decide (c3 < (w64 (2 * r4.a1))) then
   Option.bind (idx l1 match1) fun x16 =>
   some x16.a1
  else
   some (-1)
def ladderDrawLawfulXXX_b1 (N : Nat) (r1 : LadderResult) (c1 : Int) (c2 : Int) (c3 : Int) (c4 : List LadderResult) (c5 : List LadderPair) (m1 : List (Int × LadderResult)) (l1 : List (Ar2 Int)) (x2 : Ar2 Int) (rec3 : (Int × Int) → Option (Bool)) (v29 : Int) (v30 : Int) : Option (Bool) :=
 if decide (v30 < v29) then
  Option.bind (idx r1.fGames v30) fun x26 =>
  Option.bind (
   Option.bind (slicesContains N ([x2.a0, x2.a1] : List Int) x26) fun r48 =>
   if !r48 then
    some true
   else
    Option.bind (slc r1.fGames 0 v30) fun l25 =>
    Option.bind (ladderDrawDecidedXXXXX N r1.fMatch l25 c1 c2 c3 c4 c5 m1 l1) fun r49 =>
    some (!decide (r49 = (-1)))
  ) fun v32 =>
  if v32 then
   some false
  else
   rec3 ((v29, w64 (v30 + 1)))
 else
  some true
def ladderDrawLawfulXXX (N : Nat) (r1 : LadderResult) (c1 : Int) (c2 : Int) (c3 : Int) (c4 : List LadderResult) (c5 : List LadderPair) (m1 : List (Int × LadderResult)) (l1 : List (Ar2 Int)) : Option (Bool) :=
 Option.bind (idx l1 r1.fMatch) fun x2 =>
 Option.bind (
  if decide (x2.a0 = (-1)) then
   some true
  else
   some (decide (x2.a1 = (-1)))
 ) fun v2 =>
 if v2 then
  some false
 else
  Option.bind (
   loopN (fun rec3 x => ladderDrawLawfulXXX_b1 N r1 c1 c2 c3 c4 c5 m1 l1 x2 rec3 x.1 x.2) N (((r1.fGames.length : Int), 0))
  ) fun fair1 =>
  some fair1
def ladderDrawWonXXXXX (N : Nat) (match1 : Int) (c1 : Int) (c2 : Int) (c3 : Int) (c4 : List LadderResult) (c5 : List LadderPair) (m1 : List (Int × LadderResult)) (l1 : List (Ar2 Int)) : Option (Int) :=
 Option.bind (mgt m1 match1 ((LadderResult.mk 0 ([]) false))) fun (v2, is2) =>
 if !is2 then
  some (-1)
 else
  Option.bind (ladderDrawDecidedXXXXX N match1 v2.fGames c1 c2 c3 c4 c5 m1 l1) fun r2 =>
  some r2
def ladderDrawFillX_k1 (N : Nat) (c1 : Int) (c2 : Int) (c3 : Int) (c4 : List LadderResult) (c5 : List LadderPair) (l17 : List (Ar2 Int)) : Option (Bool × Int × Int × Int × (List LadderResult) × (List LadderPair) × (List (Ar2 Int))) :=
 some (true, c1, c2, c3, c4, c5, l17)
def ladderDrawFillX_b2 (N : Nat) (c1 : Int) (c2 : Int) (c3 : Int) (c4 : List LadderResult) (c5 : List LadderPair) (m1 : List (Int × LadderResult)) (rec3 : (Int × Int × (List (Ar2 Int))) → Option (Bool × Int × Int × Int × (List LadderResult) × (List LadderPair) × (List (Ar2 Int)))) (v47 : Int) (v48 : Int) (l29 : List (Ar2 Int)) : Option (Bool × Int × Int × Int × (List LadderResult) × (List LadderPair) × (List (Ar2 Int))) :=
 if decide (v48 < v47) then
  Option.bind (idx c5 v48) fun x24 =>
  Option.bind (ladderSides N) fun _ =>
  Option.bind (
   Option.bind (ladderPairFirst N x24) fun r303 =>
   if decide (r303.fMatch = (-1)) then
    some ((Ar2.mk r303.fPlayer (-1)))
   else
    Option.bind (ladderDrawWonXXXXX N r303.fMatch c1 c2 c3 c4 c5 m1 l29) fun r304 =>
    some ((Ar2.mk r304 (-1)))
  ) fun c52 =>
  Option.bind (
   Option.bind (ladderPairSecond N x24) fun r309 =>
   if decide (r309.fMatch = (-1)) then
    some (Ar2.mk c52.a0 r309.fPlayer)
   else
    Option.bind (ladderDrawWonXXXXX N r309.fMatch c1 c2 c3 c4 c5 m1 l29) fun r310 =>
    some (Ar2.mk c52.a0 r310)
  ) fun c53 =>
  Option.bind (app N l29 ([c53])) fun l33 =>
  Option.bind (mgt m1 v48 ((LadderResult.mk 0 ([]) false))) fun (v53, is24) =>
  Option.bind (
   if is24 then
    Option.bind (ladderDrawLawfulXXX N v53 c1 c2 c3 c4 c5 m1 l33) fun r312 =>
    some (!r312)
   else
    some false
  ) fun v54 =>
  if v54 then
   some (false, c1, c2, c3, c4, c5, l33)
  else
   rec3 ((v47, w64 (v48 + 1), l33))
 else
  ladderDrawFillX_k1 N c1 c2 c3 c4 c5 l29
def ladderDrawFillX (N : Nat) (c1 : Int) (c2 : Int) (c3 : Int) (c4 : List LadderResult) (c5 : List LadderPair) (m1 : List (Int × LadderResult)) : Option (Bool × Int × Int × Int × (List LadderResult) × (List LadderPair) × (List (Ar2 Int))) :=
 loopN (fun rec3 x => ladderDrawFillX_b2 N c1 c2 c3 c4 c5 m1 rec3 x.1 x.2.1 x.2.2) N (((c5.length : Int), 0, []))
def ladderCupDraw_k1 (N : Nat) (c1 : LadderCup) (r14 : List LadderPair) (m5 : List (Int × LadderResult)) : Option (Int ⊕ (Int × Int × Int × Int × (List LadderResult) × (List LadderPair) × (List (Int × LadderResult)) × (List (Ar2 Int)))) :=
 Option.bind (ladderDrawFillX N c1.fForm c1.fPlayers c1.fGames c1.fResults r14 m5) fun (ra4, rb4, rc4, rd4, re4, rf4, rg4) =>
 if !ra4 then
  some (.inl 10)
 else
  some (.inr (0, rb4, rc4, rd4, re4, rf4, m5, rg4))
def ladderCupDraw_b2 (N : Nat) (c1 : LadderCup) (r14 : List LadderPair) (rec3 : (Int × Int × (List (Int × LadderResult))) → Option (Int ⊕ (Int × Int × Int × Int × (List LadderResult) × (List LadderPair) × (List (Int × LadderResult)) × (List (Ar2 Int))))) (v61 : Int) (v62 : Int) (m9 : List (Int × LadderResult)) : Option (Int ⊕ (Int × Int × Int × Int × (List LadderResult) × (List LadderPair) × (List (Int × LadderResult)) × (List (Ar2 Int)))) :=
 if decide (v62 < v61) then
  Option.bind (idx c1.fResults v62) fun x24 =>
  Option.bind (
   Option.bind (mgt m9 x24.fMatch ((LadderResult.mk 0 ([]) false))) fun (v70, is72) =>
   some is72
  ) fun is71 =>
  if is71 then
   some (.inl 6)
  else
   rec3 ((v61, w64 (v62 + 1), (mput m9 x24.fMatch x24)))
 else
  ladderCupDraw_k1 N c1 r14 m9
def ladderCupDraw_k3 (N : Nat) (c1 : LadderCup) (r14 : List LadderPair) (m14 : List (Int × LadderResult)) : Option (Int ⊕ (Int × Int × Int × Int × (List LadderResult) × (List LadderPair) × (List (Int × LadderResult)) × (List (Ar2 Int)))) :=
 Option.bind (ladderDrawFillX N c1.fForm c1.fPlayers c1.fGames c1.fResults r14 m14) fun (ra8, rb8, rc8, rd8, re8, rf8, rg8) =>
 if !ra8 then
  some (.inl 10)
 else
  some (.inr (0, rb8, rc8, rd8, re8, rf8, m14, rg8))
def ladderCupDraw_b4 (N : Nat) (c1 : LadderCup) (r14 : List LadderPair) (rec5 : (Int × Int × (List (Int × LadderResult))) → Option (Int ⊕ (Int × Int × Int × Int × (List LadderResult) × (List LadderPair) × (List (Int × LadderResult)) × (List (Ar2 Int))))) (v127 : Int) (v128 : Int) (m18 : List (Int × LadderResult)) : Option (Int ⊕ (Int × Int × Int × Int × (List LadderResult) × (List LadderPair) × (List (Int × LadderResult)) × (List (Ar2 Int)))) :=
 if decide (v128 < v127) then
  Option.bind (idx c1.fResults v128) fun x48 =>
  Option.bind (
   Option.bind (mgt m18 x48.fMatch ((LadderResult.mk 0 ([]) false))) fun (v136, is144) =>
   some is144
  ) fun is143 =>
  if is143 then
   some (.inl 6)
  else
   rec5 ((v127, w64 (v128 + 1), (mput m18 x48.fMatch x48)))
 else
  ladderCupDraw_k3 N c1 r14 m18
def ladderCupDraw (N : Nat) (c1 : LadderCup) : Option (Int ⊕ (Int × Int × Int × Int × (List LadderResult) × (List LadderPair) × (List (Int × LadderResult)) × (List (Ar2 Int)))) :=
 Option.bind (
  if decide (15 < (c1.fResults.length : Int)) then
   some true
  else
   Option.bind (ladderAll N c1.fResults) fun r8 =>
   some (!r8)
 ) fun v3 =>
 if v3 then
  some (.inl 3)
 else
  Option.bind (
   Option.bind (ladderCupCheck N c1) fun r11 =>
   if !decide (r11 = 0) then
    some true
   else
    Option.bind (ladderAllX N c1.fResults c1) fun r12 =>
    some (!r12)
  ) fun v4 =>
  if v4 then
   some (.inl 1)
  else
   Option.bind (ladderCupTree N c1) fun r14 =>
   loopN (fun rec3 x => ladderCupDraw_b2 N c1 r14 rec3 x.1 x.2.1 x.2.2) N (((c1.fResults.length : Int), 0, ([] : List (Int × LadderResult))))
def ladderDrawLast (N : Nat) (c1 : Int) (c2 : Int) (c3 : Int) (c4 : List LadderResult) (c5 : List LadderPair) (m1 : List (Int × LadderResult)) (l1 : List (Ar2 Int)) : Option (Int) :=
 some (w64 ((c5.length : Int) - 1))
def ladderDrawSettled (N : Nat) (match1 : Int) (first1 : Int) (second1 : Int) (c1 : Int) (c2 : Int) (c3 : Int) (c4 : List LadderResult) (c5 : List LadderPair) (m1 : List (Int × LadderResult)) (l1 : List (Ar2 Int)) : Option (Int) :=
 Option.bind (
  Option.bind (idx l1 match1) fun x4 =>
  if !decide (x4 = (Ar2.mk first1 second1)) then
   some true
  else
   Option.bind (mgt m1 match1 ((LadderResult.mk 0 ([]) false))) fun (v6, is4) =>
   some v6.fProtested
 ) fun v5 =>
 if v5 then
  some (-1)
 else
  Option.bind (ladderDrawWonXXXXX N match1 c1 c2 c3 c4 c5 m1 l1) fun r2 =>
  some r2
def ladderDrawFromX_b1 (N : Nat) (s1 : LadderSide) (c2 : Int) (m1 : List (LadderSpot × LadderCheapest)) (rec3 : (Int × (List (Int × Int))) → Option ((List (Int × Int)))) (v28 : Int) (m16 : List (Int × Int)) : Option ((List (Int × Int))) :=
 if decide (v28 < c2) then
  Option.bind (
   Option.bind (mgt m1 (LadderSpot.mk s1.fMatch v28) (LadderCheapest.mk 0 0)) fun (v32, is24) =>
   if is24 then
    some (mput m16 v28 v32.fUpsets)
   else
    some m16
  ) fun m17 =>
  rec3 ((w64 (v28 + 1), m17))
 else
  some m16
def ladderDrawFromX (N : Nat) (s1 : LadderSide) (c1 : Int) (c2 : Int) (c3 : Int) (c4 : List LadderResult) (c5 : List LadderPair) (m1 : List (LadderSpot × LadderCheapest)) (m2 : List (Int × LadderResult)) (l1 : List (Ar2 Int)) : Option ((List (Int × Int))) :=
 if decide (s1.fMatch = (-1)) then
  some ((mput (([] : List (Int × Int))) s1.fPlayer 0))
 else
  Option.bind (
   loopN (fun rec3 x => ladderDrawFromX_b1 N s1 c2 m1 rec3 x.1 x.2) N ((0, ([] : List (Int × Int))))
  ) fun m10 =>
  some m10
def ladderDrawBest_k1 (N : Nat)  (m213 : List (LadderSpot × LadderCheapest)) : WP ((List (LadderSpot × LadderCheapest))) :=
 retW m213
def ladderDrawBest_k2 (N : Nat) (v2897 : Int) (v2898 : Int) (rec43 : (Int × Int × (List (LadderSpot × LadderCheapest))) → WP ((List (LadderSpot × LadderCheapest)))) (m390 : List (LadderSpot × LadderCheapest)) : WP ((List (LadderSpot × LadderCheapest))) :=
 rec43 ((v2897, w64 (v2898 + 1), m390))
def ladderDrawBest_k3 (N : Nat) (rec51 : ((List (LadderSpot × LadderCheapest)) × (List (Int × Int))) → WP ((List (LadderSpot × LadderCheapest)))) (rem480 : List (Int × Int)) (m424 : List (LadderSpot × LadderCheapest)) : WP ((List (LadderSpot × LadderCheapest))) :=
 rec51 (m424, rem480)
def ladderDrawBest_k4 (N : Nat) (v2898 : Int) (rec51 : ((List (LadderSpot × LadderCheapest)) × (List (Int × Int))) → WP ((List (LadderSpot × LadderCheapest)))) (rem480 : List (Int × Int)) (m423 : List (LadderSpot × LadderCheapest)) (x886 : Ar2 Int) (cost431 : Int) (v3466 : Bool) : WP ((List (LadderSpot × LadderCheapest))) :=
 if v3466 then
  ladderDrawBest_k3 N rec51 rem480 ((mput m423 (LadderSpot.mk v2898 x886.a0) (LadderCheapest.mk cost431 x886.a1)))
 else
  ladderDrawBest_k3 N rec51 rem480 m423
def ladderDrawBest_k5 (N : Nat) (v2898 : Int) (rec51 : ((List (LadderSpot × LadderCheapest)) × (List (Int × Int))) → WP ((List (LadderSpot × LadderCheapest)))) (rem480 : List (Int × Int)) (m423 : List (LadderSpot × LadderCheapest)) (x886 : Ar2 Int) (cost431 : Int) : WP ((List (LadderSpot × LadderCheapest))) :=
 bindO (mgt m423 (LadderSpot.mk v2898 x886.a0) (LadderCheapest.mk 0 0)) fun (v3465, is862) =>
 if !is862 then
  ladderDrawBest_k4 N v2898 rec51 rem480 m423 x886 cost431 true
 else
  ladderDrawBest_k4 N v2898 rec51 rem480 m423 x886 cost431 (decide (cost431 < v3465.fUpsets))
def ladderDrawBest_k6 (N : Nat) (v2898 : Int) (rec51 : ((List (LadderSpot × LadderCheapest)) × (List (Int × Int))) → WP ((List (LadderSpot × LadderCheapest)))) (rem480 : List (Int × Int)) (m423 : List (LadderSpot × LadderCheapest)) (x886 : Ar2 Int) (r2034 : Int) (v3467 : Bool) : WP ((List (LadderSpot × LadderCheapest))) :=
 if v3467 then
  bindO (ladderSum N ([r2034, 1])) fun r2036 =>
  ladderDrawBest_k5 N v2898 rec51 rem480 m423 x886 r2036
 else
  ladderDrawBest_k5 N v2898 rec51 rem480 m423 x886 r2034
def ladderDrawBest_k7 (N : Nat) (v2898 : Int) (v3381 : Int) (rec51 : ((List (LadderSpot × LadderCheapest)) × (List (Int × Int))) → WP ((List (LadderSpot × LadderCheapest)))) (v3446 : Int) (rem480 : List (Int × Int)) (r2024 : Int) (m423 : List (LadderSpot × LadderCheapest)) (x886 : Ar2 Int) (v3462 : Bool) : WP ((List (LadderSpot × LadderCheapest))) :=
 if v3462 then
  ladderDrawBest_k3 N rec51 rem480 m423
 else
  bindO (ladderSum N ([v3381, v3446])) fun r2034 =>
  if decide (r2024 = (-1)) then
   ladderDrawBest_k6 N v2898 rec51 rem480 m423 x886 r2034 (decide (x886.a1 < x886.a0))
  else
   ladderDrawBest_k6 N v2898 rec51 rem480 m423 x886 r2034 false
def ladderDrawBest_k8 (N : Nat) (v2898 : Int) (v3381 : Int) (rec51 : ((List (LadderSpot × LadderCheapest)) × (List (Int × Int))) → WP ((List (LadderSpot × LadderCheapest)))) (v3446 : Int) (rem480 : List (Int × Int)) (r2024 : Int) (m423 : List (LadderSpot × LadderCheapest)) (l539 : List (Ar2 Int)) : WP ((List (LadderSpot × LadderCheapest))) :=
 bindO (idx l539 1) fun x886 =>
 if !decide (r2024 = (-1)) then
  ladderDrawBest_k7 N v2898 v3381 rec51 v3446 rem480 r2024 m423 x886 (!decide (r2024 = x886.a0))
 else
  ladderDrawBest_k7 N v2898 v3381 rec51 v3446 rem480 r2024 m423 x886 false
def ladderDrawBest_k9 (N : Nat) (v2898 : Int) (v3381 : Int) (m422 : List (LadderSpot × LadderCheapest)) (rec51 : ((List (LadderSpot × LadderCheapest)) × (List (Int × Int))) → WP ((List (LadderSpot × LadderCheapest)))) (v3446 : Int) (rem480 : List (Int × Int)) (r2024 : Int) (x888 : Ar2 Int) (l541 : List (Ar2 Int)) (cost432 : Int) (v3473 : Bool) : WP ((List (LadderSpot × LadderCheapest))) :=
 if v3473 then
  ladderDrawBest_k8 N v2898 v3381 rec51 v3446 rem480 r2024 ((mput m422 (LadderSpot.mk v2898 x888.a0) (LadderCheapest.mk cost432 x888.a1))) l541
 else
  ladderDrawBest_k8 N v2898 v3381 rec51 v3446 rem480 r2024 m422 l541
def ladderDrawBest_k10 (N : Nat) (v2898 : Int) (v3381 : Int) (m422 : List (LadderSpot × LadderCheapest)) (rec51 : ((List (LadderSpot × LadderCheapest)) × (List (Int × Int))) → WP ((List (LadderSpot × LadderCheapest)))) (v3446 : Int) (rem480 : List (Int × Int)) (r2024 : Int) (x888 : Ar2 Int) (l541 : List (Ar2 Int)) (cost432 : Int) : WP ((List (LadderSpot × LadderCheapest))) :=
 bindO (mgt m422 (LadderSpot.mk v2898 x888.a0) (LadderCheapest.mk 0 0)) fun (v3472, is864) =>
 if !is864 then
  ladderDrawBest_k9 N v2898 v3381 m422 rec51 v3446 rem480 r2024 x888 l541 cost432 true
 else
  ladderDrawBest_k9 N v2898 v3381 m422 rec51 v3446 rem480 r2024 x888 l541 cost432 (decide (cost432 < v3472.fUpsets))
def ladderDrawBest_k11 (N : Nat) (v2898 : Int) (v3381 : Int) (m422 : List (LadderSpot × LadderCheapest)) (rec51 : ((List (LadderSpot × LadderCheapest)) × (List (Int × Int))) → WP ((List (LadderSpot × LadderCheapest)))) (v3446 : Int) (rem480 : List (Int × Int)) (r2024 : Int) (x888 : Ar2 Int) (l541 : List (Ar2 Int)) (r2038 : Int) (v3474 : Bool) : WP ((List (LadderSpot × LadderCheapest))) :=
 if v3474 then
  bindO (ladderSum N ([r2038, 1])) fun r2040 =>
  ladderDrawBest_k10 N v2898 v3381 m422 rec51 v3446 rem480 r2024 x888 l541 r2040
 else
  ladderDrawBest_k10 N v2898 v3381 m422 rec51 v3446 rem480 r2024 x888 l541 r2038
def ladderDrawBest_k12 (N : Nat) (v2898 : Int) (v3381 : Int) (m422 : List (LadderSpot × LadderCheapest)) (rec51 : ((List (LadderSpot × LadderCheapest)) × (List (Int × Int))) → WP ((List (LadderSpot × LadderCheapest)))) (v3446 : Int) (rem480 : List (Int × Int)) (r2024 : Int) (x888 : Ar2 Int) (v3469 : Bool) (l541 : List (Ar2 Int)) : WP ((List (LadderSpot × LadderCheapest))) :=
 if v3469 then
  ladderDrawBest_k8 N v2898 v3381 rec51 v3446 rem480 r2024 m422 l541
 else
  bindO (ladderSum N ([v3381, v3446])) fun r2038 =>
  if decide (r2024 = (-1)) then
   ladderDrawBest_k11 N v2898 v3381 m422 rec51 v3446 rem480 r2024 x888 l541 r2038 (decide (x888.a1 < x888.a0))
  else
   ladderDrawBest_k11 N v2898 v3381 m422 rec51 v3446 rem480 r2024 x888 l541 r2038 false
def ladderDrawBest_b13 (N : Nat) (c1 : Int) (c2 : Int) (c3 : Int) (c4 : List LadderResult) (c5 : List LadderPair) (m1 : List (Int × LadderResult)) (l1 : List (Ar2 Int)) (v2898 : Int) (rec50 : ((List (LadderSpot × LadderCheapest)) × (List (Int × Int))) → WP ((List (LadderSpot × LadderCheapest)))) (k282 : Int) (v3381 : Int) (rem470 : List (Int × Int)) (rec51 : ((List (LadderSpot × LadderCheapest)) × (List (Int × Int))) → WP ((List (LadderSpot × LadderCheapest)))) (m422 : List (LadderSpot × LadderCheapest)) (rem478 : List (Int × Int)) : WP ((List (LadderSpot × LadderCheapest))) :=
 nextW rem478 (
  rec50 (m422, rem470)
 ) fun (k288, v3446) rem480 =>
 bindO (ladderDrawSettled N v2898 k282 k288 c1 c2 c3 c4 c5 m1 l1) fun r2024 =>
 bindO (idx ([(Ar2.mk k282 k288), (Ar2.mk k288 k282)]) 0) fun x888 =>
 if !decide (r2024 = (-1)) then
  ladderDrawBest_k12 N v2898 v3381 m422 rec51 v3446 rem480 r2024 x888 (!decide (r2024 = x888.a0)) ([(Ar2.mk k282 k288), (Ar2.mk k288 k282)])
 else
  ladderDrawBest_k12 N v2898 v3381 m422 rec51 v3446 rem480 r2024 x888 false ([(Ar2.mk k282 k288), (Ar2.mk k288 k282)])
def ladderDrawBest_b14 (N : Nat) (c1 : Int) (c2 : Int) (c3 : Int) (c4 : List LadderResult) (c5 : List LadderPair) (m1 : List (Int × LadderResult)) (l1 : List (Ar2 Int)) (v2897 : Int) (v2898 : Int) (rec43 : (Int × Int × (List (LadderSpot × LadderCheapest))) → WP ((List (LadderSpot × LadderCheapest)))) (x816 : LadderPair) (rec50 : ((List (LadderSpot × LadderCheapest)) × (List (Int × Int))) → WP ((List (LadderSpot × LadderCheapest)))) (m414 : List (LadderSpot × LadderCheapest)) (rem468 : List (Int × Int)) : WP ((List (LadderSpot × LadderCheapest))) :=
 nextW rem468 (
  ladderDrawBest_k2 N v2897 v2898 rec43 m414
 ) fun (k282, v3381) rem470 =>
 bindO (ladderDrawFromX N x816.fSecond c1 c2 c3 c4 c5 m414 m1 l1) fun r1986 =>
 loopW (fun rec51 x => ladderDrawBest_b13 N c1 c2 c3 c4 c5 m1 l1 v2898 rec50 k282 v3381 rem470 rec51 x.1 x.2) N (m414, r1986)
def ladderDrawBest_b15 (N : Nat) (c1 : Int) (c2 : Int) (c3 : Int) (c4 : List LadderResult) (c5 : List LadderPair) (m1 : List (Int × LadderResult)) (l1 : List (Ar2 Int)) (rec43 : (Int × Int × (List (LadderSpot × LadderCheapest))) → WP ((List (LadderSpot × LadderCheapest)))) (v2897 : Int) (v2898 : Int) (m355 : List (LadderSpot × LadderCheapest)) : WP ((List (LadderSpot × LadderCheapest))) :=
 if decide (v2898 < v2897) then
  bindO (idx c5 v2898) fun x816 =>
  bindO (ladderDrawFromX N x816.fFirst c1 c2 c3 c4 c5 m355 m1 l1) fun r1872 =>
  loopW (fun rec50 x => ladderDrawBest_b14 N c1 c2 c3 c4 c5 m1 l1 v2897 v2898 rec43 x816 rec50 x.1 x.2) N (m355, r1872)
 else
  ladderDrawBest_k1 N m355
def ladderDrawBest (N : Nat) (c1 : Int) (c2 : Int) (c3 : Int) (c4 : List LadderResult) (c5 : List LadderPair) (m1 : List (Int × LadderResult)) (l1 : List (Ar2 Int)) : WP ((List (LadderSpot × LadderCheapest))) :=
 loopW (fun rec43 x => ladderDrawBest_b15 N c1 c2 c3 c4 c5 m1 l1 rec43 x.1 x.2.1 x.2.2) N (((c5.length : Int), 0, ([] : List (LadderSpot × LadderCheapest))))
def ladderDrawMayW_k1 (N : Nat)  (l15 : List Int) : WP ((List Int)) :=
 retW l15
def ladderDrawMayW_k2 (N : Nat) (v28 : Int) (rec3 : (Int × (List Int)) → WP ((List Int))) (l27 : List Int) : WP ((List Int)) :=
 rec3 ((w64 (v28 + 1), l27))
def ladderDrawMayW_b3 (N : Nat) (c1 : Int) (c2 : Int) (c3 : Int) (c4 : List LadderResult) (c5 : List LadderPair) (m1 : List (Int × LadderResult)) (l1 : List (Ar2 Int)) (r2 : List (LadderSpot × LadderCheapest)) (rec3 : (Int × (List Int)) → WP ((List Int))) (v28 : Int) (l25 : List Int) : WP ((List Int)) :=
 if decide (v28 < c2) then
  bindO (ladderDrawLast N c1 c2 c3 c4 c5 m1 l1) fun r26 =>
  bindO (mgt r2 (LadderSpot.mk r26 v28) (LadderCheapest.mk 0 0)) fun (v32, is24) =>
  if is24 then
   bindO (app N l25 ([v28])) fun l28 =>
   ladderDrawMayW_k2 N v28 rec3 l28
  else
   ladderDrawMayW_k2 N v28 rec3 l25
 else
  ladderDrawMayW_k1 N l25
def ladderDrawMayW (N : Nat) (c1 : Int) (c2 : Int) (c3 : Int) (c4 : List LadderResult) (c5 : List LadderPair) (m1 : List (Int × LadderResult)) (l1 : List (Ar2 Int)) : WP ((List Int)) :=
 bindW (ladderDrawBest N c1 c2 c3 c4 c5 m1 l1) fun r2 =>
 loopW (fun rec3 x => ladderDrawMayW_b3 N c1 c2 c3 c4 c5 m1 l1 r2 rec3 x.1 x.2) N (0, [])
def ladderDrawMay (N : Nat) (c1 : Int) (c2 : Int) (c3 : Int) (c4 : List LadderResult) (c5 : List LadderPair) (m1 : List (Int × LadderResult)) (l1 : List (Ar2 Int)) : Option ((List Int)) := det (ladderDrawMayW N c1 c2 c3 c4 c5 m1 l1)
def ladderWinner (N : Nat) (c1 : LadderCup) : Option (Int × Int) :=
 Option.bind (ladderCupDraw N c1) fun z2 =>
 match z2 with
 | .inl r2 =>
  if !decide (r2 = 0) then
   some (0, r2)
  else
   none
 | .inr (ra2, rb2, rc2, rd2, re2, rf2, rg2, rh2) =>
  if !decide (ra2 = 0) then
   some (0, ra2)
  else
   Option.bind (ladderDrawLast N rb2 rc2 rd2 re2 rf2 rg2 rh2) fun r5 =>
   Option.bind (ladderDrawWonXXXXX N r5 rb2 rc2 rd2 re2 rf2 rg2 rh2) fun r6 =>
   if decide (r6 = (-1)) then
    some (0, 7)
   else
    Option.bind (ladderDrawMay N rb2 rc2 rd2 re2 rf2 rg2 rh2) fun r10 =>
    if decide (1 < (r10.length : Int)) then
     some (0, 8)
    else
     some (r6, 0)
def kingpintopDueled (N : Nat)  : Option (Bool) :=
 Option.bind (rateMatch N ((RateBook.mk (RateLaw.mk 0 0 0 1 0) ([70, 60]) ([]) ([]))) 1 ([0]) ([1])) fun (ra2, rb2, rc2) =>
 Option.bind (leagueRank N ((LeagueLeague.mk 2 ([(LeagueGame.mk 0 1 5 6 false)]))) ([1])) fun (ra4, rb4) =>
 Option.bind (ladderWinner N ((LadderCup.mk 0 2 1 ([(LadderResult.mk 0 ([1]) false)])))) fun (ra6, rb6) =>
 Option.bind (
  if decide (rc2 = 0) then
   if decide (ra2 = 8) then
    if decide (rb2 = 0) then
     if decide (rb4 = 0) then
      if decide ((ra4.length : Int) = 2) then
       Option.bind (idx ra4 0) fun x3 =>
       if decide (x3 = 2) then
        Option.bind (idx ra4 1) fun x4 =>
        if decide (x4 = 1) then
         if decide (rb6 = 0) then
          some (decide (ra6 = 1))
         else
          some false
        else
         some false
       else
        some false
      else
       some false
     else
      some false
    else
     some false
   else
    some false
  else
   some false
 ) fun v1 =>
 some v1
def law08League_b1 (N : Nat) (l1 : Ref08League) (rec3 : (Int × (List LeagueGame)) → Option ((List LeagueGame))) (i8 : Int) (l20 : List LeagueGame) : Option ((List LeagueGame)) :=
 if decide (i8 < (l1.fGames.length : Int)) then
  Option.bind (idx l1.fGames i8) fun x24 =>
  Option.bind (app N l20 ([(LeagueGame.mk x24.fA x24.fB x24.fPinsA x24.fPinsB x24.fOpen)])) fun l22 =>
  rec3 ((w64 (i8 + 1), l22))
 else
  some l20
def law08League (N : Nat) (l1 : Ref08League) : Option (LeagueLeague) :=
 Option.bind (
  loopN (fun rec3 x => law08League_b1 N l1 rec3 x.1 x.2) N (0, [])
 ) fun l12 =>
 some (LeagueLeague.mk l1.fTeams l12)
def law09List (N : Nat) (l1 : List Int) : Option ((List Int)) :=
 Option.bind (app N ([]) l1) fun l3 =>
 some l3
def law09Cup_b1 (N : Nat) (c1 : Ref09Cup) (rec3 : (Int × (List LadderResult)) → Option ((List LadderResult))) (i8 : Int) (l19 : List LadderResult) : Option ((List LadderResult)) :=
 if decide (i8 < (c1.fResults.length : Int)) then
  Option.bind (idx c1.fResults i8) fun x24 =>
  Option.bind (law09List N x24.fGames) fun r12 =>
  Option.bind (app N l19 ([(LadderResult.mk x24.fMatch r12 x24.fProtested)])) fun l21 =>
  rec3 ((w64 (i8 + 1), l21))
 else
  some l19
def law09Cup (N : Nat) (c1 : Ref09Cup) : Option (LadderCup) :=
 Option.bind (
  loopN (fun rec3 x => law09Cup_b1 N c1 rec3 x.1 x.2) N (0, [])
 ) fun l11 =>
 some (LadderCup.mk c1.fForm c1.fPlayers c1.fGames l11)
def ladderCupAsked (N : Nat) (c1 : LadderCup) (p1 : Int) : WP (Int ⊕ (Int × Int × Int × Int × (List LadderResult) × (List LadderPair) × (List (LadderSpot × LadderCheapest)) × (List (Int × LadderResult)) × (List (Ar2 Int)))) :=
 bindO (ladderCupDraw N c1) fun z2 =>
 match z2 with
 | .inl r2 =>
  if !decide (r2 = 0) then
   retW (.inl r2)
  else
   bindO (ladderWithin N p1 0 (w64 (c1.fPlayers - 1))) fun r6 =>
   if !r6 then
    retW (.inl 2)
   else
    failW
 | .inr (ra2, rb2, rc2, rd2, re2, rf2, rg2, rh2) =>
  if !decide (ra2 = 0) then
   retW (.inl ra2)
  else
   bindO (ladderWithin N p1 0 (w64 (c1.fPlayers - 1))) fun r10 =>
   if !r10 then
    retW (.inl 2)
   else
    bindW (ladderDrawBest N rb2 rc2 rd2 re2 rf2 rg2 rh2) fun r12 =>
    bindO (ladderDrawLast N rb2 rc2 rd2 re2 rf2 rg2 rh2) fun r16 =>
    bindO (mgt r12 (LadderSpot.mk r16 p1) (LadderCheapest.mk 0 0)) fun (v4, is4) =>
    if !is4 then
     retW (.inl 9)
    else
     retW (.inr (0, rb2, rc2, rd2, re2, rf2, r12, rg2, rh2))
def ladderUpsetsW (N : Nat) (c1 : LadderCup) (player1 : Int) : WP (Int × Int) :=
 bindW (ladderCupAsked N c1 player1) fun z2 =>
 match z2 with
 | .inl r2 =>
  if !decide (r2 = 0) then
   retW (0, r2)
  else
   failW
 | .inr (ra2, rb2, rc2, rd2, re2, rf2, rg2, rh2, ri2) =>
  if !decide (ra2 = 0) then
   retW (0, ra2)
  else
   bindO (ladderDrawLast N rb2 rc2 rd2 re2 rf2 rh2 ri2) fun r4 =>
   bindO (mgt rg2 (LadderSpot.mk r4 player1) (LadderCheapest.mk 0 0)) fun (v2, is2) =>
   retW (v2.fUpsets, 0)
def ladderUpsets (N : Nat) (c1 : LadderCup) (player1 : Int) : Option (Int × Int) := det (ladderUpsetsW N c1 player1)
def ladderDrawOpen (N : Nat) (c1 : Int) (c2 : Int) (c3 : Int) (c4 : List LadderResult) (c5 : List LadderPair) (m1 : List (Int × LadderResult)) (l1 : List (Ar2 Int)) : Option (Unit) :=
 some ()
def slicesAppendSeq_b1 (N : Nat) (c1 : Int) (c2 : Int) (c3 : Int) (c4 : List LadderResult) (c5 : List LadderPair) (m1 : List (Int × LadderResult)) (l1 : List (Ar2 Int)) (rec3 : (Int × Int × (List LadderMatch)) → Option ((List LadderMatch))) (v57 : Int) (v58 : Int) (l35 : List LadderMatch) : Option ((List LadderMatch)) :=
 if decide (v58 < v57) then
  Option.bind (
   Option.bind (idx l1 v58) fun x24 =>
   Option.bind (
    if decide (x24.a0 = (-1)) then
     some true
    else
     if decide (x24.a1 = (-1)) then
      some true
     else
      Option.bind (ladderDrawWonXXXXX N v58 c1 c2 c3 c4 c5 m1 l1) fun r70 =>
      some (!decide (r70 = (-1)))
   ) fun v64 =>
   if v64 then
    some l35
   else
    Option.bind (
     Option.bind (mgt m1 v58 ((LadderResult.mk 0 ([]) false))) fun (v66, is24) =>
     Option.bind (ladderDrawScoreXXXXX N v58 v66.fGames c1 c2 c3 c4 c5 m1 l1) fun r72 =>
     some r72
    ) fun c17 =>
    Option.bind (app N l35 ([(LadderMatch.mk v58 x24.a0 x24.a1 c17.a0 c17.a1)])) fun l40 =>
    some l40
  ) fun l38 =>
  rec3 ((v57, w64 (v58 + 1), l38))
 else
  some l35
def slicesAppendSeq (N : Nat) (c1 : Int) (c2 : Int) (c3 : Int) (c4 : List LadderResult) (c5 : List LadderPair) (m1 : List (Int × LadderResult)) (l1 : List (Ar2 Int)) : Option ((List LadderMatch)) :=
 Option.bind (
  loopN (fun rec3 x => slicesAppendSeq_b1 N c1 c2 c3 c4 c5 m1 l1 rec3 x.1 x.2.1 x.2.2) N (((l1.length : Int), 0, []))
 ) fun l21 =>
 some l21
def slicesCollect (N : Nat) (c1 : Int) (c2 : Int) (c3 : Int) (c4 : List LadderResult) (c5 : List LadderPair) (m1 : List (Int × LadderResult)) (l1 : List (Ar2 Int)) : Option ((List LadderMatch)) :=
 Option.bind (slicesAppendSeq N c1 c2 c3 c4 c5 m1 l1) fun r2 =>
 some r2
def ladderNext (N : Nat) (c1 : LadderCup) : Option ((List LadderMatch) × Int) :=
 Option.bind (ladderCupDraw N c1) fun z2 =>
 match z2 with
 | .inl r2 =>
  if !decide (r2 = 0) then
   some ([], r2)
  else
   none
 | .inr (ra2, rb2, rc2, rd2, re2, rf2, rg2, rh2) =>
  if !decide (ra2 = 0) then
   some ([], ra2)
  else
   Option.bind (ladderDrawOpen N rb2 rc2 rd2 re2 rf2 rg2 rh2) fun _ =>
   Option.bind (slicesCollect N rb2 rc2 rd2 re2 rf2 rg2 rh2) fun r4 =>
   some (r4, 0)
def ref08Open_b1 (N : Nat) (l1 : Ref08League) (rec3 : (Int × Int) → Option (Int)) (n15 : Int) (i8 : Int) : Option (Int) :=
 if decide (i8 < (l1.fGames.length : Int)) then
  Option.bind (
   Option.bind (idx l1.fGames i8) fun x24 =>
   if x24.fOpen then
    some (w64 (n15 + 1))
   else
    some n15
  ) fun n17 =>
  rec3 ((n17, w64 (i8 + 1)))
 else
  some n15
def ref08Open (N : Nat) (l1 : Ref08League) : Option (Int) :=
 Option.bind (
  loopN (fun rec3 x => ref08Open_b1 N l1 rec3 x.1 x.2) N (0, 0)
 ) fun n9 =>
 some n9
def leagueLeagueAsked (N : Nat) (l1 : LeagueLeague) (team1 : Int) : Option (Int) :=
 Option.bind (leagueCheckLeague N l1) fun r4 =>
 if !decide (r4 = 0) then
  none
 else
  Option.bind (leagueLeagueTeam N l1 team1) fun r8 =>
  if !r8 then
   none
  else
   some 0
def leagueLeagueSums_b1 (N : Nat) (l1 : LeagueLeague) (rec3 : (Int × Int × (Ar6 Int)) → Option ((Ar6 Int))) (v17 : Int) (v18 : Int) (out24 : Ar6 Int) : Option ((Ar6 Int)) :=
 if decide (v18 < v17) then
  Option.bind (
   Option.bind (idx l1.fGames v18) fun x24 =>
   Option.bind (leagueGameGives N x24) fun (ra24, rb24) =>
   Option.bind (
    if decide (x24.fA = 0) then
     some ((Ar6.mk (w64 (out24.a0 + ra24)) out24.a1 out24.a2 out24.a3 out24.a4 out24.a5))
    else
     if decide (x24.fA = 1) then
      some ((Ar6.mk out24.a0 (w64 (out24.a1 + ra24)) out24.a2 out24.a3 out24.a4 out24.a5))
     else
      if decide (x24.fA = 2) then
       some ((Ar6.mk out24.a0 out24.a1 (w64 (out24.a2 + ra24)) out24.a3 out24.a4 out24.a5))
      else
       if decide (x24.fA = 3) then
        some ((Ar6.mk out24.a0 out24.a1 out24.a2 (w64 (out24.a3 + ra24)) out24.a4 out24.a5))
       else
        if decide (x24.fA = 4) then
         some ((Ar6.mk out24.a0 out24.a1 out24.a2 out24.a3 (w64 (out24.a4 + ra24)) out24.a5))
        else
         if decide (x24.fA = 5) then
          some ((Ar6.mk out24.a0 out24.a1 out24.a2 out24.a3 out24.a4 (w64 (out24.a5 + ra24))))
         else
          none
   ) fun out27 =>
   if decide (x24.fB = 0) then
    some ((Ar6.mk (w64 (out27.a0 + rb24)) out27.a1 out27.a2 out27.a3 out27.a4 out27.a5))
   else
    if decide (x24.fB = 1) then
     some ((Ar6.mk out27.a0 (w64 (out27.a1 + rb24)) out27.a2 out27.a3 out27.a4 out27.a5))
    else
     if decide (x24.fB = 2) then
      some ((Ar6.mk out27.a0 out27.a1 (w64 (out27.a2 + rb24)) out27.a3 out27.a4 out27.a5))
     else
      if decide (x24.fB = 3) then
       some ((Ar6.mk out27.a0 out27.a1 out27.a2 (w64 (out27.a3 + rb24)) out27.a4 out27.a5))
      else
       if decide (x24.fB = 4) then
        some ((Ar6.mk out27.a0 out27.a1 out27.a2 out27.a3 (w64 (out27.a4 + rb24)) out27.a5))
       else
        if decide (x24.fB = 5) then
         some ((Ar6.mk out27.a0 out27.a1 out27.a2 out27.a3 out27.a4 (w64 (out27.a5 + rb24))))
        else
         none
  ) fun out26 =>
  rec3 ((v17, w64 (v18 + 1), out26))
 else
  some out24
def leagueLeagueSums (N : Nat) (l1 : LeagueLeague) : Option ((Ar6 Int)) :=
 Option.bind (
  loopN (fun rec3 x => leagueLeagueSums_b1 N l1 rec3 x.1 x.2.1 x.2.2) N (((l1.fGames.length : Int), 0, (Ar6.mk 0 0 0 0 0 0)))
 ) fun out14 =>
 some out14
def slicesCloneX0 (N : Nat)  : Option (Unit) :=
 some ()
def slicesCloneX1 (N : Nat) (s1 : List LeagueGame) : Option ((List LeagueGame)) :=
 Option.bind (app N ([]) s1) fun l2 =>
 some l2
def slicesCloneX (N : Nat) (l : List LeagueGame) : Option ((List LeagueGame)) := slicesCloneX1 N l
def leagueLeagueOpen1 (N : Nat) (g1 : LeagueGame) : Option (Bool) :=
 some (!g1.fOpen)
def slicesIndexFuncXXXXXXXX_k1 (N : Nat)   : Option (Int) :=
 some (-1)
def slicesIndexFuncXXXXXXXX_b2 (N : Nat) (l1 : List LeagueGame) (rec3 : (Int × Int) → Option (Int)) (v17 : Int) (v18 : Int) : Option (Int) :=
 if decide (v18 < v17) then
  Option.bind (idx l1 v18) fun x24 =>
  Option.bind (leagueLeagueOpen1 N x24) fun r24 =>
  if r24 then
   some v18
  else
   rec3 ((v17, w64 (v18 + 1)))
 else
  slicesIndexFuncXXXXXXXX_k1 N
def slicesIndexFuncXXXXXXXX (N : Nat) (l1 : List LeagueGame) : Option (Int) :=
 loopN (fun rec3 x => slicesIndexFuncXXXXXXXX_b2 N l1 rec3 x.1 x.2) N (((l1.length : Int), 0))
def slicesDeleteFunc_b1 (N : Nat)  (rec3 : (Int × Int × (List LeagueGame)) → Option (Int × (List LeagueGame))) (i14 : Int) (j10 : Int) (l15 : List LeagueGame) : Option (Int × (List LeagueGame)) :=
 if decide (j10 < (l15.length : Int)) then
  Option.bind (
   Option.bind (idx l15 j10) fun x46 =>
   Option.bind (leagueLeagueOpen1 N x46) fun r26 =>
   if !r26 then
    Option.bind (idx l15 i14) fun x48 =>
    some ((w64 (i14 + 1), (List.set l15 (Int.toNat i14) x46)))
   else
    some (i14, l15)
  ) fun (i15, l16) =>
  rec3 ((i15, w64 (j10 + 1), l16))
 else
  some (i14, l15)
def slicesDeleteFunc (N : Nat) (l1 : List LeagueGame) : Option ((List LeagueGame) × (List LeagueGame)) :=
 Option.bind (slicesIndexFuncXXXXXXXX N l1) fun r2 =>
 if decide (r2 = (-1)) then
  some (l1, l1)
 else
  Option.bind (
   loopN (fun rec3 x => slicesDeleteFunc_b1 N rec3 x.1 x.2.1 x.2.2) N ((r2, w64 (r2 + 1), l1))
  ) fun (i8, l9) =>
  Option.bind (slc l9 i8 (l9.length : Int)) fun l18 =>
  Option.bind (zro i8) fun _ =>
  Option.bind (slc ((List.replicate l9.length (LeagueGame.mk 0 0 0 0 false))) 0 i8) fun l20 =>
  some ((l20, (List.replicate l9.length (LeagueGame.mk 0 0 0 0 false))))
def leagueLeagueOpen (N : Nat) (l1 : LeagueLeague) : Option ((List LeagueGame)) :=
 Option.bind (slicesCloneX N l1.fGames) fun r2 =>
 Option.bind (slicesDeleteFunc N r2) fun (ra2, rb2) =>
 some ra2
def leagueLeagueRace_b1 (N : Nat) (r4 : List LeagueGame) (rec3 : (Int) → Option (Unit)) (v10 : Int) : Option (Unit) :=
 if decide (0 < v10) then
  Option.bind (idx r4 0) fun x24 =>
  none
 else
  some ()
def leagueLeagueRace (N : Nat) (l1 : LeagueLeague) (team1 : Int) : Option (Int × Int × Int × Int × Int × Int × Int × Int × (List LeagueGame)) :=
 Option.bind (leagueLeagueSums N l1) fun r3 =>
 Option.bind (leagueLeagueOpen N l1) fun r4 =>
 Option.bind (
  if decide (team1 = 0) then
   some r3.a0
  else
   if decide (team1 = 1) then
    some r3.a1
   else
    if decide (team1 = 2) then
     some r3.a2
    else
     if decide (team1 = 3) then
      some r3.a3
     else
      if decide (team1 = 4) then
       some r3.a4
      else
       if decide (team1 = 5) then
        some r3.a5
       else
        none
 ) fun c1 =>
 Option.bind (
  loopN (fun rec3 x => leagueLeagueRace_b1 N r4 rec3 x) N (r4.length : Int)
 ) fun _ =>
 some (team1, c1, r3.a0, r3.a1, r3.a2, r3.a3, r3.a4, r3.a5, r4)
def leagueRaceRuns_b1 (N : Nat) (c9 : List LeagueGame) (rec3 : (Int) → Option (Unit)) (v10 : Int) : Option (Unit) :=
 if decide (0 < v10) then
  Option.bind (idx c9 0) fun x24 =>
  none
 else
  some ()
def leagueRaceRuns_b2 (N : Nat) (c1 : Int) (c2 : Int) (c3 : Int) (rec17 : (Unit) → Option (Unit))  : Option (Unit) :=
 Option.bind (
  if !decide (0 = c1) then
   some (decide (c2 < c3))
  else
   some false
 ) fun v66 =>
 if v66 then
  none
 else
  some ()
def leagueRaceRuns_b3 (N : Nat) (c1 : Int) (c2 : Int) (c4 : Int) (rec19 : (Unit) → Option (Unit))  : Option (Unit) :=
 Option.bind (
  if !decide (1 = c1) then
   some (decide (c2 < c4))
  else
   some false
 ) fun v74 =>
 if v74 then
  none
 else
  some ()
def leagueRaceRuns_b4 (N : Nat) (c1 : Int) (c2 : Int) (c5 : Int) (rec21 : (Unit) → Option (Unit))  : Option (Unit) :=
 Option.bind (
  if !decide (2 = c1) then
   some (decide (c2 < c5))
  else
   some false
 ) fun v82 =>
 if v82 then
  none
 else
  some ()
def leagueRaceRuns_b5 (N : Nat) (c1 : Int) (c2 : Int) (c6 : Int) (rec23 : (Unit) → Option (Unit))  : Option (Unit) :=
 Option.bind (
  if !decide (3 = c1) then
   some (decide (c2 < c6))
  else
   some false
 ) fun v90 =>
 if v90 then
  none
 else
  some ()
def leagueRaceRuns_b6 (N : Nat) (c1 : Int) (c2 : Int) (c7 : Int) (rec25 : (Unit) → Option (Unit))  : Option (Unit) :=
 Option.bind (
  if !decide (4 = c1) then
   some (decide (c2 < c7))
  else
   some false
 ) fun v98 =>
 if v98 then
  none
 else
  some ()
def leagueRaceRuns_b7 (N : Nat) (c1 : Int) (c2 : Int) (c8 : Int) (rec27 : (Unit) → Option (Unit))  : Option (Unit) :=
 Option.bind (
  if !decide (5 = c1) then
   some (decide (c2 < c8))
  else
   some false
 ) fun v106 =>
 if v106 then
  none
 else
  some ()
def leagueRaceRuns (N : Nat) (c1 : Int) (c2 : Int) (c3 : Int) (c4 : Int) (c5 : Int) (c6 : Int) (c7 : Int) (c8 : Int) (c9 : List LeagueGame) : Option (Bool × Int × Int × Int × Int × Int × Int × Int × Int × (List LeagueGame) × (List Int)) :=
 if decide (c2 < c3) then
  none
 else
  if decide (c2 < c4) then
   none
  else
   if decide (c2 < c5) then
    none
   else
    if decide (c2 < c6) then
     none
    else
     if decide (c2 < c7) then
      none
     else
      if decide (c2 < c8) then
       none
      else
       Option.bind (mkl N (c9.length : Int) 0) fun l2 =>
       Option.bind (
        loopN (fun rec3 x => leagueRaceRuns_b1 N c9 rec3 x) N (c9.length : Int)
       ) fun _ =>
       Option.bind (
        loopN (fun rec17 x => leagueRaceRuns_b2 N c1 c2 c3 rec17) N ()
       ) fun _ =>
       Option.bind (
        loopN (fun rec19 x => leagueRaceRuns_b3 N c1 c2 c4 rec19) N ()
       ) fun _ =>
       Option.bind (
        loopN (fun rec21 x => leagueRaceRuns_b4 N c1 c2 c5 rec21) N ()
       ) fun _ =>
       Option.bind (
        loopN (fun rec23 x => leagueRaceRuns_b5 N c1 c2 c6 rec23) N ()
       ) fun _ =>
       Option.bind (
        loopN (fun rec25 x => leagueRaceRuns_b6 N c1 c2 c7 rec25) N ()
       ) fun _ =>
       Option.bind (
        loopN (fun rec27 x => leagueRaceRuns_b7 N c1 c2 c8 rec27) N ()
       ) fun _ =>
       some (true, c1, c2, c3, c4, c5, c6, c7, c8, c9, l2)
def leagueCanFirst (N : Nat) (l1 : LeagueLeague) (team1 : Int) : Option (Bool × Int) :=
 Option.bind (leagueLeagueAsked N l1 team1) fun r4 =>
 if !decide (r4 = 0) then
  none
 else
  Option.bind (leagueLeagueRace N l1 team1) fun (ra3, rb3, rc3, rd3, re3, rf3, rg3, rh3, ri3) =>
  Option.bind (leagueRaceRuns N ra3 rb3 rc3 rd3 re3 rf3 rg3 rh3 ri3) fun (ra4, rb4, rc4, rd4, re4, rf4, rg4, rh4, ri4, rj2, rk2) =>
  some (ra4, 0)
end
end Go.Proofs.YtignpdbcgjllkaaGreat
