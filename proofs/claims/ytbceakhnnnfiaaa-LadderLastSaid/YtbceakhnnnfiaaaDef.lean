/-
  The functions of the program and of the document, typed, by fuel; printed by a program off the translation. No program in sight.
-/
import Derived.Test.YtbceakhnnnfiaaaPre
namespace Go.Proofs.Ytbceakhnnnfiaaa
open Go.Kp
set_option linter.all false
noncomputable section
structure Ref09Result where
  fMatch : Int
  fGames : List Int
  fProtested : Bool
  deriving DecidableEq
structure Ref09Cup where
  fForm : Int
  fPlayers : Int
  fGames : Int
  fResults : List Ref09Result
  deriving DecidableEq
structure Ref09Side where
  fPlayer : Int
  fMatch : Int
  deriving DecidableEq
structure Ref09Pair where
  fFirst : Ref09Side
  fSecond : Ref09Side
  deriving DecidableEq
structure LadderResult where
  fMatch : Int
  fGames : List Int
  fProtested : Bool
  deriving DecidableEq
structure LadderCup where
  fForm : Int
  fPlayers : Int
  fGames : Int
  fResults : List LadderResult
  deriving DecidableEq
structure LadderMatch where
  fNumber : Int
  fFirst : Int
  fSecond : Int
  fWon : Int
  fLost : Int
  deriving DecidableEq
structure LadderSide where
  fPlayer : Int
  fMatch : Int
  deriving DecidableEq
structure LadderPair where
  fFirst : LadderSide
  fSecond : LadderSide
  deriving DecidableEq
structure LadderSideT125 where
  fOf : Unit
  deriving DecidableEq
structure LadderSpot where
  fMatch : Int
  fPlayer : Int
  deriving DecidableEq
structure LadderCheapest where
  fUpsets : Int
  fOther : Int
  deriving DecidableEq
structure Ref09Match where
  fNumber : Int
  fFirst : Int
  fSecond : Int
  fWon : Int
  fLost : Int
  deriving DecidableEq
def law09Thin_k1 (N : Nat) (c1 : Ref09Cup)  : Option (Bool) :=
  some (decide ((c1.fResults.length : Int) ≤ 20))
def law09Thin_b2 (N : Nat) (c1 : Ref09Cup) (rec3 : (Int) → Option (Bool)) (i8 : Int) : Option (Bool) :=
  Option.bind (
    if decide (i8 < (c1.fResults.length : Int)) then
      some (decide (i8 < 21))
    else
      some false
  ) fun v12 =>
  if v12 then
    Option.bind (idx c1.fResults i8) fun x24 =>
    if decide (8 < (x24.fGames.length : Int)) then
      some false
    else
      rec3 (w64 (i8 + 1))
  else
    law09Thin_k1 N c1
def law09Thin (N : Nat) (c1 : Ref09Cup) : Option (Bool) :=
  loopN (fun rec3 x => law09Thin_b2 N c1 rec3 x) N 0
def ref09In (N : Nat) (n1 : Int) (low1 : Int) (high1 : Int) : Option (Bool) :=
  Option.bind (
    if decide (low1 ≤ n1) then
      some (decide (n1 ≤ high1))
    else
      some false
  ) fun v1 =>
  some v1
def ref09IsForm (N : Nat) (c1 : Ref09Cup) : Option (Bool) :=
  Option.bind (
    if decide (c1.fForm ≤ 1) then
      Option.bind (ref09In N c1.fPlayers 2 16) fun r2 =>
      if r2 then
        if decide (c1.fGames = 1) then
          some true
        else
          if decide (c1.fGames = 3) then
            some true
          else
            some (decide (c1.fGames = 5))
      else
        some false
    else
      some false
  ) fun v1 =>
  some v1
def ref09Order_b1 (N : Nat) (l114 : List Int) (rec15 : (Int × (List Int)) → Option ((List Int))) (i48 : Int) (l133 : List Int) : Option ((List Int)) :=
  if decide (i48 < (l114.length : Int)) then
    Option.bind (idx l114 i48) fun x72 =>
    Option.bind (app N l133 ([x72, w64 ((w64 ((w64 (2 * (l114.length : Int))) - 1)) - x72)])) fun l135 =>
    rec15 ((w64 (i48 + 1), l135))
  else
    some l133
def ref09Order_k2 (N : Nat) (l114 : List Int) (rec13 : ((List Int)) → Option ((List Int)))  : Option ((List Int)) :=
  Option.bind (
    loopN (fun rec15 x => ref09Order_b1 N l114 rec15 x.1 x.2) N (0, [])
  ) fun l125 =>
  rec13 l125
def ref09Order_b3 (N : Nat) (places1 : Int) (rec13 : ((List Int)) → Option ((List Int))) (l114 : List Int) : Option ((List Int)) :=
  if decide ((l114.length : Int) < places1) then
    ref09Order_k2 N l114 rec13
  else
    some l114
def ref09Order (N : Nat) (places1 : Int) : Option ((List Int)) :=
  Option.bind (
    loopN (fun rec13 x => ref09Order_b3 N places1 rec13 x) N ([0])
  ) fun l68 =>
  some l68
def ref09Tree_k1 (N : Nat) (places9 : Int) (rec5 : (Int) → Option (Int))  : Option (Int) :=
  rec5 (w64 (places9 * 2))
def ref09Tree_b2 (N : Nat) (c1 : Ref09Cup) (rec5 : (Int) → Option (Int)) (places9 : Int) : Option (Int) :=
  if decide (places9 < c1.fPlayers) then
    ref09Tree_k1 N places9 rec5
  else
    some places9
def ref09Tree_b3 (N : Nat) (c1 : Ref09Cup) (places5 : Int) (r2 : List Int) (rec7 : (Int × (List Ref09Side) × (List Bool)) → Option ((List Ref09Side) × (List Bool))) (i8 : Int) (l68 : List Ref09Side) (l69 : List Bool) : Option ((List Ref09Side) × (List Bool)) :=
  if decide (i8 < places5) then
    Option.bind (
      Option.bind (idx r2 i8) fun x12 =>
      Option.bind (app N l68 ([(Ref09Side.mk x12 (-1))])) fun l74 =>
      Option.bind (app N l69 ([decide (x12 < c1.fPlayers)])) fun l75 =>
      some (l74, l75)
    ) fun (l72, l73) =>
    rec7 ((w64 (i8 + 1), l72, l73))
  else
    some (l68, l69)
def ref09Tree_b4 (N : Nat) (l1164 : List Ref09Side) (l1165 : List Bool) (rec21 : (Int × (List Ref09Pair) × (List Ref09Side) × (List Bool)) → Option ((List Ref09Pair) × (List Ref09Side) × (List Bool))) (i56 : Int) (l1345 : List Ref09Pair) (l1346 : List Ref09Side) (l1347 : List Bool) : Option ((List Ref09Pair) × (List Ref09Side) × (List Bool)) :=
  if decide (i56 < (l1164.length : Int)) then
    Option.bind (
      Option.bind (
        Option.bind (
          Option.bind (idx l1165 i56) fun x1587 =>
          if x1587 then
            Option.bind (idx l1165 (w64 (i56 + 1))) fun x1588 =>
            some x1588
          else
            some false
        ) fun v144 =>
        if v144 then
          Option.bind (app N l1346 ([(Ref09Side.mk (-1) (l1345.length : Int))])) fun l1373 =>
          Option.bind (idx l1164 i56) fun x1589 =>
          Option.bind (idx l1164 (w64 (i56 + 1))) fun x1590 =>
          Option.bind (app N l1345 ([(Ref09Pair.mk x1589 x1590)])) fun l1374 =>
          some (l1374, l1373)
        else
          Option.bind (idx l1165 i56) fun x1592 =>
          if x1592 then
            Option.bind (idx l1164 i56) fun x1593 =>
            Option.bind (app N l1346 ([x1593])) fun l1375 =>
            some (l1345, l1375)
          else
            Option.bind (idx l1164 (w64 (i56 + 1))) fun x1594 =>
            Option.bind (app N l1346 ([x1594])) fun l1376 =>
            some (l1345, l1376)
      ) fun (l1370, l1371) =>
      Option.bind (idx l1165 i56) fun x1595 =>
      if x1595 then
        Option.bind (app N l1347 ([true])) fun l1378 =>
        some (l1370, l1371, l1378)
      else
        Option.bind (idx l1165 (w64 (i56 + 1))) fun x1596 =>
        Option.bind (app N l1347 ([x1596])) fun l1377 =>
        some (l1370, l1371, l1377)
    ) fun (l1362, l1363, l1364) =>
    rec21 ((w64 (i56 + 2), l1362, l1363, l1364))
  else
    some (l1345, l1346, l1347)
def ref09Tree_k5 (N : Nat) (l1163 : List Ref09Pair) (l1164 : List Ref09Side) (l1165 : List Bool) (rec19 : ((List Ref09Pair) × (List Ref09Side) × (List Bool)) → Option ((List Ref09Pair)))  : Option ((List Ref09Pair)) :=
  Option.bind (
    loopN (fun rec21 x => ref09Tree_b4 N l1164 l1165 rec21 x.1 x.2.1 x.2.2.1 x.2.2.2) N (0, l1163, [], [])
  ) fun (l1271, l1272, l1273) =>
  rec19 (l1271, l1272, l1273)
def ref09Tree_b6 (N : Nat)  (rec19 : ((List Ref09Pair) × (List Ref09Side) × (List Bool)) → Option ((List Ref09Pair))) (l1163 : List Ref09Pair) (l1164 : List Ref09Side) (l1165 : List Bool) : Option ((List Ref09Pair)) :=
  if decide (1 < (l1164.length : Int)) then
    ref09Tree_k5 N l1163 l1164 l1165 rec19
  else
    some l1163
def ref09Tree_k7 (N : Nat) (c1 : Ref09Cup)  : Option ((List Ref09Pair)) :=
  Option.bind (
    loopN (fun rec5 x => ref09Tree_b2 N c1 rec5 x) N 1
  ) fun places5 =>
  Option.bind (ref09Order N places5) fun r2 =>
  Option.bind (
    loopN (fun rec7 x => ref09Tree_b3 N c1 places5 r2 rec7 x.1 x.2.1 x.2.2) N (0, [], [])
  ) fun (l48, l49) =>
  Option.bind (
    loopN (fun rec19 x => ref09Tree_b6 N rec19 x.1 x.2.1 x.2.2) N ([], l48, l49)
  ) fun l727 =>
  some l727
def ref09Tree_b8 (N : Nat) (c1 : Ref09Cup) (rec23 : (Int × (List Ref09Pair)) → Option ((List Ref09Pair))) (n37 : Int) (l1397 : List Ref09Pair) : Option ((List Ref09Pair)) :=
  if decide (n37 < (w64 (c1.fPlayers - 1))) then
    Option.bind (
      if decide (n37 = 0) then
        some ((Ref09Side.mk (w64 (c1.fPlayers - 1)) (-1)))
      else
        some ((Ref09Side.mk (-1) (w64 (n37 - 1))))
    ) fun second24 =>
    Option.bind (app N l1397 ([(Ref09Pair.mk (Ref09Side.mk (w64 ((w64 (c1.fPlayers - 2)) - n37)) (-1)) second24)])) fun l1399 =>
    rec23 ((w64 (n37 + 1), l1399))
  else
    some l1397
def ref09Tree (N : Nat) (c1 : Ref09Cup) : Option ((List Ref09Pair)) :=
  if decide (c1.fForm = 1) then
    Option.bind (
      loopN (fun rec23 x => ref09Tree_b8 N c1 rec23 x.1 x.2) N (0, [])
    ) fun l1389 =>
    some l1389
  else
    ref09Tree_k7 N c1
def ref09Find_k1 (N : Nat)   : Option (Int) :=
  some (-1)
def ref09Find_b2 (N : Nat) (c1 : Ref09Cup) (match1 : Int) (rec3 : (Int) → Option (Int)) (i8 : Int) : Option (Int) :=
  if decide (i8 < (c1.fResults.length : Int)) then
    Option.bind (idx c1.fResults i8) fun x24 =>
    if decide (x24.fMatch = match1) then
      some i8
    else
      rec3 (w64 (i8 + 1))
  else
    ref09Find_k1 N
def ref09Find (N : Nat) (c1 : Ref09Cup) (match1 : Int) : Option (Int) :=
  loopN (fun rec3 x => ref09Find_b2 N c1 match1 rec3 x) N 0
def ref09Wins_b1 (N : Nat) (games1 : List Int) (player1 : Int) (rec3 : (Int × Int) → Option (Int)) (n15 : Int) (i8 : Int) : Option (Int) :=
  if decide (i8 < (games1.length : Int)) then
    Option.bind (
      Option.bind (idx games1 i8) fun x24 =>
      if decide (x24 = player1) then
        some (w64 (n15 + 1))
      else
        some n15
    ) fun n17 =>
    rec3 ((n17, w64 (i8 + 1)))
  else
    some n15
def ref09Wins (N : Nat) (games1 : List Int) (player1 : Int) : Option (Int) :=
  Option.bind (
    loopN (fun rec3 x => ref09Wins_b1 N games1 player1 rec3 x.1 x.2) N (0, 0)
  ) fun n9 =>
  some n9
def ref09Decided_k1 (N : Nat)   : Option (Int) :=
  some (-1)
def ref09Decided_b2 (N : Nat) (c1 : Ref09Cup) (games1 : List Int) (rec3 : (Int) → Option (Int)) (i8 : Int) : Option (Int) :=
  if decide (i8 < (games1.length : Int)) then
    Option.bind (idx games1 i8) fun x24 =>
    Option.bind (ref09Wins N games1 x24) fun r24 =>
    if decide (c1.fGames < (w64 (2 * r24))) then
      some x24
    else
      rec3 (w64 (i8 + 1))
  else
    ref09Decided_k1 N
def ref09Decided (N : Nat) (c1 : Ref09Cup) (games1 : List Int) : Option (Int) :=
  loopN (fun rec3 x => ref09Decided_b2 N c1 games1 rec3 x) N 0
def ref09Won (N : Nat) (c1 : Ref09Cup) (match1 : Int) : Option (Int) :=
  Option.bind (ref09Find N c1 match1) fun r2 =>
  if decide (r2 < 0) then
    some (-1)
  else
    Option.bind (idx c1.fResults r2) fun x2 =>
    Option.bind (ref09Decided N c1 x2.fGames) fun r4 =>
    some r4
def ref09Known (N : Nat) (c1 : Ref09Cup) (s1 : Ref09Side) : Option (Int) :=
  if decide (s1.fMatch < 0) then
    some s1.fPlayer
  else
    Option.bind (ref09Won N c1 s1.fMatch) fun r2 =>
    some r2
def ref09Lawful_k1 (N : Nat)   : Option (Bool) :=
  some true
def ref09Lawful_b2 (N : Nat) (c1 : Ref09Cup) (r1 : Ref09Result) (r4 : Int) (r5 : Int) (rec3 : (Int) → Option (Bool)) (i8 : Int) : Option (Bool) :=
  if decide (i8 < (r1.fGames.length : Int)) then
    Option.bind (
      Option.bind (idx r1.fGames i8) fun x26 =>
      if !decide (x26 = r4) then
        if !decide (x26 = r5) then
          some true
        else
          Option.bind (slc r1.fGames 0 i8) fun l47 =>
          Option.bind (ref09Decided N c1 l47) fun r52 =>
          some (decide (0 ≤ r52))
      else
        Option.bind (slc r1.fGames 0 i8) fun l48 =>
        Option.bind (ref09Decided N c1 l48) fun r53 =>
        some (decide (0 ≤ r53))
    ) fun v14 =>
    if v14 then
      some false
    else
      rec3 (w64 (i8 + 1))
  else
    ref09Lawful_k1 N
def ref09Lawful (N : Nat) (c1 : Ref09Cup) (tree1 : List Ref09Pair) (r1 : Ref09Result) : Option (Bool) :=
  Option.bind (idx tree1 r1.fMatch) fun x2 =>
  Option.bind (ref09Known N c1 x2.fFirst) fun r4 =>
  Option.bind (ref09Known N c1 x2.fSecond) fun r5 =>
  Option.bind (
    if decide (r4 < 0) then
      some true
    else
      some (decide (r5 < 0))
  ) fun v2 =>
  if v2 then
    some false
  else
    loopN (fun rec3 x => ref09Lawful_b2 N c1 r1 r4 r5 rec3 x) N 0
def ref09Fault_k1 (N : Nat)   : Option (Int) :=
  some 0
def ref09Fault_b2 (N : Nat) (c1 : Ref09Cup) (r18 : List Ref09Pair) (rec10 : (Int) → Option (Int)) (i20 : Int) : Option (Int) :=
  if decide (i20 < (c1.fResults.length : Int)) then
    Option.bind (idx c1.fResults i20) fun x144 =>
    Option.bind (ref09Lawful N c1 r18 x144) fun r42 =>
    if !r42 then
      some 10
    else
      rec10 (w64 (i20 + 1))
  else
    ref09Fault_k1 N
def ref09Fault_k3 (N : Nat) (c1 : Ref09Cup)  : Option (Int) :=
  Option.bind (ref09Tree N c1) fun r18 =>
  loopN (fun rec10 x => ref09Fault_b2 N c1 r18 rec10 x) N 0
def ref09Fault_k4 (N : Nat) (i24 : Int) (rec13 : (Int) → Option (Int))  : Option (Int) :=
  rec13 (w64 (i24 + 1))
def ref09Fault_b5 (N : Nat) (c1 : Ref09Cup) (i24 : Int) (rec13 : (Int) → Option (Int)) (rec15 : (Int) → Option (Int)) (k32 : Int) : Option (Int) :=
  if decide (k32 < i24) then
    Option.bind (idx c1.fResults i24) fun x239 =>
    Option.bind (idx c1.fResults k32) fun x240 =>
    if decide (x239.fMatch = x240.fMatch) then
      some 6
    else
      rec15 (w64 (k32 + 1))
  else
    ref09Fault_k4 N i24 rec13
def ref09Fault_b6 (N : Nat) (c1 : Ref09Cup) (rec13 : (Int) → Option (Int)) (i24 : Int) : Option (Int) :=
  if decide (i24 < (c1.fResults.length : Int)) then
    loopN (fun rec15 x => ref09Fault_b5 N c1 i24 rec13 rec15 x) N 0
  else
    ref09Fault_k3 N c1
def ref09Fault_k7 (N : Nat) (c1 : Ref09Cup)  : Option (Int) :=
  loopN (fun rec13 x => ref09Fault_b6 N c1 rec13 x) N 0
def ref09Fault_b8 (N : Nat) (c1 : Ref09Cup) (rec16 : (Int) → Option (Int)) (i28 : Int) : Option (Int) :=
  if decide (i28 < (c1.fResults.length : Int)) then
    Option.bind (
      Option.bind (idx c1.fResults i28) fun x252 =>
      Option.bind (ref09In N x252.fMatch 0 (w64 (c1.fPlayers - 2))) fun r54 =>
      if !r54 then
        some true
      else
        some (decide ((x252.fGames.length : Int) = 0))
    ) fun v12 =>
    if v12 then
      some 1
    else
      rec16 (w64 (i28 + 1))
  else
    ref09Fault_k7 N c1
def ref09Fault_k9 (N : Nat) (c1 : Ref09Cup)  : Option (Int) :=
  Option.bind (ref09IsForm N c1) fun r4 =>
  if !r4 then
    some 1
  else
    loopN (fun rec16 x => ref09Fault_b8 N c1 rec16 x) N 0
def ref09Fault_b10 (N : Nat) (c1 : Ref09Cup) (rec17 : (Int) → Option (Int)) (i32 : Int) : Option (Int) :=
  if decide (i32 < (c1.fResults.length : Int)) then
    Option.bind (idx c1.fResults i32) fun x264 =>
    if decide (5 < (x264.fGames.length : Int)) then
      some 3
    else
      rec17 (w64 (i32 + 1))
  else
    ref09Fault_k9 N c1
def ref09Fault (N : Nat) (c1 : Ref09Cup) : Option (Int) :=
  if decide (15 < (c1.fResults.length : Int)) then
    some 3
  else
    loopN (fun rec17 x => ref09Fault_b10 N c1 rec17 x) N 0
def law09Result (N : Nat) (match1 : Int) (protested1 : Bool) (games1 : List Int) : Option (LadderResult) :=
  some (LadderResult.mk match1 games1 protested1)
def law09Five (N : Nat) (results1 : List LadderResult) : Option (LadderCup) :=
  some (LadderCup.mk 0 5 3 results1)
def ladderCupDraw1 (N : Nat) (r1 : LadderResult) : Option (Bool) :=
  some (decide ((r1.fGames.length : Int) ≤ 5))
def ladderAll1 (N : Nat) (x1 : LadderResult) : Option (Bool) :=
  Option.bind (ladderCupDraw1 N x1) fun r2 =>
  some (!r2)
def slicesIndexFunc_k1 (N : Nat)   : Option (Int) :=
  some (-1)
def slicesIndexFunc_b2 (N : Nat) (s1 : List LadderResult) (rec3 : (Int × Int) → Option (Int)) (v17 : Int) (v18 : Int) : Option (Int) :=
  if decide (v18 < v17) then
    Option.bind (idx s1 v18) fun x24 =>
    Option.bind (ladderAll1 N x24) fun r24 =>
    if r24 then
      some v18
    else
      rec3 ((v17, w64 (v18 + 1)))
  else
    slicesIndexFunc_k1 N
def slicesIndexFunc (N : Nat) (s1 : List LadderResult) : Option (Int) :=
  loopN (fun rec3 x => slicesIndexFunc_b2 N s1 rec3 x.1 x.2) N (((s1.length : Int), 0))
def slicesContainsFunc (N : Nat) (s1 : List LadderResult) : Option (Bool) :=
  Option.bind (slicesIndexFunc N s1) fun r2 =>
  some (decide (0 ≤ r2))
def ladderAll (N : Nat) (l1 : List LadderResult) : Option (Bool) :=
  Option.bind (slicesContainsFunc N l1) fun r2 =>
  some (!r2)
def ladderWithin (N : Nat) (n1 : Int) (low1 : Int) (high1 : Int) : Option (Bool) :=
  Option.bind (
    if decide (low1 ≤ n1) then
      some (decide (n1 ≤ high1))
    else
      some false
  ) fun v1 =>
  some v1
def ladderCupCheck (N : Nat) (c1 : LadderCup) : Option (Int) :=
  Option.bind (
    if decide (1 < c1.fForm) then
      some true
    else
      Option.bind (ladderWithin N c1.fPlayers 2 16) fun r7 =>
      if !r7 then
        some true
      else
        Option.bind (ladderWithin N c1.fGames 1 5) fun r8 =>
        if !r8 then
          some true
        else
          some (decide ((Int.tmod c1.fGames 2) = 0))
  ) fun v2 =>
  if v2 then
    some 1
  else
    some 0
def ladderCupDraw2 (N : Nat) (r1 : LadderResult) (a1 : LadderCup) : Option (Bool) :=
  Option.bind (
    Option.bind (ladderWithin N r1.fMatch 0 (w64 (a1.fPlayers - 2))) fun r3 =>
    if r3 then
      some (decide (0 < (r1.fGames.length : Int)))
    else
      some false
  ) fun v1 =>
  some v1
def ladderAll1X (N : Nat) (x1 : LadderResult) (a1 : LadderCup) : Option (Bool) :=
  Option.bind (ladderCupDraw2 N x1 a1) fun r2 =>
  some (!r2)
def slicesIndexFuncX_k1 (N : Nat)   : Option (Int) :=
  some (-1)
def slicesIndexFuncX_b2 (N : Nat) (s1 : List LadderResult) (f1 : LadderCup) (rec3 : (Int × Int) → Option (Int)) (v17 : Int) (v18 : Int) : Option (Int) :=
  if decide (v18 < v17) then
    Option.bind (idx s1 v18) fun x24 =>
    Option.bind (ladderAll1X N x24 f1) fun r24 =>
    if r24 then
      some v18
    else
      rec3 ((v17, w64 (v18 + 1)))
  else
    slicesIndexFuncX_k1 N
def slicesIndexFuncX (N : Nat) (s1 : List LadderResult) (f1 : LadderCup) : Option (Int) :=
  loopN (fun rec3 x => slicesIndexFuncX_b2 N s1 f1 rec3 x.1 x.2) N (((s1.length : Int), 0))
def slicesContainsFuncX (N : Nat) (s1 : List LadderResult) (f1 : LadderCup) : Option (Bool) :=
  Option.bind (slicesIndexFuncX N s1 f1) fun r2 =>
  some (decide (0 ≤ r2))
def ladderAllX (N : Nat) (l1 : List LadderResult) (right1 : LadderCup) : Option (Bool) :=
  Option.bind (slicesContainsFuncX N l1 right1) fun r2 =>
  some (!r2)
def ladderPlayer (N : Nat) (n1 : Int) : Option (LadderSide) :=
  some ((LadderSide.mk n1 (-1)))
def ladderWinner (N : Nat) (n1 : Int) : Option (LadderSide) :=
  some ((LadderSide.mk (-1) n1))
def ladderCupLadder_b1 (N : Nat)  (rec3 : (Int × Int × (List LadderPair)) → Option ((List LadderPair))) (last10 : Int) (n9 : Int) (l21 : List LadderPair) : Option ((List LadderPair)) :=
  if decide (n9 < last10) then
    Option.bind (ladderPlayer N (w64 ((w64 (last10 - 1)) - n9))) fun r27 =>
    Option.bind (ladderWinner N (w64 (n9 - 1))) fun r28 =>
    Option.bind (app N l21 ([(LadderPair.mk r27 r28)])) fun l23 =>
    rec3 ((last10, w64 (n9 + 1), l23))
  else
    some l21
def ladderCupLadder (N : Nat) (c1 : LadderCup) : Option ((List LadderPair)) :=
  Option.bind (ladderPlayer N (w64 ((w64 (c1.fPlayers - 1)) - 1))) fun r3 =>
  Option.bind (ladderPlayer N (w64 (c1.fPlayers - 1))) fun r4 =>
  Option.bind (
    loopN (fun rec3 x => ladderCupLadder_b1 N rec3 x.1 x.2.1 x.2.2) N ((w64 (c1.fPlayers - 1), 1, [(LadderPair.mk r3 r4)]))
  ) fun l12 =>
  some l12
def ladderCupOrder1_b1 (N : Nat) (l1 : List Int) (rec3 : (Int × Int × (List Int)) → Option ((List Int))) (v17 : Int) (v18 : Int) (l20 : List Int) : Option ((List Int)) :=
  if decide (v18 < v17) then
    Option.bind (idx l1 v18) fun x24 =>
    Option.bind (app N l20 ([x24, w64 ((w64 ((w64 (2 * (l1.length : Int))) - 1)) - x24)])) fun l22 =>
    rec3 ((v17, w64 (v18 + 1), l22))
  else
    some l20
def ladderCupOrder1_f (N : Nat) (rec1 : ((List Int) × LadderCup × LadderCup) → Option ((List Int))) (l1 : List Int) (a1 : LadderCup) (c1 : LadderCup) : Option ((List Int)) :=
  if decide (a1.fPlayers ≤ (l1.length : Int)) then
    some l1
  else
    Option.bind (
      loopN (fun rec3 x => ladderCupOrder1_b1 N l1 rec3 x.1 x.2.1 x.2.2) N (((l1.length : Int), 0, []))
    ) fun l12 =>
    Option.bind (rec1 (l12, c1, c1)) fun r2 =>
    some r2
def ladderCupOrder1 (N : Nat) (l1 : List Int) (a1 : LadderCup) (c1 : LadderCup) : Option ((List Int)) :=
  loopN (fun rr x => ladderCupOrder1_f N rr x.1 x.2.1 x.2.2) N (l1, a1, c1)
def ladderCupOrder (N : Nat) (c1 : LadderCup) : Option ((List Int)) :=
  Option.bind (ladderCupOrder1 N ([0]) c1 c1) fun r2 =>
  some r2
def slicesChunk (N : Nat) (s1 : List LadderSide) (n1 : Int) : Option ((List LadderSide) × Int) :=
  if decide (n1 < 1) then
    none
  else
    some (s1, n1)
def ladderCupBracket_b1 (N : Nat) (c1 : LadderCup) (r16 : List Int) (rec3 : (Int × Int × (List LadderSide)) → Option ((List LadderSide))) (v17 : Int) (v18 : Int) (l19 : List LadderSide) : Option ((List LadderSide)) :=
  if decide (v18 < v17) then
    Option.bind (idx r16 v18) fun x24 =>
    Option.bind (
      if decide (x24 < c1.fPlayers) then
        Option.bind (ladderPlayer N x24) fun r28 =>
        some r28
      else
        some ((LadderSide.mk (-1) (-1)))
    ) fun side12 =>
    Option.bind (app N l19 ([side12])) fun l21 =>
    rec3 ((v17, w64 (v18 + 1), l21))
  else
    some l19
def ladderCupBracket_b2 (N : Nat) (ra24 : List LadderSide) (rb24 : Int) (rec17 : (Int × (List LadderPair) × (List LadderSide)) → Option ((List LadderPair) × (List LadderSide))) (sides48 : Int) (l1265 : List LadderPair) (l1266 : List LadderSide) : Option ((List LadderPair) × (List LadderSide)) :=
  if decide (sides48 < (ra24.length : Int)) then
    Option.bind (slc ra24 sides48 (ra24.length : Int)) fun l1284 =>
    Option.bind (
      Option.bind (slc ra24 sides48 (w64 (sides48 + (min rb24 (l1284.length : Int))))) fun l1293 =>
      Option.bind (idx l1293 0) fun x741 =>
      if decide (((LadderSide.mk (-1) (-1))) = x741) then
        Option.bind (idx l1293 1) fun x742 =>
        Option.bind (app N l1266 ([x742])) fun l1294 =>
        some (l1265, l1294)
      else
        Option.bind (idx l1293 1) fun x744 =>
        if decide (((LadderSide.mk (-1) (-1))) = x744) then
          Option.bind (app N l1266 ([x741])) fun l1295 =>
          some (l1265, l1295)
        else
          Option.bind (ladderWinner N (l1265.length : Int)) fun r316 =>
          Option.bind (app N l1266 ([r316])) fun l1297 =>
          Option.bind (app N l1265 ([(LadderPair.mk x741 x744)])) fun l1298 =>
          some (l1298, l1297)
    ) fun (l1291, l1292) =>
    rec17 ((w64 (sides48 + rb24), l1291, l1292))
  else
    some (l1265, l1266)
def ladderCupBracket_k3 (N : Nat) (l1087 : List LadderSide) (l1088 : List LadderPair) (rec15 : ((List LadderSide) × (List LadderPair)) → Option ((List LadderPair)))  : Option ((List LadderPair)) :=
  Option.bind (
    Option.bind (slicesChunk N l1087 2) fun (ra24, rb24) =>
    loopN (fun rec17 x => ladderCupBracket_b2 N ra24 rb24 rec17 x.1 x.2.1 x.2.2) N (0, l1088, [])
  ) fun (l1193, l1194) =>
  rec15 (l1194, l1193)
def ladderCupBracket_b4 (N : Nat)  (rec15 : ((List LadderSide) × (List LadderPair)) → Option ((List LadderPair))) (l1087 : List LadderSide) (l1088 : List LadderPair) : Option ((List LadderPair)) :=
  if decide (1 < (l1087.length : Int)) then
    ladderCupBracket_k3 N l1087 l1088 rec15
  else
    some l1088
def ladderCupBracket (N : Nat) (c1 : LadderCup) : Option ((List LadderPair)) :=
  Option.bind (
    Option.bind (ladderCupOrder N c1) fun r16 =>
    loopN (fun rec3 x => ladderCupBracket_b1 N c1 r16 rec3 x.1 x.2.1 x.2.2) N (((r16.length : Int), 0, []))
  ) fun l11 =>
  Option.bind (
    loopN (fun rec15 x => ladderCupBracket_b4 N rec15 x.1 x.2) N (l11, [])
  ) fun l660 =>
  some l660
def ladderCupTree (N : Nat) (c1 : LadderCup) : Option ((List LadderPair)) :=
  if decide (c1.fForm = 1) then
    Option.bind (ladderCupLadder N c1) fun r4 =>
    some r4
  else
    Option.bind (ladderCupBracket N c1) fun r6 =>
    some r6
def ladderSides (N : Nat)  : Option (Unit) :=
  some ()
def ladderPairFirst (N : Nat) (p1 : LadderPair) : Option (LadderSide) :=
  some p1.fFirst
def ladderSum_b1 (N : Nat) (l1 : List Int) (rec3 : (Int × Int × Int) → Option (Int)) (n10 : Int) (v17 : Int) (v18 : Int) : Option (Int) :=
  if decide (v18 < v17) then
    Option.bind (idx l1 v18) fun x24 =>
    rec3 ((w64 (n10 + x24), v17, w64 (v18 + 1)))
  else
    some n10
def ladderSum (N : Nat) (l1 : List Int) : Option (Int) :=
  Option.bind (
    loopN (fun rec3 x => ladderSum_b1 N l1 rec3 x.1 x.2.1 x.2.2) N ((0, (l1.length : Int), 0))
  ) fun n6 =>
  some n6
def ladderPairSecond (N : Nat) (p1 : LadderPair) : Option (LadderSide) :=
  some p1.fSecond
def slicesIndex_k1 (N : Nat)   : Option (Int) :=
  some (-1)
def slicesIndex_b2 (N : Nat) (s1 : List Int) (v1 : Int) (rec3 : (Int × Int) → Option (Int)) (v18 : Int) (v19 : Int) : Option (Int) :=
  if decide (v19 < v18) then
    Option.bind (idx s1 v19) fun x24 =>
    if decide (v1 = x24) then
      some v19
    else
      rec3 ((v18, w64 (v19 + 1)))
  else
    slicesIndex_k1 N
def slicesIndex (N : Nat) (s1 : List Int) (v1 : Int) : Option (Int) :=
  loopN (fun rec3 x => slicesIndex_b2 N s1 v1 rec3 x.1 x.2) N (((s1.length : Int), 0))
def slicesContains (N : Nat) (s1 : List Int) (v1 : Int) : Option (Bool) :=
  Option.bind (slicesIndex N s1 v1) fun r2 =>
  some (decide (0 ≤ r2))
def ladderDrawScoreXXXXX_b1 (N : Nat) (games1 : List Int) (x52 : Ar2 Int) (rec7 : (Int × Int × (Ar2 Int)) → Option ((Ar2 Int))) (v53 : Int) (v54 : Int) (c49 : Ar2 Int) : Option ((Ar2 Int)) :=
  if decide (v54 < v53) then
    Option.bind (
      Option.bind (idx games1 v54) fun x76 =>
      if decide (x76 = x52.a0) then
        Option.bind (ladderSum N ([c49.a0, 1])) fun r36 =>
        some (Ar2.mk r36 c49.a1)
      else
        some c49
    ) fun c50 =>
    rec7 ((v53, w64 (v54 + 1), c50))
  else
    some c49
def ladderDrawScoreXXXXX_b2 (N : Nat) (games1 : List Int) (x52 : Ar2 Int) (rec9 : (Int × Int × (Ar2 Int)) → Option ((Ar2 Int))) (v71 : Int) (v72 : Int) (c64 : Ar2 Int) : Option ((Ar2 Int)) :=
  if decide (v72 < v71) then
    Option.bind (
      Option.bind (idx games1 v72) fun x100 =>
      if decide (x100 = x52.a1) then
        Option.bind (ladderSum N ([c64.a1, 1])) fun r48 =>
        some (Ar2.mk c64.a0 r48)
      else
        some c64
    ) fun c65 =>
    rec9 ((v71, w64 (v72 + 1), c65))
  else
    some c64
def ladderDrawScoreXXXXX (N : Nat) (match1 : Int) (games1 : List Int) (c1 : Int) (c2 : Int) (c3 : Int) (c4 : List LadderResult) (c5 : List LadderPair) (m1 : List (Int × LadderResult)) (l1 : List (Ar2 Int)) : Option ((Ar2 Int)) :=
  Option.bind (idx l1 match1) fun x52 =>
  Option.bind (
    loopN (fun rec7 x => ladderDrawScoreXXXXX_b1 N games1 x52 rec7 x.1 x.2.1 x.2.2) N (((games1.length : Int), 0, (Ar2.mk 0 0)))
  ) fun c43 =>
  Option.bind (
    loopN (fun rec9 x => ladderDrawScoreXXXXX_b2 N games1 x52 rec9 x.1 x.2.1 x.2.2) N (((games1.length : Int), 0, c43))
  ) fun c58 =>
  some c58
def ladderDrawDecidedXXXXX (N : Nat) (match1 : Int) (games1 : List Int) (c1 : Int) (c2 : Int) (c3 : Int) (c4 : List LadderResult) (c5 : List LadderPair) (m1 : List (Int × LadderResult)) (l1 : List (Ar2 Int)) : Option (Int) :=
  Option.bind (ladderDrawScoreXXXXX N match1 games1 c1 c2 c3 c4 c5 m1 l1) fun r4 =>
  if decide (c3 < (w64 (2 * r4.a0))) then
    Option.bind (idx l1 match1) fun x12 =>
    some x12.a0
  else
    if decide (c3 < (w64 (2 * r4.a1))) then
      Option.bind (idx l1 match1) fun x16 =>
      some x16.a1
    else
      some (-1)
def ladderDrawLawfulXXX_b1 (N : Nat) (r1 : LadderResult) (c1 : Int) (c2 : Int) (c3 : Int) (c4 : List LadderResult) (c5 : List LadderPair) (m1 : List (Int × LadderResult)) (l1 : List (Ar2 Int)) (x2 : Ar2 Int) (rec3 : (Int × Int) → Option (Bool)) (v29 : Int) (v30 : Int) : Option (Bool) :=
  if decide (v30 < v29) then
    Option.bind (idx r1.fGames v30) fun x26 =>
    Option.bind (
      Option.bind (slicesContains N ([x2.a0, x2.a1] : List Int) x26) fun r48 =>
      if !r48 then
        some true
      else
        Option.bind (slc r1.fGames 0 v30) fun l25 =>
        Option.bind (ladderDrawDecidedXXXXX N r1.fMatch l25 c1 c2 c3 c4 c5 m1 l1) fun r49 =>
        some (!decide (r49 = (-1)))
    ) fun v32 =>
    if v32 then
      some false
    else
      rec3 ((v29, w64 (v30 + 1)))
  else
    some true
def ladderDrawLawfulXXX (N : Nat) (r1 : LadderResult) (c1 : Int) (c2 : Int) (c3 : Int) (c4 : List LadderResult) (c5 : List LadderPair) (m1 : List (Int × LadderResult)) (l1 : List (Ar2 Int)) : Option (Bool) :=
  Option.bind (idx l1 r1.fMatch) fun x2 =>
  Option.bind (
    if decide (x2.a0 = (-1)) then
      some true
    else
      some (decide (x2.a1 = (-1)))
  ) fun v2 =>
  if v2 then
    some false
  else
    Option.bind (
      loopN (fun rec3 x => ladderDrawLawfulXXX_b1 N r1 c1 c2 c3 c4 c5 m1 l1 x2 rec3 x.1 x.2) N (((r1.fGames.length : Int), 0))
    ) fun fair1 =>
    some fair1
def ladderDrawWonXXXXX (N : Nat) (match1 : Int) (c1 : Int) (c2 : Int) (c3 : Int) (c4 : List LadderResult) (c5 : List LadderPair) (m1 : List (Int × LadderResult)) (l1 : List (Ar2 Int)) : Option (Int) :=
  Option.bind (mgt m1 match1 ((LadderResult.mk 0 ([]) false))) fun (v2, is2) =>
  if !is2 then
    some (-1)
  else
    Option.bind (ladderDrawDecidedXXXXX N match1 v2.fGames c1 c2 c3 c4 c5 m1 l1) fun r2 =>
    some r2
def ladderDrawFillX_k1 (N : Nat) (c1 : Int) (c2 : Int) (c3 : Int) (c4 : List LadderResult) (c5 : List LadderPair) (l17 : List (Ar2 Int)) : Option (Bool × Int × Int × Int × (List LadderResult) × (List LadderPair) × (List (Ar2 Int))) :=
  some (true, c1, c2, c3, c4, c5, l17)
def ladderDrawFillX_b2 (N : Nat) (c1 : Int) (c2 : Int) (c3 : Int) (c4 : List LadderResult) (c5 : List LadderPair) (m1 : List (Int × LadderResult)) (rec3 : (Int × Int × (List (Ar2 Int))) → Option (Bool × Int × Int × Int × (List LadderResult) × (List LadderPair) × (List (Ar2 Int)))) (v47 : Int) (v48 : Int) (l29 : List (Ar2 Int)) : Option (Bool × Int × Int × Int × (List LadderResult) × (List LadderPair) × (List (Ar2 Int))) :=
  if decide (v48 < v47) then
    Option.bind (idx c5 v48) fun x24 =>
    Option.bind (ladderSides N) fun _ =>
    Option.bind (
      Option.bind (ladderPairFirst N x24) fun r303 =>
      if decide (r303.fMatch = (-1)) then
        some ((Ar2.mk r303.fPlayer (-1)))
      else
        Option.bind (ladderDrawWonXXXXX N r303.fMatch c1 c2 c3 c4 c5 m1 l29) fun r304 =>
        some ((Ar2.mk r304 (-1)))
    ) fun c52 =>
    Option.bind (
      Option.bind (ladderPairSecond N x24) fun r309 =>
      if decide (r309.fMatch = (-1)) then
        some (Ar2.mk c52.a0 r309.fPlayer)
      else
        Option.bind (ladderDrawWonXXXXX N r309.fMatch c1 c2 c3 c4 c5 m1 l29) fun r310 =>
        some (Ar2.mk c52.a0 r310)
    ) fun c53 =>
    Option.bind (app N l29 ([c53])) fun l33 =>
    Option.bind (mgt m1 v48 ((LadderResult.mk 0 ([]) false))) fun (v53, is24) =>
    Option.bind (
      if is24 then
        Option.bind (ladderDrawLawfulXXX N v53 c1 c2 c3 c4 c5 m1 l33) fun r312 =>
        some (!r312)
      else
        some false
    ) fun v54 =>
    if v54 then
      some (false, c1, c2, c3, c4, c5, l33)
    else
      rec3 ((v47, w64 (v48 + 1), l33))
  else
    ladderDrawFillX_k1 N c1 c2 c3 c4 c5 l29
def ladderDrawFillX (N : Nat) (c1 : Int) (c2 : Int) (c3 : Int) (c4 : List LadderResult) (c5 : List LadderPair) (m1 : List (Int × LadderResult)) : Option (Bool × Int × Int × Int × (List LadderResult) × (List LadderPair) × (List (Ar2 Int))) :=
  loopN (fun rec3 x => ladderDrawFillX_b2 N c1 c2 c3 c4 c5 m1 rec3 x.1 x.2.1 x.2.2) N (((c5.length : Int), 0, []))
def ladderCupDraw_k1 (N : Nat) (c1 : LadderCup) (r14 : List LadderPair) (m5 : List (Int × LadderResult)) : Option (Int ⊕ (Int × Int × Int × Int × (List LadderResult) × (List LadderPair) × (List (Int × LadderResult)) × (List (Ar2 Int)))) :=
  Option.bind (ladderDrawFillX N c1.fForm c1.fPlayers c1.fGames c1.fResults r14 m5) fun (ra4, rb4, rc4, rd4, re4, rf4, rg4) =>
  if !ra4 then
    some (.inl 10)
  else
    some (.inr (0, rb4, rc4, rd4, re4, rf4, m5, rg4))
def ladderCupDraw_b2 (N : Nat) (c1 : LadderCup) (r14 : List LadderPair) (rec3 : (Int × Int × (List (Int × LadderResult))) → Option (Int ⊕ (Int × Int × Int × Int × (List LadderResult) × (List LadderPair) × (List (Int × LadderResult)) × (List (Ar2 Int))))) (v61 : Int) (v62 : Int) (m9 : List (Int × LadderResult)) : Option (Int ⊕ (Int × Int × Int × Int × (List LadderResult) × (List LadderPair) × (List (Int × LadderResult)) × (List (Ar2 Int)))) :=
  if decide (v62 < v61) then
    Option.bind (idx c1.fResults v62) fun x24 =>
    Option.bind (
      Option.bind (mgt m9 x24.fMatch ((LadderResult.mk 0 ([]) false))) fun (v70, is72) =>
      some is72
    ) fun is71 =>
    if is71 then
      some (.inl 6)
    else
      rec3 ((v61, w64 (v62 + 1), (mput m9 x24.fMatch x24)))
  else
    ladderCupDraw_k1 N c1 r14 m9
def ladderCupDraw_k3 (N : Nat) (c1 : LadderCup) (r14 : List LadderPair) (m14 : List (Int × LadderResult)) : Option (Int ⊕ (Int × Int × Int × Int × (List LadderResult) × (List LadderPair) × (List (Int × LadderResult)) × (List (Ar2 Int)))) :=
  Option.bind (ladderDrawFillX N c1.fForm c1.fPlayers c1.fGames c1.fResults r14 m14) fun (ra8, rb8, rc8, rd8, re8, rf8, rg8) =>
  if !ra8 then
    some (.inl 10)
  else
    some (.inr (0, rb8, rc8, rd8, re8, rf8, m14, rg8))
def ladderCupDraw_b4 (N : Nat) (c1 : LadderCup) (r14 : List LadderPair) (rec5 : (Int × Int × (List (Int × LadderResult))) → Option (Int ⊕ (Int × Int × Int × Int × (List LadderResult) × (List LadderPair) × (List (Int × LadderResult)) × (List (Ar2 Int))))) (v127 : Int) (v128 : Int) (m18 : List (Int × LadderResult)) : Option (Int ⊕ (Int × Int × Int × Int × (List LadderResult) × (List LadderPair) × (List (Int × LadderResult)) × (List (Ar2 Int)))) :=
  if decide (v128 < v127) then
    Option.bind (idx c1.fResults v128) fun x48 =>
    Option.bind (
      Option.bind (mgt m18 x48.fMatch ((LadderResult.mk 0 ([]) false))) fun (v136, is144) =>
      some is144
    ) fun is143 =>
    if is143 then
      some (.inl 6)
    else
      rec5 ((v127, w64 (v128 + 1), (mput m18 x48.fMatch x48)))
  else
    ladderCupDraw_k3 N c1 r14 m18
def ladderCupDraw (N : Nat) (c1 : LadderCup) : Option (Int ⊕ (Int × Int × Int × Int × (List LadderResult) × (List LadderPair) × (List (Int × LadderResult)) × (List (Ar2 Int)))) :=
  Option.bind (
    if decide (15 < (c1.fResults.length : Int)) then
      some true
    else
      Option.bind (ladderAll N c1.fResults) fun r8 =>
      some (!r8)
  ) fun v3 =>
  if v3 then
    some (.inl 3)
  else
    Option.bind (
      Option.bind (ladderCupCheck N c1) fun r11 =>
      if !decide (r11 = 0) then
        some true
      else
        Option.bind (ladderAllX N c1.fResults c1) fun r12 =>
        some (!r12)
    ) fun v4 =>
    if v4 then
      some (.inl 1)
    else
      Option.bind (ladderCupTree N c1) fun r14 =>
      loopN (fun rec3 x => ladderCupDraw_b2 N c1 r14 rec3 x.1 x.2.1 x.2.2) N (((c1.fResults.length : Int), 0, ([] : List (Int × LadderResult))))
def ladderDrawOpen (N : Nat) (c1 : Int) (c2 : Int) (c3 : Int) (c4 : List LadderResult) (c5 : List LadderPair) (m1 : List (Int × LadderResult)) (l1 : List (Ar2 Int)) : Option (Unit) :=
  some ()
def slicesAppendSeq_b1 (N : Nat) (c1 : Int) (c2 : Int) (c3 : Int) (c4 : List LadderResult) (c5 : List LadderPair) (m1 : List (Int × LadderResult)) (l1 : List (Ar2 Int)) (rec3 : (Int × Int × (List LadderMatch)) → Option ((List LadderMatch))) (v57 : Int) (v58 : Int) (l35 : List LadderMatch) : Option ((List LadderMatch)) :=
  if decide (v58 < v57) then
    Option.bind (
      Option.bind (idx l1 v58) fun x24 =>
      Option.bind (
        if decide (x24.a0 = (-1)) then
          some true
        else
          if decide (x24.a1 = (-1)) then
            some true
          else
            Option.bind (ladderDrawWonXXXXX N v58 c1 c2 c3 c4 c5 m1 l1) fun r70 =>
            some (!decide (r70 = (-1)))
      ) fun v64 =>
      if v64 then
        some l35
      else
        Option.bind (
          Option.bind (mgt m1 v58 ((LadderResult.mk 0 ([]) false))) fun (v66, is24) =>
          Option.bind (ladderDrawScoreXXXXX N v58 v66.fGames c1 c2 c3 c4 c5 m1 l1) fun r72 =>
          some r72
        ) fun c17 =>
        Option.bind (app N l35 ([(LadderMatch.mk v58 x24.a0 x24.a1 c17.a0 c17.a1)])) fun l40 =>
        some l40
    ) fun l38 =>
    rec3 ((v57, w64 (v58 + 1), l38))
  else
    some l35
def slicesAppendSeq (N : Nat) (c1 : Int) (c2 : Int) (c3 : Int) (c4 : List LadderResult) (c5 : List LadderPair) (m1 : List (Int × LadderResult)) (l1 : List (Ar2 Int)) : Option ((List LadderMatch)) :=
  Option.bind (
    loopN (fun rec3 x => slicesAppendSeq_b1 N c1 c2 c3 c4 c5 m1 l1 rec3 x.1 x.2.1 x.2.2) N (((l1.length : Int), 0, []))
  ) fun l21 =>
  some l21
def slicesCollect (N : Nat) (c1 : Int) (c2 : Int) (c3 : Int) (c4 : List LadderResult) (c5 : List LadderPair) (m1 : List (Int × LadderResult)) (l1 : List (Ar2 Int)) : Option ((List LadderMatch)) :=
  Option.bind (slicesAppendSeq N c1 c2 c3 c4 c5 m1 l1) fun r2 =>
  some r2
def ladderNext (N : Nat) (c1 : LadderCup) : Option ((List LadderMatch) × Int) :=
  Option.bind (ladderCupDraw N c1) fun z2 =>
  match z2 with
  | .inl r2 =>
    if !decide (r2 = 0) then
      some ([], r2)
    else
      none
  | .inr (ra2, rb2, rc2, rd2, re2, rf2, rg2, rh2) =>
    if !decide (ra2 = 0) then
      some ([], ra2)
    else
      Option.bind (ladderDrawOpen N rb2 rc2 rd2 re2 rf2 rg2 rh2) fun _ =>
      Option.bind (slicesCollect N rb2 rc2 rd2 re2 rf2 rg2 rh2) fun r4 =>
      some (r4, 0)
def ladderDrawSettled (N : Nat) (match1 : Int) (first1 : Int) (second1 : Int) (c1 : Int) (c2 : Int) (c3 : Int) (c4 : List LadderResult) (c5 : List LadderPair) (m1 : List (Int × LadderResult)) (l1 : List (Ar2 Int)) : Option (Int) :=
  Option.bind (
    Option.bind (idx l1 match1) fun x4 =>
    if !decide (x4 = (Ar2.mk first1 second1)) then
      some true
    else
      Option.bind (mgt m1 match1 ((LadderResult.mk 0 ([]) false))) fun (v6, is4) =>
      some v6.fProtested
  ) fun v5 =>
  if v5 then
    some (-1)
  else
    Option.bind (ladderDrawWonXXXXX N match1 c1 c2 c3 c4 c5 m1 l1) fun r2 =>
    some r2
def ladderDrawFromX_b1 (N : Nat) (s1 : LadderSide) (c2 : Int) (m1 : List (LadderSpot × LadderCheapest)) (rec3 : (Int × (List (Int × Int))) → Option ((List (Int × Int)))) (v28 : Int) (m16 : List (Int × Int)) : Option ((List (Int × Int))) :=
  if decide (v28 < c2) then
    Option.bind (
      Option.bind (mgt m1 (LadderSpot.mk s1.fMatch v28) (LadderCheapest.mk 0 0)) fun (v32, is24) =>
      if is24 then
        some (mput m16 v28 v32.fUpsets)
      else
        some m16
    ) fun m17 =>
    rec3 ((w64 (v28 + 1), m17))
  else
    some m16
def ladderDrawFromX (N : Nat) (s1 : LadderSide) (c1 : Int) (c2 : Int) (c3 : Int) (c4 : List LadderResult) (c5 : List LadderPair) (m1 : List (LadderSpot × LadderCheapest)) (m2 : List (Int × LadderResult)) (l1 : List (Ar2 Int)) : Option ((List (Int × Int))) :=
  if decide (s1.fMatch = (-1)) then
    some ((mput (([] : List (Int × Int))) s1.fPlayer 0))
  else
    Option.bind (
      loopN (fun rec3 x => ladderDrawFromX_b1 N s1 c2 m1 rec3 x.1 x.2) N ((0, ([] : List (Int × Int))))
    ) fun m10 =>
    some m10
def ladderDrawBest_k1 (N : Nat)  (m213 : List (LadderSpot × LadderCheapest)) : WP ((List (LadderSpot × LadderCheapest))) :=
  retW m213
def ladderDrawBest_k2 (N : Nat) (v2897 : Int) (v2898 : Int) (rec43 : (Int × Int × (List (LadderSpot × LadderCheapest))) → WP ((List (LadderSpot × LadderCheapest)))) (m390 : List (LadderSpot × LadderCheapest)) : WP ((List (LadderSpot × LadderCheapest))) :=
  rec43 ((v2897, w64 (v2898 + 1), m390))
def ladderDrawBest_k3 (N : Nat) (rec51 : ((List (LadderSpot × LadderCheapest)) × (List (Int × Int))) → WP ((List (LadderSpot × LadderCheapest)))) (rem480 : List (Int × Int)) (m424 : List (LadderSpot × LadderCheapest)) : WP ((List (LadderSpot × LadderCheapest))) :=
  rec51 (m424, rem480)
def ladderDrawBest_k4 (N : Nat) (v2898 : Int) (rec51 : ((List (LadderSpot × LadderCheapest)) × (List (Int × Int))) → WP ((List (LadderSpot × LadderCheapest)))) (rem480 : List (Int × Int)) (m423 : List (LadderSpot × LadderCheapest)) (x886 : Ar2 Int) (cost431 : Int) (v3466 : Bool) : WP ((List (LadderSpot × LadderCheapest))) :=
  if v3466 then
    ladderDrawBest_k3 N rec51 rem480 ((mput m423 (LadderSpot.mk v2898 x886.a0) (LadderCheapest.mk cost431 x886.a1)))
  else
    ladderDrawBest_k3 N rec51 rem480 m423
def ladderDrawBest_k5 (N : Nat) (v2898 : Int) (rec51 : ((List (LadderSpot × LadderCheapest)) × (List (Int × Int))) → WP ((List (LadderSpot × LadderCheapest)))) (rem480 : List (Int × Int)) (m423 : List (LadderSpot × LadderCheapest)) (x886 : Ar2 Int) (cost431 : Int) : WP ((List (LadderSpot × LadderCheapest))) :=
  bindO (mgt m423 (LadderSpot.mk v2898 x886.a0) (LadderCheapest.mk 0 0)) fun (v3465, is862) =>
  if !is862 then
    ladderDrawBest_k4 N v2898 rec51 rem480 m423 x886 cost431 true
  else
    ladderDrawBest_k4 N v2898 rec51 rem480 m423 x886 cost431 (decide (cost431 < v3465.fUpsets))
def ladderDrawBest_k6 (N : Nat) (v2898 : Int) (rec51 : ((List (LadderSpot × LadderCheapest)) × (List (Int × Int))) → WP ((List (LadderSpot × LadderCheapest)))) (rem480 : List (Int × Int)) (m423 : List (LadderSpot × LadderCheapest)) (x886 : Ar2 Int) (r2034 : Int) (v3467 : Bool) : WP ((List (LadderSpot × LadderCheapest))) :=
  if v3467 then
    bindO (ladderSum N ([r2034, 1])) fun r2036 =>
    ladderDrawBest_k5 N v2898 rec51 rem480 m423 x886 r2036
  else
    ladderDrawBest_k5 N v2898 rec51 rem480 m423 x886 r2034
def ladderDrawBest_k7 (N : Nat) (v2898 : Int) (v3381 : Int) (rec51 : ((List (LadderSpot × LadderCheapest)) × (List (Int × Int))) → WP ((List (LadderSpot × LadderCheapest)))) (v3446 : Int) (rem480 : List (Int × Int)) (r2024 : Int) (m423 : List (LadderSpot × LadderCheapest)) (x886 : Ar2 Int) (v3462 : Bool) : WP ((List (LadderSpot × LadderCheapest))) :=
  if v3462 then
    ladderDrawBest_k3 N rec51 rem480 m423
  else
    bindO (ladderSum N ([v3381, v3446])) fun r2034 =>
    if decide (r2024 = (-1)) then
      ladderDrawBest_k6 N v2898 rec51 rem480 m423 x886 r2034 (decide (x886.a1 < x886.a0))
    else
      ladderDrawBest_k6 N v2898 rec51 rem480 m423 x886 r2034 false
def ladderDrawBest_k8 (N : Nat) (v2898 : Int) (v3381 : Int) (rec51 : ((List (LadderSpot × LadderCheapest)) × (List (Int × Int))) → WP ((List (LadderSpot × LadderCheapest)))) (v3446 : Int) (rem480 : List (Int × Int)) (r2024 : Int) (m423 : List (LadderSpot × LadderCheapest)) (l539 : List (Ar2 Int)) : WP ((List (LadderSpot × LadderCheapest))) :=
  bindO (idx l539 1) fun x886 =>
  if !decide (r2024 = (-1)) then
    ladderDrawBest_k7 N v2898 v3381 rec51 v3446 rem480 r2024 m423 x886 (!decide (r2024 = x886.a0))
  else
    ladderDrawBest_k7 N v2898 v3381 rec51 v3446 rem480 r2024 m423 x886 false
def ladderDrawBest_k9 (N : Nat) (v2898 : Int) (v3381 : Int) (m422 : List (LadderSpot × LadderCheapest)) (rec51 : ((List (LadderSpot × LadderCheapest)) × (List (Int × Int))) → WP ((List (LadderSpot × LadderCheapest)))) (v3446 : Int) (rem480 : List (Int × Int)) (r2024 : Int) (x888 : Ar2 Int) (l541 : List (Ar2 Int)) (cost432 : Int) (v3473 : Bool) : WP ((List (LadderSpot × LadderCheapest))) :=
  if v3473 then
    ladderDrawBest_k8 N v2898 v3381 rec51 v3446 rem480 r2024 ((mput m422 (LadderSpot.mk v2898 x888.a0) (LadderCheapest.mk cost432 x888.a1))) l541
  else
    ladderDrawBest_k8 N v2898 v3381 rec51 v3446 rem480 r2024 m422 l541
def ladderDrawBest_k10 (N : Nat) (v2898 : Int) (v3381 : Int) (m422 : List (LadderSpot × LadderCheapest)) (rec51 : ((List (LadderSpot × LadderCheapest)) × (List (Int × Int))) → WP ((List (LadderSpot × LadderCheapest)))) (v3446 : Int) (rem480 : List (Int × Int)) (r2024 : Int) (x888 : Ar2 Int) (l541 : List (Ar2 Int)) (cost432 : Int) : WP ((List (LadderSpot × LadderCheapest))) :=
  bindO (mgt m422 (LadderSpot.mk v2898 x888.a0) (LadderCheapest.mk 0 0)) fun (v3472, is864) =>
  if !is864 then
    ladderDrawBest_k9 N v2898 v3381 m422 rec51 v3446 rem480 r2024 x888 l541 cost432 true
  else
    ladderDrawBest_k9 N v2898 v3381 m422 rec51 v3446 rem480 r2024 x888 l541 cost432 (decide (cost432 < v3472.fUpsets))
def ladderDrawBest_k11 (N : Nat) (v2898 : Int) (v3381 : Int) (m422 : List (LadderSpot × LadderCheapest)) (rec51 : ((List (LadderSpot × LadderCheapest)) × (List (Int × Int))) → WP ((List (LadderSpot × LadderCheapest)))) (v3446 : Int) (rem480 : List (Int × Int)) (r2024 : Int) (x888 : Ar2 Int) (l541 : List (Ar2 Int)) (r2038 : Int) (v3474 : Bool) : WP ((List (LadderSpot × LadderCheapest))) :=
  if v3474 then
    bindO (ladderSum N ([r2038, 1])) fun r2040 =>
    ladderDrawBest_k10 N v2898 v3381 m422 rec51 v3446 rem480 r2024 x888 l541 r2040
  else
    ladderDrawBest_k10 N v2898 v3381 m422 rec51 v3446 rem480 r2024 x888 l541 r2038
def ladderDrawBest_k12 (N : Nat) (v2898 : Int) (v3381 : Int) (m422 : List (LadderSpot × LadderCheapest)) (rec51 : ((List (LadderSpot × LadderCheapest)) × (List (Int × Int))) → WP ((List (LadderSpot × LadderCheapest)))) (v3446 : Int) (rem480 : List (Int × Int)) (r2024 : Int) (x888 : Ar2 Int) (v3469 : Bool) (l541 : List (Ar2 Int)) : WP ((List (LadderSpot × LadderCheapest))) :=
  if v3469 then
    ladderDrawBest_k8 N v2898 v3381 rec51 v3446 rem480 r2024 m422 l541
  else
    bindO (ladderSum N ([v3381, v3446])) fun r2038 =>
    if decide (r2024 = (-1)) then
      ladderDrawBest_k11 N v2898 v3381 m422 rec51 v3446 rem480 r2024 x888 l541 r2038 (decide (x888.a1 < x888.a0))
    else
      ladderDrawBest_k11 N v2898 v3381 m422 rec51 v3446 rem480 r2024 x888 l541 r2038 false
def ladderDrawBest_b13 (N : Nat) (c1 : Int) (c2 : Int) (c3 : Int) (c4 : List LadderResult) (c5 : List LadderPair) (m1 : List (Int × LadderResult)) (l1 : List (Ar2 Int)) (v2898 : Int) (rec50 : ((List (LadderSpot × LadderCheapest)) × (List (Int × Int))) → WP ((List (LadderSpot × LadderCheapest)))) (k282 : Int) (v3381 : Int) (rem470 : List (Int × Int)) (rec51 : ((List (LadderSpot × LadderCheapest)) × (List (Int × Int))) → WP ((List (LadderSpot × LadderCheapest)))) (m422 : List (LadderSpot × LadderCheapest)) (rem478 : List (Int × Int)) : WP ((List (LadderSpot × LadderCheapest))) :=
  nextW rem478 (
    rec50 (m422, rem470)
  ) fun (k288, v3446) rem480 =>
  bindO (ladderDrawSettled N v2898 k282 k288 c1 c2 c3 c4 c5 m1 l1) fun r2024 =>
  bindO (idx ([(Ar2.mk k282 k288), (Ar2.mk k288 k282)]) 0) fun x888 =>
  if !decide (r2024 = (-1)) then
    ladderDrawBest_k12 N v2898 v3381 m422 rec51 v3446 rem480 r2024 x888 (!decide (r2024 = x888.a0)) ([(Ar2.mk k282 k288), (Ar2.mk k288 k282)])
  else
    ladderDrawBest_k12 N v2898 v3381 m422 rec51 v3446 rem480 r2024 x888 false ([(Ar2.mk k282 k288), (Ar2.mk k288 k282)])
def ladderDrawBest_b14 (N : Nat) (c1 : Int) (c2 : Int) (c3 : Int) (c4 : List LadderResult) (c5 : List LadderPair) (m1 : List (Int × LadderResult)) (l1 : List (Ar2 Int)) (v2897 : Int) (v2898 : Int) (rec43 : (Int × Int × (List (LadderSpot × LadderCheapest))) → WP ((List (LadderSpot × LadderCheapest)))) (x816 : LadderPair) (rec50 : ((List (LadderSpot × LadderCheapest)) × (List (Int × Int))) → WP ((List (LadderSpot × LadderCheapest)))) (m414 : List (LadderSpot × LadderCheapest)) (rem468 : List (Int × Int)) : WP ((List (LadderSpot × LadderCheapest))) :=
  nextW rem468 (
    ladderDrawBest_k2 N v2897 v2898 rec43 m414
  ) fun (k282, v3381) rem470 =>
  bindO (ladderDrawFromX N x816.fSecond c1 c2 c3 c4 c5 m414 m1 l1) fun r1986 =>
  loopW (fun rec51 x => ladderDrawBest_b13 N c1 c2 c3 c4 c5 m1 l1 v2898 rec50 k282 v3381 rem470 rec51 x.1 x.2) N (m414, r1986)
def ladderDrawBest_b15 (N : Nat) (c1 : Int) (c2 : Int) (c3 : Int) (c4 : List LadderResult) (c5 : List LadderPair) (m1 : List (Int × LadderResult)) (l1 : List (Ar2 Int)) (rec43 : (Int × Int × (List (LadderSpot × LadderCheapest))) → WP ((List (LadderSpot × LadderCheapest)))) (v2897 : Int) (v2898 : Int) (m355 : List (LadderSpot × LadderCheapest)) : WP ((List (LadderSpot × LadderCheapest))) :=
  if decide (v2898 < v2897) then
    bindO (idx c5 v2898) fun x816 =>
    bindO (ladderDrawFromX N x816.fFirst c1 c2 c3 c4 c5 m355 m1 l1) fun r1872 =>
    loopW (fun rec50 x => ladderDrawBest_b14 N c1 c2 c3 c4 c5 m1 l1 v2897 v2898 rec43 x816 rec50 x.1 x.2) N (m355, r1872)
  else
    ladderDrawBest_k1 N m355
def ladderDrawBest (N : Nat) (c1 : Int) (c2 : Int) (c3 : Int) (c4 : List LadderResult) (c5 : List LadderPair) (m1 : List (Int × LadderResult)) (l1 : List (Ar2 Int)) : WP ((List (LadderSpot × LadderCheapest))) :=
  loopW (fun rec43 x => ladderDrawBest_b15 N c1 c2 c3 c4 c5 m1 l1 rec43 x.1 x.2.1 x.2.2) N (((c5.length : Int), 0, ([] : List (LadderSpot × LadderCheapest))))
def ladderDrawLast (N : Nat) (c1 : Int) (c2 : Int) (c3 : Int) (c4 : List LadderResult) (c5 : List LadderPair) (m1 : List (Int × LadderResult)) (l1 : List (Ar2 Int)) : Option (Int) :=
  some (w64 ((c5.length : Int) - 1))
def ladderDrawMayW_k1 (N : Nat)  (l15 : List Int) : WP ((List Int)) :=
  retW l15
def ladderDrawMayW_k2 (N : Nat) (v28 : Int) (rec3 : (Int × (List Int)) → WP ((List Int))) (l27 : List Int) : WP ((List Int)) :=
  rec3 ((w64 (v28 + 1), l27))
def ladderDrawMayW_b3 (N : Nat) (c1 : Int) (c2 : Int) (c3 : Int) (c4 : List LadderResult) (c5 : List LadderPair) (m1 : List (Int × LadderResult)) (l1 : List (Ar2 Int)) (r2 : List (LadderSpot × LadderCheapest)) (rec3 : (Int × (List Int)) → WP ((List Int))) (v28 : Int) (l25 : List Int) : WP ((List Int)) :=
  if decide (v28 < c2) then
    bindO (ladderDrawLast N c1 c2 c3 c4 c5 m1 l1) fun r26 =>
    bindO (mgt r2 (LadderSpot.mk r26 v28) (LadderCheapest.mk 0 0)) fun (v32, is24) =>
    if is24 then
      bindO (app N l25 ([v28])) fun l28 =>
      ladderDrawMayW_k2 N v28 rec3 l28
    else
      ladderDrawMayW_k2 N v28 rec3 l25
  else
    ladderDrawMayW_k1 N l25
def ladderDrawMayW (N : Nat) (c1 : Int) (c2 : Int) (c3 : Int) (c4 : List LadderResult) (c5 : List LadderPair) (m1 : List (Int × LadderResult)) (l1 : List (Ar2 Int)) : WP ((List Int)) :=
  bindW (ladderDrawBest N c1 c2 c3 c4 c5 m1 l1) fun r2 =>
  loopW (fun rec3 x => ladderDrawMayW_b3 N c1 c2 c3 c4 c5 m1 l1 r2 rec3 x.1 x.2) N (0, [])
def ladderDrawMay (N : Nat) (c1 : Int) (c2 : Int) (c3 : Int) (c4 : List LadderResult) (c5 : List LadderPair) (m1 : List (Int × LadderResult)) (l1 : List (Ar2 Int)) : Option ((List Int)) := det (ladderDrawMayW N c1 c2 c3 c4 c5 m1 l1)
def ladderMayWin (N : Nat) (c1 : LadderCup) : Option ((List Int) × Int) :=
  Option.bind (ladderCupDraw N c1) fun z2 =>
  match z2 with
  | .inl r2 =>
    if !decide (r2 = 0) then
      some ([], r2)
    else
      none
  | .inr (ra2, rb2, rc2, rd2, re2, rf2, rg2, rh2) =>
    if !decide (ra2 = 0) then
      some ([], ra2)
    else
      Option.bind (ladderDrawMay N rb2 rc2 rd2 re2 rf2 rg2 rh2) fun r4 =>
      some (r4, 0)
def ladderCupAsked (N : Nat) (c1 : LadderCup) (p1 : Int) : WP (Int ⊕ (Int × Int × Int × Int × (List LadderResult) × (List LadderPair) × (List (LadderSpot × LadderCheapest)) × (List (Int × LadderResult)) × (List (Ar2 Int)))) :=
  bindO (ladderCupDraw N c1) fun z2 =>
  match z2 with
  | .inl r2 =>
    if !decide (r2 = 0) then
      retW (.inl r2)
    else
      bindO (ladderWithin N p1 0 (w64 (c1.fPlayers - 1))) fun r6 =>
      if !r6 then
        retW (.inl 2)
      else
        failW
  | .inr (ra2, rb2, rc2, rd2, re2, rf2, rg2, rh2) =>
    if !decide (ra2 = 0) then
      retW (.inl ra2)
    else
      bindO (ladderWithin N p1 0 (w64 (c1.fPlayers - 1))) fun r10 =>
      if !r10 then
        retW (.inl 2)
      else
        bindW (ladderDrawBest N rb2 rc2 rd2 re2 rf2 rg2 rh2) fun r12 =>
        bindO (ladderDrawLast N rb2 rc2 rd2 re2 rf2 rg2 rh2) fun r16 =>
        bindO (mgt r12 (LadderSpot.mk r16 p1) (LadderCheapest.mk 0 0)) fun (v4, is4) =>
        if !is4 then
          retW (.inl 9)
        else
          retW (.inr (0, rb2, rc2, rd2, re2, rf2, r12, rg2, rh2))
def ladderUpsetsW (N : Nat) (c1 : LadderCup) (player1 : Int) : WP (Int × Int) :=
  bindW (ladderCupAsked N c1 player1) fun z2 =>
  match z2 with
  | .inl r2 =>
    if !decide (r2 = 0) then
      retW (0, r2)
    else
      failW
  | .inr (ra2, rb2, rc2, rd2, re2, rf2, rg2, rh2, ri2) =>
    if !decide (ra2 = 0) then
      retW (0, ra2)
    else
      bindO (ladderDrawLast N rb2 rc2 rd2 re2 rf2 rh2 ri2) fun r4 =>
      bindO (mgt rg2 (LadderSpot.mk r4 player1) (LadderCheapest.mk 0 0)) fun (v2, is2) =>
      retW (v2.fUpsets, 0)
def ladderUpsets (N : Nat) (c1 : LadderCup) (player1 : Int) : Option (Int × Int) := det (ladderUpsetsW N c1 player1)
def ladderHangsW_k1 (N : Nat)  (l14 : List Int) : WP ((List Int) × Int) :=
  retW (l14, 0)
def ladderHangsW_k2 (N : Nat) (v47 : Int) (v48 : Int) (rec3 : (Int × Int × (List Int)) → WP ((List Int) × Int)) (l26 : List Int) : WP ((List Int) × Int) :=
  rec3 ((v47, w64 (v48 + 1), l26))
def ladderHangsW_k3 (N : Nat) (v47 : Int) (v48 : Int) (l24 : List Int) (rec3 : (Int × Int × (List Int)) → WP ((List Int) × Int)) (v53 : Bool) : WP ((List Int) × Int) :=
  if v53 then
    bindO (app N l24 ([v48])) fun l27 =>
    ladderHangsW_k2 N v47 v48 rec3 l27
  else
    ladderHangsW_k2 N v47 v48 rec3 l24
def ladderHangsW_k4 (N : Nat) (rb2 : Int) (rc2 : Int) (rd2 : Int) (re2 : List LadderResult) (rf2 : List LadderPair) (rg2 : List (Int × LadderResult)) (rh2 : List (Ar2 Int)) (v47 : Int) (v48 : Int) (l24 : List Int) (rec3 : (Int × Int × (List Int)) → WP ((List Int) × Int)) (sure12 : Bool) : WP ((List Int) × Int) :=
  bindO (ladderDrawWonXXXXX N v48 rb2 rc2 rd2 re2 rf2 rg2 rh2) fun r74 =>
  if !decide (r74 = (-1)) then
    bindO (mgt rg2 v48 ((LadderResult.mk 0 ([]) false))) fun (v54, is24) =>
    if !v54.fProtested then
      ladderHangsW_k3 N v47 v48 l24 rec3 (!sure12)
    else
      ladderHangsW_k3 N v47 v48 l24 rec3 false
  else
    ladderHangsW_k3 N v47 v48 l24 rec3 false
def ladderHangsW_b5 (N : Nat) (rb2 : Int) (rc2 : Int) (rd2 : Int) (re2 : List LadderResult) (rf2 : List LadderPair) (rg2 : List (Int × LadderResult)) (rh2 : List (Ar2 Int)) (r4 : List (LadderSpot × LadderCheapest)) (rec3 : (Int × Int × (List Int)) → WP ((List Int) × Int)) (v47 : Int) (v48 : Int) (l24 : List Int) : WP ((List Int) × Int) :=
  if decide (v48 < v47) then
    bindO (idx rf2 v48) fun x24 =>
    bindO (ladderDrawFromX N x24.fFirst rb2 rc2 rd2 re2 rf2 r4 rg2 rh2) fun r75 =>
    if decide ((r75.length : Int) = 1) then
      bindO (ladderDrawFromX N x24.fSecond rb2 rc2 rd2 re2 rf2 r4 rg2 rh2) fun r76 =>
      ladderHangsW_k4 N rb2 rc2 rd2 re2 rf2 rg2 rh2 v47 v48 l24 rec3 (decide ((r76.length : Int) = 1))
    else
      ladderHangsW_k4 N rb2 rc2 rd2 re2 rf2 rg2 rh2 v47 v48 l24 rec3 false
  else
    ladderHangsW_k1 N l24
def ladderHangsW (N : Nat) (c1 : LadderCup) : WP ((List Int) × Int) :=
  bindO (ladderCupDraw N c1) fun z2 =>
  match z2 with
  | .inl r2 =>
    if !decide (r2 = 0) then
      retW ([], r2)
    else
      failW
  | .inr (ra2, rb2, rc2, rd2, re2, rf2, rg2, rh2) =>
    if !decide (ra2 = 0) then
      retW ([], ra2)
    else
      bindW (ladderDrawBest N rb2 rc2 rd2 re2 rf2 rg2 rh2) fun r4 =>
      loopW (fun rec3 x => ladderHangsW_b5 N rb2 rc2 rd2 re2 rf2 rg2 rh2 r4 rec3 x.1 x.2.1 x.2.2) N (((rf2.length : Int), 0, []))
def ladderHangs (N : Nat) (c1 : LadderCup) : Option ((List Int) × Int) := det (ladderHangsW N c1)
def law09Ints_k1 (N : Nat)   : Option (Bool) :=
  some true
def law09Ints_b2 (N : Nat) (a1 : List Int) (b1 : List Int) (rec3 : (Int) → Option (Bool)) (i8 : Int) : Option (Bool) :=
  if decide (i8 < (a1.length : Int)) then
    Option.bind (idx a1 i8) fun x47 =>
    Option.bind (idx b1 i8) fun x48 =>
    if !decide (x47 = x48) then
      some false
    else
      rec3 (w64 (i8 + 1))
  else
    law09Ints_k1 N
def law09Ints (N : Nat) (a1 : List Int) (b1 : List Int) : Option (Bool) :=
  if !decide ((a1.length : Int) = (b1.length : Int)) then
    some false
  else
    loopN (fun rec3 x => law09Ints_b2 N a1 b1 rec3 x) N 0
def law09Wakes (N : Nat)  : Option (Bool) :=
  Option.bind (law09Result N 0 false ([4, 3, 4])) fun r4 =>
  Option.bind (law09Result N 2 false ([1])) fun r5 =>
  Option.bind (law09Five N ([r4, r5])) fun r6 =>
  Option.bind (ladderNext N r6) fun (ra2, rb2) =>
  Option.bind (law09Result N 0 false ([4, 3, 4])) fun r10 =>
  Option.bind (law09Result N 2 false ([1])) fun r11 =>
  Option.bind (law09Five N ([r10, r11])) fun r12 =>
  Option.bind (ladderMayWin N r12) fun (ra4, rb4) =>
  Option.bind (law09Result N 0 false ([4, 3, 4])) fun r16 =>
  Option.bind (law09Result N 2 false ([1])) fun r17 =>
  Option.bind (law09Five N ([r16, r17])) fun r18 =>
  Option.bind (ladderUpsets N r18 4) fun (ra6, rb6) =>
  Option.bind (law09Result N 0 true ([4, 3, 4])) fun r22 =>
  Option.bind (law09Result N 1 false ([4, 4])) fun r23 =>
  Option.bind (law09Five N ([r22, r23])) fun r24 =>
  Option.bind (ladderHangs N r24) fun (ra8, rb8) =>
  Option.bind (
    if decide (rb2 = 0) then
      if decide ((ra2.length : Int) = 2) then
        Option.bind (idx ra2 0) fun x3 =>
        if decide (x3 = (LadderMatch.mk 1 0 4 0 0)) then
          Option.bind (idx ra2 1) fun x4 =>
          if decide (x4 = (LadderMatch.mk 2 1 2 1 0)) then
            if decide (rb4 = 0) then
              Option.bind (law09Ints N ra4 ([0, 1, 2, 4])) fun r27 =>
              if r27 then
                if decide (rb6 = 0) then
                  if decide (ra6 = 2) then
                    if decide (rb8 = 0) then
                      Option.bind (law09Ints N ra8 ([1])) fun r28 =>
                      some r28
                    else
                      some false
                  else
                    some false
                else
                  some false
              else
                some false
            else
              some false
          else
            some false
        else
          some false
      else
        some false
    else
      some false
  ) fun v1 =>
  some v1
def law09List (N : Nat) (l1 : List Int) : Option ((List Int)) :=
  Option.bind (app N ([]) l1) fun l3 =>
  some l3
def law09Cup_b1 (N : Nat) (c1 : Ref09Cup) (rec3 : (Int × (List LadderResult)) → Option ((List LadderResult))) (i8 : Int) (l19 : List LadderResult) : Option ((List LadderResult)) :=
  if decide (i8 < (c1.fResults.length : Int)) then
    Option.bind (idx c1.fResults i8) fun x24 =>
    Option.bind (law09List N x24.fGames) fun r12 =>
    Option.bind (app N l19 ([(LadderResult.mk x24.fMatch r12 x24.fProtested)])) fun l21 =>
    rec3 ((w64 (i8 + 1), l21))
  else
    some l19
def law09Cup (N : Nat) (c1 : Ref09Cup) : Option (LadderCup) :=
  Option.bind (
    loopN (fun rec3 x => law09Cup_b1 N c1 rec3 x.1 x.2) N (0, [])
  ) fun l11 =>
  some (LadderCup.mk c1.fForm c1.fPlayers c1.fGames l11)
def law09Ready (N : Nat) (c1 : Ref09Cup) : Option (Bool) :=
  Option.bind (
    Option.bind (law09Thin N c1) fun r3 =>
    if r3 then
      Option.bind (ref09Fault N c1) fun r4 =>
      some (decide (r4 = 0))
    else
      some false
  ) fun v1 =>
  some v1
def ref09Next_b1 (N : Nat) (c1 : Ref09Cup) (r2 : List Ref09Pair) (rec3 : (Int × (List Ref09Match)) → Option ((List Ref09Match))) (n9 : Int) (l24 : List Ref09Match) : Option ((List Ref09Match)) :=
  if decide (n9 < (r2.length : Int)) then
    Option.bind (
      Option.bind (idx r2 n9) fun x46 =>
      Option.bind (ref09Known N c1 x46.fFirst) fun r181 =>
      Option.bind (ref09Known N c1 x46.fSecond) fun r182 =>
      Option.bind (
        if decide (r181 < 0) then
          some true
        else
          if decide (r182 < 0) then
            some true
          else
            Option.bind (ref09Won N c1 n9) fun r186 =>
            some (decide (0 ≤ r186))
      ) fun v24 =>
      if v24 then
        some l24
      else
        Option.bind (
          Option.bind (ref09Find N c1 n9) fun r192 =>
          if decide (0 ≤ r192) then
            Option.bind (idx c1.fResults r192) fun x48 =>
            Option.bind (ref09Wins N x48.fGames r181) fun r193 =>
            Option.bind (ref09Wins N x48.fGames r182) fun r194 =>
            some (Ref09Match.mk n9 r181 r182 r193 r194)
          else
            some (Ref09Match.mk n9 r181 r182 0 0)
        ) fun m12 =>
        Option.bind (app N l24 ([m12])) fun l27 =>
        some l27
    ) fun l26 =>
    rec3 ((w64 (n9 + 1), l26))
  else
    some l24
def ref09Next (N : Nat) (c1 : Ref09Cup) : Option ((List Ref09Match)) :=
  Option.bind (ref09Tree N c1) fun r2 =>
  Option.bind (
    loopN (fun rec3 x => ref09Next_b1 N c1 r2 rec3 x.1 x.2) N (0, [])
  ) fun l14 =>
  some l14
def ladderWinnerX (N : Nat) (c1 : LadderCup) : Option (Int × Int) :=
  Option.bind (ladderCupDraw N c1) fun z2 =>
  match z2 with
  | .inl r2 =>
    if !decide (r2 = 0) then
      some (0, r2)
    else
      none
  | .inr (ra2, rb2, rc2, rd2, re2, rf2, rg2, rh2) =>
    if !decide (ra2 = 0) then
      some (0, ra2)
    else
      Option.bind (ladderDrawLast N rb2 rc2 rd2 re2 rf2 rg2 rh2) fun r5 =>
      Option.bind (ladderDrawWonXXXXX N r5 rb2 rc2 rd2 re2 rf2 rg2 rh2) fun r6 =>
      if decide (r6 = (-1)) then
        some (0, 7)
      else
        Option.bind (ladderDrawMay N rb2 rc2 rd2 re2 rf2 rg2 rh2) fun r10 =>
        if decide (1 < (r10.length : Int)) then
          some (0, 8)
        else
          some (r6, 0)
def ladderDrawComes_f (N : Nat) (rec1 : (Int × Int × Int × Int × Int × (List LadderResult) × (List LadderPair) × (List (Int × LadderResult)) × (List (Ar2 Int))) → Option (Bool)) (p1 : Int) (match1 : Int) (c1 : Int) (c2 : Int) (c3 : Int) (c4 : List LadderResult) (c5 : List LadderPair) (m1 : List (Int × LadderResult)) (l1 : List (Ar2 Int)) : Option (Bool) :=
  Option.bind (ladderSides N) fun _ =>
  Option.bind (
    Option.bind (idx c5 match1) fun x12 =>
    Option.bind (ladderPairFirst N x12) fun r32 =>
    some r32
  ) fun c11 =>
  Option.bind (
    Option.bind (ladderPlayer N p1) fun r35 =>
    if decide (c11 = r35) then
      some true
    else
      if !decide (c11.fMatch = (-1)) then
        Option.bind (rec1 (p1, c11.fMatch, c1, c2, c3, c4, c5, m1, l1)) fun r36 =>
        some r36
      else
        some false
  ) fun v6 =>
  if v6 then
    some true
  else
    Option.bind (
      Option.bind (idx c5 match1) fun x16 =>
      Option.bind (ladderPairSecond N x16) fun r44 =>
      some r44
    ) fun c13 =>
    Option.bind (
      Option.bind (ladderPlayer N p1) fun r47 =>
      if decide (c13 = r47) then
        some true
      else
        if !decide (c13.fMatch = (-1)) then
          Option.bind (rec1 (p1, c13.fMatch, c1, c2, c3, c4, c5, m1, l1)) fun r48 =>
          some r48
        else
          some false
    ) fun v8 =>
    if v8 then
      some true
    else
      some false
def ladderDrawComes (N : Nat) (p1 : Int) (match1 : Int) (c1 : Int) (c2 : Int) (c3 : Int) (c4 : List LadderResult) (c5 : List LadderPair) (m1 : List (Int × LadderResult)) (l1 : List (Ar2 Int)) : Option (Bool) :=
  loopN (fun rr x => ladderDrawComes_f N rr x.1 x.2.1 x.2.2.1 x.2.2.2.1 x.2.2.2.2.1 x.2.2.2.2.2.1 x.2.2.2.2.2.2.1 x.2.2.2.2.2.2.2.1 x.2.2.2.2.2.2.2.2) N (p1, match1, c1, c2, c3, c4, c5, m1, l1)
def ladderWay1_f (N : Nat) (rec1 : (Int × Int × (List Int) × (List (LadderSpot × LadderCheapest)) × Int × Int × Int × (List LadderResult) × (List LadderPair) × (List (Int × LadderResult)) × (List (Ar2 Int))) → Option ((List Int))) (match1 : Int) (player1 : Int) (l1 : List Int) (m1 : List (LadderSpot × LadderCheapest)) (c1 : Int) (c2 : Int) (c3 : Int) (c4 : List LadderResult) (c5 : List LadderPair) (m2 : List (Int × LadderResult)) (l2 : List (Ar2 Int)) : Option ((List Int)) :=
  Option.bind (idx l1 match1) fun x2 =>
  Option.bind (mgt m1 (LadderSpot.mk match1 player1) (LadderCheapest.mk 0 0)) fun (v2, is2) =>
  Option.bind (ladderSides N) fun _ =>
  Option.bind (
    Option.bind (
      Option.bind (idx c5 match1) fun x6 =>
      Option.bind (ladderPairFirst N x6) fun r8 =>
      some ((r8, (List.set l1 (Int.toNat match1) player1)))
    ) fun (c7, l5) =>
    if decide (c7.fMatch = (-1)) then
      some l5
    else
      Option.bind (ladderDrawComes N player1 c7.fMatch c1 c2 c3 c4 c5 m2 l2) fun r10 =>
      if r10 then
        Option.bind (rec1 (c7.fMatch, player1, l5, m1, c1, c2, c3, c4, c5, m2, l2)) fun r11 =>
        some r11
      else
        Option.bind (rec1 (c7.fMatch, v2.fOther, l5, m1, c1, c2, c3, c4, c5, m2, l2)) fun r12 =>
        some r12
  ) fun l4 =>
  Option.bind (
    Option.bind (
      Option.bind (idx c5 match1) fun x10 =>
      Option.bind (ladderPairSecond N x10) fun r20 =>
      some r20
    ) fun c9 =>
    if decide (c9.fMatch = (-1)) then
      some l4
    else
      Option.bind (ladderDrawComes N player1 c9.fMatch c1 c2 c3 c4 c5 m2 l2) fun r22 =>
      if r22 then
        Option.bind (rec1 (c9.fMatch, player1, l4, m1, c1, c2, c3, c4, c5, m2, l2)) fun r23 =>
        some r23
      else
        Option.bind (rec1 (c9.fMatch, v2.fOther, l4, m1, c1, c2, c3, c4, c5, m2, l2)) fun r24 =>
        some r24
  ) fun l6 =>
  some l6
def ladderWay1 (N : Nat) (match1 : Int) (player1 : Int) (l1 : List Int) (m1 : List (LadderSpot × LadderCheapest)) (c1 : Int) (c2 : Int) (c3 : Int) (c4 : List LadderResult) (c5 : List LadderPair) (m2 : List (Int × LadderResult)) (l2 : List (Ar2 Int)) : Option ((List Int)) :=
  loopN (fun rr x => ladderWay1_f N rr x.1 x.2.1 x.2.2.1 x.2.2.2.1 x.2.2.2.2.1 x.2.2.2.2.2.1 x.2.2.2.2.2.2.1 x.2.2.2.2.2.2.2.1 x.2.2.2.2.2.2.2.2.1 x.2.2.2.2.2.2.2.2.2.1 x.2.2.2.2.2.2.2.2.2.2) N (match1, player1, l1, m1, c1, c2, c3, c4, c5, m2, l2)
def ladderWay (N : Nat) (c1 : LadderCup) (player1 : Int) : WP ((List Int) × Int) :=
  bindW (ladderCupAsked N c1 player1) fun z2 =>
  match z2 with
  | .inl r2 =>
    if !decide (r2 = 0) then
      retW ([], r2)
    else
      failW
  | .inr (ra2, rb2, rc2, rd2, re2, rf2, rg2, rh2, ri2) =>
    if !decide (ra2 = 0) then
      retW ([], ra2)
    else
      bindO (mkl N (rf2.length : Int) 0) fun l2 =>
      bindO (ladderDrawLast N rb2 rc2 rd2 re2 rf2 rh2 ri2) fun r5 =>
      bindO (ladderWay1 N r5 player1 l2 rg2 rb2 rc2 rd2 re2 rf2 rh2 ri2) fun r6 =>
      retW (r6, 0)
def ref09TreeX_k1 (N : Nat) (places9 : Int) (rec5 : (Int) → Option (Int))  : Option (Int) :=
  rec5 (w64 (places9 * 2))
def ref09TreeX_b2 (N : Nat) (c2 : Int) (rec5 : (Int) → Option (Int)) (places9 : Int) : Option (Int) :=
  if decide (places9 < c2) then
    ref09TreeX_k1 N places9 rec5
  else
    some places9
def ref09TreeX_b3 (N : Nat) (c2 : Int) (places5 : Int) (r2 : List Int) (rec7 : (Int × (List Ref09Side) × (List Bool)) → Option ((List Ref09Side) × (List Bool))) (i8 : Int) (l69 : List Ref09Side) (l70 : List Bool) : Option ((List Ref09Side) × (List Bool)) :=
  if decide (i8 < places5) then
    Option.bind (
      Option.bind (idx r2 i8) fun x12 =>
      Option.bind (app N l69 ([(Ref09Side.mk x12 (-1))])) fun l75 =>
      Option.bind (app N l70 ([decide (x12 < c2)])) fun l76 =>
      some (l75, l76)
    ) fun (l73, l74) =>
    rec7 ((w64 (i8 + 1), l73, l74))
  else
    some (l69, l70)
def ref09TreeX_b4 (N : Nat) (l1165 : List Ref09Side) (l1166 : List Bool) (rec21 : (Int × (List Ref09Pair) × (List Ref09Side) × (List Bool)) → Option ((List Ref09Pair) × (List Ref09Side) × (List Bool))) (i56 : Int) (l1346 : List Ref09Pair) (l1347 : List Ref09Side) (l1348 : List Bool) : Option ((List Ref09Pair) × (List Ref09Side) × (List Bool)) :=
  if decide (i56 < (l1165.length : Int)) then
    Option.bind (
      Option.bind (
        Option.bind (
          Option.bind (idx l1166 i56) fun x1587 =>
          if x1587 then
            Option.bind (idx l1166 (w64 (i56 + 1))) fun x1588 =>
            some x1588
          else
            some false
        ) fun v144 =>
        if v144 then
          Option.bind (app N l1347 ([(Ref09Side.mk (-1) (l1346.length : Int))])) fun l1374 =>
          Option.bind (idx l1165 i56) fun x1589 =>
          Option.bind (idx l1165 (w64 (i56 + 1))) fun x1590 =>
          Option.bind (app N l1346 ([(Ref09Pair.mk x1589 x1590)])) fun l1375 =>
          some (l1375, l1374)
        else
          Option.bind (idx l1166 i56) fun x1592 =>
          if x1592 then
            Option.bind (idx l1165 i56) fun x1593 =>
            Option.bind (app N l1347 ([x1593])) fun l1376 =>
            some (l1346, l1376)
          else
            Option.bind (idx l1165 (w64 (i56 + 1))) fun x1594 =>
            Option.bind (app N l1347 ([x1594])) fun l1377 =>
            some (l1346, l1377)
      ) fun (l1371, l1372) =>
      Option.bind (idx l1166 i56) fun x1595 =>
      if x1595 then
        Option.bind (app N l1348 ([true])) fun l1379 =>
        some (l1371, l1372, l1379)
      else
        Option.bind (idx l1166 (w64 (i56 + 1))) fun x1596 =>
        Option.bind (app N l1348 ([x1596])) fun l1378 =>
        some (l1371, l1372, l1378)
    ) fun (l1363, l1364, l1365) =>
    rec21 ((w64 (i56 + 2), l1363, l1364, l1365))
  else
    some (l1346, l1347, l1348)
def ref09TreeX_k5 (N : Nat) (l1164 : List Ref09Pair) (l1165 : List Ref09Side) (l1166 : List Bool) (rec19 : ((List Ref09Pair) × (List Ref09Side) × (List Bool)) → Option ((List Ref09Pair)))  : Option ((List Ref09Pair)) :=
  Option.bind (
    loopN (fun rec21 x => ref09TreeX_b4 N l1165 l1166 rec21 x.1 x.2.1 x.2.2.1 x.2.2.2) N (0, l1164, [], [])
  ) fun (l1272, l1273, l1274) =>
  rec19 (l1272, l1273, l1274)
def ref09TreeX_b6 (N : Nat)  (rec19 : ((List Ref09Pair) × (List Ref09Side) × (List Bool)) → Option ((List Ref09Pair))) (l1164 : List Ref09Pair) (l1165 : List Ref09Side) (l1166 : List Bool) : Option ((List Ref09Pair)) :=
  if decide (1 < (l1165.length : Int)) then
    ref09TreeX_k5 N l1164 l1165 l1166 rec19
  else
    some l1164
def ref09TreeX_k7 (N : Nat) (c2 : Int)  : Option ((List Ref09Pair)) :=
  Option.bind (
    loopN (fun rec5 x => ref09TreeX_b2 N c2 rec5 x) N 1
  ) fun places5 =>
  Option.bind (ref09Order N places5) fun r2 =>
  Option.bind (
    loopN (fun rec7 x => ref09TreeX_b3 N c2 places5 r2 rec7 x.1 x.2.1 x.2.2) N (0, [], [])
  ) fun (l49, l50) =>
  Option.bind (
    loopN (fun rec19 x => ref09TreeX_b6 N rec19 x.1 x.2.1 x.2.2) N ([], l49, l50)
  ) fun l728 =>
  some l728
def ref09TreeX_b8 (N : Nat) (c2 : Int) (rec23 : (Int × (List Ref09Pair)) → Option ((List Ref09Pair))) (n37 : Int) (l1398 : List Ref09Pair) : Option ((List Ref09Pair)) :=
  if decide (n37 < (w64 (c2 - 1))) then
    Option.bind (
      if decide (n37 = 0) then
        some ((Ref09Side.mk (w64 (c2 - 1)) (-1)))
      else
        some ((Ref09Side.mk (-1) (w64 (n37 - 1))))
    ) fun c27 =>
    Option.bind (app N l1398 ([(Ref09Pair.mk (Ref09Side.mk (w64 ((w64 (c2 - 2)) - n37)) (-1)) c27)])) fun l1400 =>
    rec23 ((w64 (n37 + 1), l1400))
  else
    some l1398
def ref09TreeX (N : Nat) (c1 : Int) (c2 : Int) (c3 : Int) (l1 : List Ref09Result) : Option ((List Ref09Pair)) :=
  if decide (c1 = 1) then
    Option.bind (
      loopN (fun rec23 x => ref09TreeX_b8 N c2 rec23 x.1 x.2) N (0, [])
    ) fun l1390 =>
    some l1390
  else
    ref09TreeX_k7 N c2
def ref09FindX_k1 (N : Nat)   : Option (Int) :=
  some (-1)
def ref09FindX_b2 (N : Nat) (match1 : Int) (l1 : List Ref09Result) (rec3 : (Int) → Option (Int)) (i8 : Int) : Option (Int) :=
  if decide (i8 < (l1.length : Int)) then
    Option.bind (idx l1 i8) fun x24 =>
    if decide (x24.fMatch = match1) then
      some i8
    else
      rec3 (w64 (i8 + 1))
  else
    ref09FindX_k1 N
def ref09FindX (N : Nat) (c1 : Int) (c2 : Int) (c3 : Int) (match1 : Int) (l1 : List Ref09Result) : Option (Int) :=
  loopN (fun rec3 x => ref09FindX_b2 N match1 l1 rec3 x) N 0
def ref09DecidedX_k1 (N : Nat)   : Option (Int) :=
  some (-1)
def ref09DecidedX_b2 (N : Nat) (c3 : Int) (games1 : List Int) (rec3 : (Int) → Option (Int)) (i8 : Int) : Option (Int) :=
  if decide (i8 < (games1.length : Int)) then
    Option.bind (idx games1 i8) fun x24 =>
    Option.bind (ref09Wins N games1 x24) fun r24 =>
    if decide (c3 < (w64 (2 * r24))) then
      some x24
    else
      rec3 (w64 (i8 + 1))
  else
    ref09DecidedX_k1 N
def ref09DecidedX (N : Nat) (c1 : Int) (c2 : Int) (c3 : Int) (games1 : List Int) (l1 : List Ref09Result) : Option (Int) :=
  loopN (fun rec3 x => ref09DecidedX_b2 N c3 games1 rec3 x) N 0
def ref09WonX (N : Nat) (c1 : Int) (c2 : Int) (c3 : Int) (match1 : Int) (l1 : List Ref09Result) : Option (Int) :=
  Option.bind (ref09FindX N c1 c2 c3 match1 l1) fun r2 =>
  if decide (r2 < 0) then
    some (-1)
  else
    Option.bind (idx l1 r2) fun x2 =>
    Option.bind (ref09DecidedX N c1 c2 c3 x2.fGames l1) fun r4 =>
    some r4
def ref09KnownX (N : Nat) (c1 : Int) (c2 : Int) (c3 : Int) (s1 : Ref09Side) (l1 : List Ref09Result) : Option (Int) :=
  if decide (s1.fMatch < 0) then
    some s1.fPlayer
  else
    Option.bind (ref09WonX N c1 c2 c3 s1.fMatch l1) fun r2 =>
    some r2
def ref09NextX_b1 (N : Nat) (c1 : Int) (c2 : Int) (c3 : Int) (l1 : List Ref09Result) (r2 : List Ref09Pair) (rec3 : (Int × (List Ref09Match)) → Option ((List Ref09Match))) (n9 : Int) (l25 : List Ref09Match) : Option ((List Ref09Match)) :=
  if decide (n9 < (r2.length : Int)) then
    Option.bind (
      Option.bind (idx r2 n9) fun x46 =>
      Option.bind (ref09KnownX N c1 c2 c3 x46.fFirst l1) fun r181 =>
      Option.bind (ref09KnownX N c1 c2 c3 x46.fSecond l1) fun r182 =>
      Option.bind (
        if decide (r181 < 0) then
          some true
        else
          if decide (r182 < 0) then
            some true
          else
            Option.bind (ref09WonX N c1 c2 c3 n9 l1) fun r186 =>
            some (decide (0 ≤ r186))
      ) fun v24 =>
      if v24 then
        some l25
      else
        Option.bind (
          Option.bind (ref09FindX N c1 c2 c3 n9 l1) fun r192 =>
          if decide (0 ≤ r192) then
            Option.bind (idx l1 r192) fun x48 =>
            Option.bind (ref09Wins N x48.fGames r181) fun r193 =>
            Option.bind (ref09Wins N x48.fGames r182) fun r194 =>
            some (Ref09Match.mk n9 r181 r182 r193 r194)
          else
            some (Ref09Match.mk n9 r181 r182 0 0)
        ) fun c15 =>
        Option.bind (app N l25 ([c15])) fun l28 =>
        some l28
    ) fun l27 =>
    rec3 ((w64 (n9 + 1), l27))
  else
    some l25
def ref09NextX (N : Nat) (c1 : Int) (c2 : Int) (c3 : Int) (l1 : List Ref09Result) : Option ((List Ref09Match)) :=
  Option.bind (ref09TreeX N c1 c2 c3 l1) fun r2 =>
  Option.bind (
    loopN (fun rec3 x => ref09NextX_b1 N c1 c2 c3 l1 r2 rec3 x.1 x.2) N (0, [])
  ) fun l15 =>
  some l15
def law09CupX_b1 (N : Nat) (l1 : List Ref09Result) (rec3 : (Int × (List LadderResult)) → Option ((List LadderResult))) (i8 : Int) (l20 : List LadderResult) : Option ((List LadderResult)) :=
  if decide (i8 < (l1.length : Int)) then
    Option.bind (idx l1 i8) fun x24 =>
    Option.bind (law09List N x24.fGames) fun r12 =>
    Option.bind (app N l20 ([(LadderResult.mk x24.fMatch r12 x24.fProtested)])) fun l22 =>
    rec3 ((w64 (i8 + 1), l22))
  else
    some l20
def law09CupX (N : Nat) (c1 : Int) (c2 : Int) (c3 : Int) (l1 : List Ref09Result) : Option (LadderCup) :=
  Option.bind (
    loopN (fun rec3 x => law09CupX_b1 N l1 rec3 x.1 x.2) N (0, [])
  ) fun l12 =>
  some (LadderCup.mk c1 c2 c3 l12)
end
end Go.Proofs.Ytbceakhnnnfiaaa
