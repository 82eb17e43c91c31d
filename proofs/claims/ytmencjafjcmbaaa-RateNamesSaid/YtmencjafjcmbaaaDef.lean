/-
  The functions of the program and of the document, typed, by fuel; printed by a program off the translation. No program in sight.
-/
import Derived.Test.YtmencjafjcmbaaaPre
namespace Go.Proofs.Ytmencjafjcmbaaa
open Go.Kp
set_option linter.all false
noncomputable section

structure Ref07Law where
  fBase : Int
  fPercent : Int
  fCap : Int
  fLeast : Int
  fBlind : Int
  deriving DecidableEq

structure Ref07Sheet where
  fNumber : Int
  fBowler : Int
  fWeek : Int
  fGames : Ar3 Int
  deriving DecidableEq

structure Ref07Book where
  fLaw : Ref07Law
  fBowlers : List Int
  fSheets : List Ref07Sheet
  fWithdrawn : List Int
  deriving DecidableEq

structure RateLaw where
  fBase : Int
  fPercent : Int
  fCap : Int
  fLeast : Int
  fBlind : Int
  deriving DecidableEq

structure RateSheet where
  fNumber : Int
  fBowler : Int
  fWeek : Int
  fGames : Ar3 Int
  deriving DecidableEq

structure RateBook where
  fLaw : RateLaw
  fBowlers : List Int
  fSheets : List RateSheet
  fWithdrawn : List Int
  deriving DecidableEq

structure RateTurn where
  fBowler : Int
  fWeek : Int
  deriving DecidableEq

structure RateRange where
  fLo : Int
  fHi : Int
  deriving DecidableEq

def law07Thin (N : Nat) (b1 : Ref07Book) : Option (Bool) :=
  Option.bind (
    if decide ((b1.fBowlers.length : Int) ≤ 12) then
      if decide ((b1.fSheets.length : Int) ≤ 45) then
        some (decide ((b1.fWithdrawn.length : Int) ≤ 45))
      else
        some false
    else
      some false
  ) fun v1 =>
  some v1

def law07Season (N : Nat)  : Option (Int × Int × Int × Int × Int × (List Int) × (List RateSheet)) :=
  some ((200, 80, 60, 6, 10, [150, 170], [(RateSheet.mk 1 0 1 (Ar3.mk 140 160 150)), (RateSheet.mk 2 0 2 (Ar3.mk 180 130 141)), (RateSheet.mk 3 1 1 (Ar3.mk 200 190 180)), (RateSheet.mk 4 0 2 (Ar3.mk 180 130 171))]))

def rateWithin (N : Nat) (n1 : Int) (low1 : Int) (high1 : Int) : Option (Bool) :=
  Option.bind (
    if decide (low1 ≤ n1) then
      some (decide (n1 ≤ high1))
    else
      some false
  ) fun v1 =>
  some v1

def rateCount (N : Nat) (n1 : Int) : Option (Bool) :=
  Option.bind (rateWithin N n1 0 300) fun r2 =>
  some r2

def rateLawValid (N : Nat) (l1 : RateLaw) : Option (Bool) :=
  Option.bind (
    Option.bind (rateCount N l1.fBase) fun r6 =>
    if r6 then
      Option.bind (rateWithin N l1.fPercent 0 100) fun r7 =>
      if r7 then
        Option.bind (rateCount N l1.fCap) fun r8 =>
        if r8 then
          Option.bind (rateWithin N l1.fLeast 1 30) fun r9 =>
          if r9 then
            Option.bind (rateCount N l1.fBlind) fun r10 =>
            some r10
          else
            some false
        else
          some false
      else
        some false
    else
      some false
  ) fun v1 =>
  some v1

def rateAll1 (N : Nat) (x1 : Int) : Option (Bool) :=
  Option.bind (rateCount N x1) fun r2 =>
  some (!r2)

def slicesIndexFunc_k1 (N : Nat)   : Option (Int) :=
  some (-1)

def slicesIndexFunc_b2 (N : Nat) (s1 : List Int) (rec3 : (Int × Int) → Option (Int)) (v17 : Int) (v18 : Int) : Option (Int) :=
  if decide (v18 < v17) then
    Option.bind (idx s1 v18) fun x24 =>
    Option.bind (rateAll1 N x24) fun r24 =>
    if r24 then
      some v18
    else
      rec3 ((v17, w64 (v18 + 1)))
  else
    slicesIndexFunc_k1 N

def slicesIndexFunc (N : Nat) (s1 : List Int) : Option (Int) :=
  loopN (fun rec3 x => slicesIndexFunc_b2 N s1 rec3 x.1 x.2) N (((s1.length : Int), 0))

def slicesContainsFunc (N : Nat) (s1 : List Int) : Option (Bool) :=
  Option.bind (slicesIndexFunc N s1) fun r2 =>
  some (decide (0 ≤ r2))

def rateAll (N : Nat) (l1 : List Int) : Option (Bool) :=
  Option.bind (slicesContainsFunc N l1) fun r2 =>
  some (!r2)

def rateNumber (N : Nat) (n1 : Int) : Option (Bool) :=
  Option.bind (rateWithin N n1 1 999) fun r2 =>
  some r2

def rateBookBowler (N : Nat) (b1 : RateBook) (n1 : Int) : Option (Bool) :=
  Option.bind (rateWithin N n1 0 (w64 ((b1.fBowlers.length : Int) - 1))) fun r2 =>
  some r2

def rateWeek (N : Nat) (n1 : Int) : Option (Bool) :=
  Option.bind (rateWithin N n1 1 30) fun r2 =>
  some r2

def rateBookSheet (N : Nat) (b1 : RateBook) (s1 : RateSheet) : Option (Bool) :=
  Option.bind (
    Option.bind (rateNumber N s1.fNumber) fun r5 =>
    if r5 then
      Option.bind (rateBookBowler N b1 s1.fBowler) fun r6 =>
      if r6 then
        Option.bind (rateWeek N s1.fWeek) fun r7 =>
        if r7 then
          Option.bind (rateAll N ([s1.fGames.a0, s1.fGames.a1, s1.fGames.a2] : List Int)) fun r8 =>
          some r8
        else
          some false
      else
        some false
    else
      some false
  ) fun v1 =>
  some v1

def rateAll1X (N : Nat) (x1 : RateSheet) (a1 : RateBook) : Option (Bool) :=
  Option.bind (rateBookSheet N a1 x1) fun r2 =>
  some (!r2)

def slicesIndexFuncX_k1 (N : Nat)   : Option (Int) :=
  some (-1)

def slicesIndexFuncX_b2 (N : Nat) (s1 : List RateSheet) (f1 : RateBook) (rec3 : (Int × Int) → Option (Int)) (v17 : Int) (v18 : Int) : Option (Int) :=
  if decide (v18 < v17) then
    Option.bind (idx s1 v18) fun x24 =>
    Option.bind (rateAll1X N x24 f1) fun r24 =>
    if r24 then
      some v18
    else
      rec3 ((v17, w64 (v18 + 1)))
  else
    slicesIndexFuncX_k1 N

def slicesIndexFuncX (N : Nat) (s1 : List RateSheet) (f1 : RateBook) : Option (Int) :=
  loopN (fun rec3 x => slicesIndexFuncX_b2 N s1 f1 rec3 x.1 x.2) N (((s1.length : Int), 0))

def slicesContainsFuncX (N : Nat) (s1 : List RateSheet) (f1 : RateBook) : Option (Bool) :=
  Option.bind (slicesIndexFuncX N s1 f1) fun r2 =>
  some (decide (0 ≤ r2))

def rateAllX (N : Nat) (l1 : List RateSheet) (right1 : RateBook) : Option (Bool) :=
  Option.bind (slicesContainsFuncX N l1 right1) fun r2 =>
  some (!r2)

def rateAll1XX (N : Nat) (x1 : Int) : Option (Bool) :=
  Option.bind (rateNumber N x1) fun r2 =>
  some (!r2)

def slicesIndexFuncXX_k1 (N : Nat)   : Option (Int) :=
  some (-1)

def slicesIndexFuncXX_b2 (N : Nat) (s1 : List Int) (rec3 : (Int × Int) → Option (Int)) (v17 : Int) (v18 : Int) : Option (Int) :=
  if decide (v18 < v17) then
    Option.bind (idx s1 v18) fun x24 =>
    Option.bind (rateAll1XX N x24) fun r24 =>
    if r24 then
      some v18
    else
      rec3 ((v17, w64 (v18 + 1)))
  else
    slicesIndexFuncXX_k1 N

def slicesIndexFuncXX (N : Nat) (s1 : List Int) : Option (Int) :=
  loopN (fun rec3 x => slicesIndexFuncXX_b2 N s1 rec3 x.1 x.2) N (((s1.length : Int), 0))

def slicesContainsFuncXX (N : Nat) (s1 : List Int) : Option (Bool) :=
  Option.bind (slicesIndexFuncXX N s1) fun r2 =>
  some (decide (0 ≤ r2))

def rateAllXX (N : Nat) (l1 : List Int) : Option (Bool) :=
  Option.bind (slicesContainsFuncXX N l1) fun r2 =>
  some (!r2)

def rateRising_k1 (N : Nat)   : Option (Bool) :=
  some true

def rateRising_b2 (N : Nat) (l1 : List Int) (rec3 : (Int × Int) → Option (Bool)) (v23 : Int) (v24 : Int) : Option (Bool) :=
  if decide (v24 < v23) then
    Option.bind (
      if decide (0 < v24) then
        Option.bind (idx l1 v24) fun x31 =>
        Option.bind (idx l1 (w64 (v24 - 1))) fun x32 =>
        some (decide (x31 ≤ x32))
      else
        some false
    ) fun v26 =>
    if v26 then
      some false
    else
      rec3 ((v23, w64 (v24 + 1)))
  else
    rateRising_k1 N

def rateRising (N : Nat) (l1 : List Int) : Option (Bool) :=
  loopN (fun rec3 x => rateRising_b2 N l1 rec3 x.1 x.2) N (((l1.length : Int), 0))

def rateCheckBook_k1 (N : Nat)   : Option (Int) :=
  some 0

def rateCheckBook_k2 (N : Nat) (v171 : Int) (v172 : Int) (rec13 : (Int × Int) → Option (Int))  : Option (Int) :=
  rec13 ((v171, w64 (v172 + 1)))

def rateCheckBook_b3 (N : Nat) (v171 : Int) (v172 : Int) (rec13 : (Int × Int) → Option (Int)) (x156 : RateSheet) (l24 : List RateSheet) (rec15 : (Int × Int) → Option (Int)) (v199 : Int) (v200 : Int) : Option (Int) :=
  if decide (v200 < v199) then
    Option.bind (idx l24 v200) fun x168 =>
    Option.bind (
      if decide (x156.fNumber = x168.fNumber) then
        if !decide (x156.fBowler = x168.fBowler) then
          some true
        else
          if !decide (x156.fWeek = x168.fWeek) then
            some true
          else
            some (!decide (x156.fGames = x168.fGames))
      else
        some false
    ) fun v202 =>
    if v202 then
      some 6
    else
      rec15 ((v199, w64 (v200 + 1)))
  else
    rateCheckBook_k2 N v171 v172 rec13

def rateCheckBook_b4 (N : Nat) (b1 : RateBook) (rec13 : (Int × Int) → Option (Int)) (v171 : Int) (v172 : Int) : Option (Int) :=
  if decide (v172 < v171) then
    Option.bind (idx b1.fSheets v172) fun x156 =>
    Option.bind (slc b1.fSheets 0 v172) fun l24 =>
    loopN (fun rec15 x => rateCheckBook_b3 N v171 v172 rec13 x156 l24 rec15 x.1 x.2) N (((l24.length : Int), 0))
  else
    rateCheckBook_k1 N

def rateCheckBook (N : Nat) (b1 : RateBook) : Option (Int) :=
  Option.bind (
    if decide (8 < (b1.fBowlers.length : Int)) then
      some true
    else
      if decide (40 < (b1.fSheets.length : Int)) then
        some true
      else
        some (decide (40 < (b1.fWithdrawn.length : Int)))
  ) fun v3 =>
  if v3 then
    some 3
  else
    Option.bind (
      Option.bind (rateLawValid N b1.fLaw) fun r16 =>
      if !r16 then
        some true
      else
        Option.bind (rateAll N b1.fBowlers) fun r17 =>
        if !r17 then
          some true
        else
          Option.bind (rateAllX N b1.fSheets b1) fun r18 =>
          if !r18 then
            some true
          else
            Option.bind (rateAllXX N b1.fWithdrawn) fun r19 =>
            if !r19 then
              some true
            else
              Option.bind (rateRising N b1.fWithdrawn) fun r20 =>
              some (!r20)
    ) fun v4 =>
    if v4 then
      some 1
    else
      loopN (fun rec13 x => rateCheckBook_b4 N b1 rec13 x.1 x.2) N (((b1.fSheets.length : Int), 0))

def slicesIndex_k1 (N : Nat)   : Option (Int) :=
  some (-1)

def slicesIndex_b2 (N : Nat) (s1 : List Int) (v1 : Int) (rec3 : (Int × Int) → Option (Int)) (v18 : Int) (v19 : Int) : Option (Int) :=
  if decide (v19 < v18) then
    Option.bind (idx s1 v19) fun x24 =>
    if decide (v1 = x24) then
      some v19
    else
      rec3 ((v18, w64 (v19 + 1)))
  else
    slicesIndex_k1 N

def slicesIndex (N : Nat) (s1 : List Int) (v1 : Int) : Option (Int) :=
  loopN (fun rec3 x => slicesIndex_b2 N s1 v1 rec3 x.1 x.2) N (((s1.length : Int), 0))

def slicesContains (N : Nat) (s1 : List Int) (v1 : Int) : Option (Bool) :=
  Option.bind (slicesIndex N s1 v1) fun r2 =>
  some (decide (0 ≤ r2))

def rateBookRead_b1 (N : Nat) (b1 : RateBook) (rec3 : (Int × Int × (List (RateTurn × RateSheet))) → Option ((List (RateTurn × RateSheet)))) (v47 : Int) (v48 : Int) (m14 : List (RateTurn × RateSheet)) : Option ((List (RateTurn × RateSheet))) :=
  if decide (v48 < v47) then
    Option.bind (
      Option.bind (idx b1.fSheets v48) fun x24 =>
      Option.bind (
        Option.bind (mgt m14 (RateTurn.mk x24.fBowler x24.fWeek) ((RateSheet.mk 0 0 0 (Ar3.mk 0 0 0)))) fun (v53, is36) =>
        some (is36, v53)
      ) fun (is35, c12) =>
      Option.bind (
        Option.bind (slicesContains N b1.fWithdrawn x24.fNumber) fun r28 =>
        if !r28 then
          if !is35 then
            some true
          else
            some (decide (c12.fNumber < x24.fNumber))
        else
          some false
      ) fun v54 =>
      if v54 then
        some ((mput m14 (RateTurn.mk x24.fBowler x24.fWeek) x24))
      else
        some m14
    ) fun m15 =>
    rec3 ((v47, w64 (v48 + 1), m15))
  else
    some m14

def rateBookRead (N : Nat) (b1 : RateBook) : Option (Int ⊕ (Int × Int × Int × Int × Int × Int × (List Int) × (List RateSheet) × (List Int) × (List (RateTurn × RateSheet)))) :=
  Option.bind (rateCheckBook N b1) fun r4 =>
  if !decide (r4 = 0) then
    some (.inl r4)
  else
    Option.bind (
      loopN (fun rec3 x => rateBookRead_b1 N b1 rec3 x.1 x.2.1 x.2.2) N (((b1.fSheets.length : Int), 0, []))
    ) fun m8 =>
    some (.inr (0, b1.fLaw.fBase, b1.fLaw.fPercent, b1.fLaw.fCap, b1.fLaw.fLeast, b1.fLaw.fBlind, b1.fBowlers, b1.fSheets, b1.fWithdrawn, m8))

def rateCountingW_k1 (N : Nat)  (l8 : List Int) : WP ((List Int) × Int) :=
  bindO (sortI N l8) fun r4 =>
  retW (r4, 0)

def rateCountingW_b2 (N : Nat)  (rec3 : ((List Int) × (List (RateTurn × RateSheet))) → WP ((List Int) × Int)) (l14 : List Int) (rem18 : List (RateTurn × RateSheet)) : WP ((List Int) × Int) :=
  nextW rem18 (
    rateCountingW_k1 N l14
  ) fun (k12, v18) rem20 =>
  bindO (app N l14 ([v18.fNumber])) fun l15 =>
  rec3 (l15, rem20)

def rateCountingW (N : Nat) (b1 : RateBook) : WP ((List Int) × Int) :=
  bindO (rateBookRead N b1) fun z2 =>
  match z2 with
  | .inl r2 =>
    if !decide (r2 = 0) then
      retW ([], r2)
    else
      failW
  | .inr (ra2, rb2, rc2, rd2, re2, rf2, rg2, rh2, ri2, rj2) =>
    if !decide (ra2 = 0) then
      retW ([], ra2)
    else
      loopW (fun rec3 x => rateCountingW_b2 N rec3 x.1 x.2) N ([], rj2)

def rateCounting (N : Nat) (b1 : RateBook) : Option ((List Int) × Int) := det (rateCountingW N b1)

def rateBookAsked (N : Nat) (b1 : RateBook) (bowler1 : Int) (w1 : Int) : Option (Int ⊕ (Int × Int × Int × Int × Int × Int × (List Int) × (List RateSheet) × (List Int) × (List (RateTurn × RateSheet)))) :=
  Option.bind (rateBookRead N b1) fun z2 =>
  match z2 with
  | .inl r2 =>
    Option.bind (
      Option.bind (
        if decide (r2 = 0) then
          Option.bind (rateBookBowler N b1 bowler1) fun r9 =>
          if !r9 then
            some true
          else
            Option.bind (rateWeek N w1) fun r10 =>
            some (!r10)
        else
          some false
      ) fun v2 =>
      if v2 then
        some 2
      else
        some r2
    ) fun e1 =>
    some (.inl e1)
  | .inr (ra2, rb2, rc2, rd2, re2, rf2, rg2, rh2, ri2, rj2) =>
    Option.bind (
      Option.bind (
        if decide (ra2 = 0) then
          Option.bind (rateBookBowler N b1 bowler1) fun r17 =>
          if !r17 then
            some true
          else
            Option.bind (rateWeek N w1) fun r18 =>
            some (!r18)
        else
          some false
      ) fun v4 =>
      if v4 then
        some 2
      else
        some ra2
    ) fun e2 =>
    some (.inr (e2, rb2, rc2, rd2, re2, rf2, rg2, rh2, ri2, rj2))

def rateSum_b1 (N : Nat) (l1 : List Int) (rec3 : (Int × Int × Int) → Option (Int)) (n10 : Int) (v17 : Int) (v18 : Int) : Option (Int) :=
  if decide (v18 < v17) then
    Option.bind (idx l1 v18) fun x24 =>
    rec3 ((w64 (n10 + x24), v17, w64 (v18 + 1)))
  else
    some n10

def rateSum (N : Nat) (l1 : List Int) : Option (Int) :=
  Option.bind (
    loopN (fun rec3 x => rateSum_b1 N l1 rec3 x.1 x.2.1 x.2.2) N ((0, (l1.length : Int), 0))
  ) fun n6 =>
  some n6

def rateReadCounting (N : Nat) (bowler1 : Int) (before1 : Int) (c1 : Int) (c2 : Int) (c3 : Int) (c4 : Int) (c5 : Int) (c6 : List Int) (c7 : List RateSheet) (c8 : List Int) (m1 : List (RateTurn × RateSheet)) : Option (Int × Int) :=
  some (before1, bowler1)

def rateReadAverage_b1 (N : Nat) (m1 : List (RateTurn × RateSheet)) (ra4 : Int) (rb4 : Int) (rec3 : (Int × Int × Int) → Option (Int × Int)) (games8 : Int) (c57 : Int) (c58 : Int) : Option (Int × Int) :=
  if decide (games8 < ra4) then
    Option.bind (
      Option.bind (mgt m1 (RateTurn.mk rb4 games8) ((RateSheet.mk 0 0 0 (Ar3.mk 0 0 0)))) fun (v24, is24) =>
      some (is24, v24)
    ) fun (besides13, c62) =>
    Option.bind (
      if besides13 then
        Option.bind (rateSum N ([c62.fGames.a0, c62.fGames.a1, c62.fGames.a2] : List Int)) fun r49 =>
        Option.bind (rateSum N ([c58, r49])) fun r50 =>
        some ((w64 (c57 + 3), r50))
      else
        some (c57, c58)
    ) fun (c63, c64) =>
    rec3 ((w64 (games8 + 1), c63, c64))
  else
    some (c57, c58)

def rateReadAverage (N : Nat) (bowler1 : Int) (before1 : Int) (besides1 : List Int) (c1 : Int) (c2 : Int) (c3 : Int) (c4 : Int) (c5 : Int) (c6 : List Int) (c7 : List RateSheet) (c8 : List Int) (m1 : List (RateTurn × RateSheet)) : Option (Int) :=
  Option.bind (rateSum N besides1) fun r2 =>
  Option.bind (
    Option.bind (rateReadCounting N bowler1 before1 c1 c2 c3 c4 c5 c6 c7 c8 m1) fun (ra4, rb4) =>
    loopN (fun rec3 x => rateReadAverage_b1 N m1 ra4 rb4 rec3 x.1 x.2.1 x.2.2) N ((0, (besides1.length : Int), r2))
  ) fun (c36, c37) =>
  if decide (c36 < c4) then
    Option.bind (idx c6 bowler1) fun x4 =>
    some x4
  else
    Option.bind (nz c36) fun _ =>
    some (w64 (Int.tdiv c37 c36))

def rateAverage (N : Nat) (b1 : RateBook) (bowler1 : Int) (week1 : Int) : Option (Int × Int) :=
  Option.bind (rateBookAsked N b1 bowler1 week1) fun z2 =>
  match z2 with
  | .inl r2 =>
    if !decide (r2 = 0) then
      some (0, r2)
    else
      none
  | .inr (ra2, rb2, rc2, rd2, re2, rf2, rg2, rh2, ri2, rj2) =>
    if !decide (ra2 = 0) then
      some (0, ra2)
    else
      Option.bind (rateReadAverage N bowler1 week1 ([]) rb2 rc2 rd2 re2 rf2 rg2 rh2 ri2 rj2) fun r4 =>
      some (r4, 0)

def rateReadHandicap (N : Nat) (bowler1 : Int) (before1 : Int) (c1 : Int) (c2 : Int) (c3 : Int) (c4 : Int) (c5 : Int) (c6 : List Int) (c7 : List RateSheet) (c8 : List Int) (m1 : List (RateTurn × RateSheet)) : Option (Int) :=
  Option.bind (rateReadAverage N bowler1 before1 ([]) c1 c2 c3 c4 c5 c6 c7 c8 m1) fun r2 =>
  some (min (max 0 (w64 (Int.tdiv (w64 ((w64 (c1 - r2)) * c2)) 100))) c3)

def rateHandicap (N : Nat) (b1 : RateBook) (bowler1 : Int) (week1 : Int) : Option (Int × Int) :=
  Option.bind (rateBookAsked N b1 bowler1 week1) fun z2 =>
  match z2 with
  | .inl r2 =>
    if !decide (r2 = 0) then
      some (0, r2)
    else
      none
  | .inr (ra2, rb2, rc2, rd2, re2, rf2, rg2, rh2, ri2, rj2) =>
    if !decide (ra2 = 0) then
      some (0, ra2)
    else
      Option.bind (rateReadHandicap N bowler1 week1 rb2 rc2 rd2 re2 rf2 rg2 rh2 ri2 rj2) fun r4 =>
      some (r4, 0)

def slicesGrow (N : Nat) (n1 : Int) : Option ((List Int)) :=
  if decide (n1 < 0) then
    none
  else
    Option.bind (
      if decide (0 < (w64 (n1 - 0))) then
        Option.bind (mklp N (w64 (n1 - 0)) 0) fun l4 =>
        Option.bind (slc l4 0 0) fun l5 =>
        some l5
      else
        some ([])
    ) fun l3 =>
    some l3

def slicesConcat_b1 (N : Nat) (slices1 : List (List Int)) (rec3 : (Int × Int × Int) → Option (Int)) (size9 : Int) (v17 : Int) (v18 : Int) : Option (Int) :=
  if decide (v18 < v17) then
    Option.bind (idx slices1 v18) fun x24 =>
    if decide ((w64 (size9 + (x24.length : Int))) < 0) then
      none
    else
      rec3 ((w64 (size9 + (x24.length : Int)), v17, w64 (v18 + 1)))
  else
    some size9

def slicesConcat_b2 (N : Nat) (slices1 : List (List Int)) (rec5 : (Int × Int × (List Int)) → Option ((List Int))) (v35 : Int) (v36 : Int) (l19 : List Int) : Option ((List Int)) :=
  if decide (v36 < v35) then
    Option.bind (idx slices1 v36) fun x48 =>
    Option.bind (app N l19 x48) fun l21 =>
    rec5 ((v35, w64 (v36 + 1), l21))
  else
    some l19

def slicesConcat (N : Nat) (slices1 : List (List Int)) : Option ((List Int)) :=
  Option.bind (
    loopN (fun rec3 x => slicesConcat_b1 N slices1 rec3 x.1 x.2.1 x.2.2) N ((0, (slices1.length : Int), 0))
  ) fun size5 =>
  Option.bind (slicesGrow N size5) fun r2 =>
  Option.bind (
    loopN (fun rec5 x => slicesConcat_b2 N slices1 rec5 x.1 x.2.1 x.2.2) N (((slices1.length : Int), 0, r2))
  ) fun l11 =>
  some l11

def rateAll1XXX (N : Nat) (x1 : Int) (a1 : RateBook) : Option (Bool) :=
  Option.bind (rateBookBowler N a1 x1) fun r2 =>
  some (!r2)

def slicesIndexFuncXXX_k1 (N : Nat)   : Option (Int) :=
  some (-1)

def slicesIndexFuncXXX_b2 (N : Nat) (f1 : RateBook) (l1 : List Int) (rec3 : (Int × Int) → Option (Int)) (v17 : Int) (v18 : Int) : Option (Int) :=
  if decide (v18 < v17) then
    Option.bind (idx l1 v18) fun x24 =>
    Option.bind (rateAll1XXX N x24 f1) fun r24 =>
    if r24 then
      some v18
    else
      rec3 ((v17, w64 (v18 + 1)))
  else
    slicesIndexFuncXXX_k1 N

def slicesIndexFuncXXX (N : Nat) (f1 : RateBook) (l1 : List Int) : Option (Int) :=
  loopN (fun rec3 x => slicesIndexFuncXXX_b2 N f1 l1 rec3 x.1 x.2) N (((l1.length : Int), 0))

def slicesContainsFuncXXX (N : Nat) (f1 : RateBook) (l1 : List Int) : Option (Bool) :=
  Option.bind (slicesIndexFuncXXX N f1 l1) fun r2 =>
  some (decide (0 ≤ r2))

def rateAllXXX (N : Nat) (right1 : RateBook) (l1 : List Int) : Option (Bool) :=
  Option.bind (slicesContainsFuncXXX N right1 l1) fun r2 =>
  some (!r2)

def rateRisingX_k1 (N : Nat)   : Option (Bool) :=
  some true

def rateRisingX_b2 (N : Nat) (l1 : List Int) (rec3 : (Int × Int) → Option (Bool)) (v23 : Int) (v24 : Int) : Option (Bool) :=
  if decide (v24 < v23) then
    Option.bind (
      if decide (0 < v24) then
        Option.bind (idx l1 v24) fun x31 =>
        Option.bind (idx l1 (w64 (v24 - 1))) fun x32 =>
        some (decide (x31 ≤ x32))
      else
        some false
    ) fun v26 =>
    if v26 then
      some false
    else
      rec3 ((v23, w64 (v24 + 1)))
  else
    rateRisingX_k1 N

def rateRisingX (N : Nat) (l1 : List Int) : Option (Bool) :=
  loopN (fun rec3 x => rateRisingX_b2 N l1 rec3 x.1 x.2) N (((l1.length : Int), 0))

def rateBookTeams (N : Nat) (b1 : RateBook) (home1 : List Int) (away1 : List Int) : Option (Int) :=
  Option.bind (
    if decide (4 < (home1.length : Int)) then
      some true
    else
      some (decide (4 < (away1.length : Int)))
  ) fun v2 =>
  if v2 then
    some 3
  else
    Option.bind (slicesConcat N ([home1, away1])) fun r2 =>
    Option.bind (
      if decide ((home1.length : Int) = 0) then
        some true
      else
        if decide ((away1.length : Int) = 0) then
          some true
        else
          Option.bind (rateAllXXX N b1 r2) fun r6 =>
          some (!r6)
    ) fun v4 =>
    if v4 then
      some 1
    else
      Option.bind (sortI N r2) fun r8 =>
      Option.bind (rateRisingX N r8) fun r12 =>
      if !r12 then
        some 1
      else
        some 0

def rateMatch1_b1 (N : Nat) (team1 : List Int) (rec3 : (Int) → Option (Unit)) (v10 : Int) : Option (Unit) :=
  if decide (0 < v10) then
    Option.bind (idx team1 0) fun x24 =>
    none
  else
    some ()

def rateMatch1 (N : Nat) (team1 : List Int) (a1 : Int) : Option ((List Int)) :=
  Option.bind (mkl N 3 0) fun l2 =>
  Option.bind (
    loopN (fun rec3 x => rateMatch1_b1 N team1 rec3 x) N (team1.length : Int)
  ) fun _ =>
  Option.bind (rateSum N l2) fun r2 =>
  Option.bind (app N l2 ([r2])) fun l4 =>
  some l4

def rateReadMakes (N : Nat) (bowler1 : Int) (w1 : Int) (c1 : Int) (c2 : Int) (c3 : Int) (c4 : Int) (c5 : Int) (c6 : List Int) (c7 : List RateSheet) (c8 : List Int) (m1 : List (RateTurn × RateSheet)) : Option ((Ar3 Int)) :=
  Option.bind (mgt m1 (RateTurn.mk bowler1 w1) ((RateSheet.mk 0 0 0 (Ar3.mk 0 0 0)))) fun (v2, is2) =>
  Option.bind (rateReadAverage N bowler1 w1 ([]) c1 c2 c3 c4 c5 c6 c7 c8 m1) fun r23 =>
  Option.bind (
    if is2 then
      some (Ar3.mk v2.fGames.a0 0 0)
    else
      some ((Ar3.mk (max 0 (w64 (r23 - c5))) 0 0))
  ) fun c16 =>
  Option.bind (rateReadHandicap N bowler1 w1 c1 c2 c3 c4 c5 c6 c7 c8 m1) fun r24 =>
  Option.bind (rateReadAverage N bowler1 w1 ([]) c1 c2 c3 c4 c5 c6 c7 c8 m1) fun r29 =>
  Option.bind (
    if is2 then
      some ((Ar3.mk (w64 (c16.a0 + r24)) v2.fGames.a1 c16.a2))
    else
      some ((Ar3.mk (w64 (c16.a0 + r24)) (max 0 (w64 (r29 - c5))) c16.a2))
  ) fun c18 =>
  Option.bind (rateReadHandicap N bowler1 w1 c1 c2 c3 c4 c5 c6 c7 c8 m1) fun r30 =>
  Option.bind (rateReadAverage N bowler1 w1 ([]) c1 c2 c3 c4 c5 c6 c7 c8 m1) fun r35 =>
  Option.bind (
    if is2 then
      some ((Ar3.mk c18.a0 (w64 (c18.a1 + r30)) v2.fGames.a2))
    else
      some ((Ar3.mk c18.a0 (w64 (c18.a1 + r30)) (max 0 (w64 (r35 - c5)))))
  ) fun c20 =>
  Option.bind (rateReadHandicap N bowler1 w1 c1 c2 c3 c4 c5 c6 c7 c8 m1) fun r36 =>
  some ((Ar3.mk c20.a0 c20.a1 (w64 (c20.a2 + r36))))

def rateMatch1X_b1 (N : Nat) (team1 : List Int) (a1 : Int) (c1 : Int) (c2 : Int) (c3 : Int) (c4 : Int) (c5 : Int) (c6 : List Int) (c7 : List RateSheet) (c8 : List Int) (m1 : List (RateTurn × RateSheet)) (rec3 : (Int × Int × (List Int)) → Option ((List Int))) (v17 : Int) (v18 : Int) (l11 : List Int) : Option ((List Int)) :=
  if decide (v18 < v17) then
    Option.bind (idx team1 v18) fun x90 =>
    Option.bind (rateReadMakes N x90 a1 c1 c2 c3 c4 c5 c6 c7 c8 m1) fun r24 =>
    Option.bind (idx l11 0) fun x92 =>
    Option.bind (idx ((List.set l11 (Int.toNat 0) (w64 (x92 + r24.a0)))) 1) fun x94 =>
    Option.bind (idx ((List.set ((List.set l11 (Int.toNat 0) (w64 (x92 + r24.a0)))) (Int.toNat 1) (w64 (x94 + r24.a1)))) 2) fun x96 =>
    rec3 ((v17, w64 (v18 + 1), (List.set ((List.set ((List.set l11 (Int.toNat 0) (w64 (x92 + r24.a0)))) (Int.toNat 1) (w64 (x94 + r24.a1)))) (Int.toNat 2) (w64 (x96 + r24.a2)))))
  else
    some l11

def rateMatch1X (N : Nat) (team1 : List Int) (a1 : Int) (c1 : Int) (c2 : Int) (c3 : Int) (c4 : Int) (c5 : Int) (c6 : List Int) (c7 : List RateSheet) (c8 : List Int) (m1 : List (RateTurn × RateSheet)) : Option ((List Int)) :=
  Option.bind (mkl N 3 0) fun l2 =>
  Option.bind (
    loopN (fun rec3 x => rateMatch1X_b1 N team1 a1 c1 c2 c3 c4 c5 c6 c7 c8 m1 rec3 x.1 x.2.1 x.2.2) N (((team1.length : Int), 0, l2))
  ) fun l7 =>
  Option.bind (rateSum N l7) fun r26 =>
  Option.bind (app N l7 ([r26])) fun l13 =>
  some l13

def rateMatch_b1 (N : Nat) (r11 : List Int) (r12 : List Int) (rec3 : (Int × Int × Int × Int) → Option (Int × Int)) (forHome14 : Int) (forAway14 : Int) (v19 : Int) (v20 : Int) : Option (Int × Int) :=
  if decide (v20 < v19) then
    Option.bind (
      Option.bind (idx r11 v20) fun x68 =>
      Option.bind (idx r12 v20) fun x72 =>
      if decide (x72 < x68) then
        some ((w64 (forHome14 + 2), forAway14))
      else
        if decide (x68 < x72) then
          some ((forHome14, w64 (forAway14 + 2)))
        else
          some ((w64 (forHome14 + 1), w64 (forAway14 + 1)))
    ) fun (forHome15, forAway15) =>
    rec3 ((forHome15, forAway15, v19, w64 (v20 + 1)))
  else
    some (forHome14, forAway14)

def rateMatch_b2 (N : Nat) (r21 : List Int) (r22 : List Int) (rec5 : (Int × Int × Int × Int) → Option (Int × Int)) (forHome29 : Int) (forAway29 : Int) (v39 : Int) (v40 : Int) : Option (Int × Int) :=
  if decide (v40 < v39) then
    Option.bind (
      Option.bind (idx r21 v40) fun x140 =>
      Option.bind (idx r22 v40) fun x144 =>
      if decide (x144 < x140) then
        some ((w64 (forHome29 + 2), forAway29))
      else
        if decide (x140 < x144) then
          some ((forHome29, w64 (forAway29 + 2)))
        else
          some ((w64 (forHome29 + 1), w64 (forAway29 + 1)))
    ) fun (forHome30, forAway30) =>
    rec5 ((forHome30, forAway30, v39, w64 (v40 + 1)))
  else
    some (forHome29, forAway29)

def rateMatch (N : Nat) (b1 : RateBook) (w1 : Int) (home1 : List Int) (away1 : List Int) : Option (Int × Int × Int) :=
  Option.bind (rateBookRead N b1) fun z2 =>
  match z2 with
  | .inl r2 =>
    Option.bind (
      Option.bind (
        if decide (r2 = 0) then
          Option.bind (rateWeek N w1) fun r6 =>
          some (!r6)
        else
          some false
      ) fun v2 =>
      if v2 then
        some 2
      else
        some r2
    ) fun e2 =>
    Option.bind (
      if decide (e2 = 0) then
        Option.bind (rateBookTeams N b1 home1 away1) fun r8 =>
        some r8
      else
        some e2
    ) fun e3 =>
    if !decide (e3 = 0) then
      some (0, 0, e3)
    else
      Option.bind (rateMatch1 N home1 w1) fun r11 =>
      Option.bind (rateMatch1 N away1 w1) fun r12 =>
      Option.bind (
        loopN (fun rec3 x => rateMatch_b1 N r11 r12 rec3 x.1 x.2.1 x.2.2.1 x.2.2.2) N ((0, 0, (r11.length : Int), 0))
      ) fun (forHome8, forAway8) =>
      some (forHome8, forAway8, 0)
  | .inr (ra2, rb2, rc2, rd2, re2, rf2, rg2, rh2, ri2, rj2) =>
    Option.bind (
      Option.bind (
        if decide (ra2 = 0) then
          Option.bind (rateWeek N w1) fun r16 =>
          some (!r16)
        else
          some false
      ) fun v22 =>
      if v22 then
        some 2
      else
        some ra2
    ) fun e4 =>
    Option.bind (
      if decide (e4 = 0) then
        Option.bind (rateBookTeams N b1 home1 away1) fun r18 =>
        some r18
      else
        some e4
    ) fun e5 =>
    if !decide (e5 = 0) then
      some (0, 0, e5)
    else
      Option.bind (rateMatch1X N home1 w1 rb2 rc2 rd2 re2 rf2 rg2 rh2 ri2 rj2) fun r21 =>
      Option.bind (rateMatch1X N away1 w1 rb2 rc2 rd2 re2 rf2 rg2 rh2 ri2 rj2) fun r22 =>
      Option.bind (
        loopN (fun rec5 x => rateMatch_b2 N r21 r22 rec5 x.1 x.2.1 x.2.2.1 x.2.2.2) N ((0, 0, (r21.length : Int), 0))
      ) fun (forHome23, forAway23) =>
      some (forHome23, forAway23, 0)

def rateSpan1 (N : Nat) (n1 : Int) (a1 : Int) : Option (Bool) :=
  Option.bind (rateWithin N n1 1 (w64 (a1 - 1))) fun r2 =>
  some r2

def rateAll1XXXX (N : Nat) (x1 : Int) (a1 : Int) : Option (Bool) :=
  Option.bind (rateSpan1 N x1 a1) fun r2 =>
  some (!r2)

def slicesIndexFuncXXXX_k1 (N : Nat)   : Option (Int) :=
  some (-1)

def slicesIndexFuncXXXX_b2 (N : Nat) (s1 : List Int) (f1 : Int) (rec3 : (Int × Int) → Option (Int)) (v17 : Int) (v18 : Int) : Option (Int) :=
  if decide (v18 < v17) then
    Option.bind (idx s1 v18) fun x24 =>
    Option.bind (rateAll1XXXX N x24 f1) fun r24 =>
    if r24 then
      some v18
    else
      rec3 ((v17, w64 (v18 + 1)))
  else
    slicesIndexFuncXXXX_k1 N

def slicesIndexFuncXXXX (N : Nat) (s1 : List Int) (f1 : Int) : Option (Int) :=
  loopN (fun rec3 x => slicesIndexFuncXXXX_b2 N s1 f1 rec3 x.1 x.2) N (((s1.length : Int), 0))

def slicesContainsFuncXXXX (N : Nat) (s1 : List Int) (f1 : Int) : Option (Bool) :=
  Option.bind (slicesIndexFuncXXXX N s1 f1) fun r2 =>
  some (decide (0 ≤ r2))

def rateAllXXXX (N : Nat) (l1 : List Int) (right1 : Int) : Option (Bool) :=
  Option.bind (slicesContainsFuncXXXX N l1 right1) fun r2 =>
  some (!r2)

def slicesIndexFuncXXXXX_b1 (N : Nat) (s1 : List Int) (rec3 : (Int) → Option (Unit)) (v10 : Int) : Option (Unit) :=
  if decide (0 < v10) then
    Option.bind (idx s1 0) fun x24 =>
    none
  else
    some ()

def slicesIndexFuncXXXXX (N : Nat) (s1 : List Int) (c1 : Int) : Option (Int) :=
  Option.bind (
    loopN (fun rec3 x => slicesIndexFuncXXXXX_b1 N s1 rec3 x) N (s1.length : Int)
  ) fun _ =>
  some (-1)

def slicesContainsFuncXXXXX (N : Nat) (s1 : List Int) (c1 : Int) : Option (Bool) :=
  Option.bind (slicesIndexFuncXXXXX N s1 c1) fun r2 =>
  some (decide (0 ≤ r2))

def rateAllXXXXX (N : Nat) (l1 : List Int) (right1 : Int) : Option (Bool) :=
  Option.bind (slicesContainsFuncXXXXX N l1 right1) fun r2 =>
  some (!r2)

def rateSpan2 (N : Nat) (n1 : Int) (a1 : Int) (c1 : Int) (c2 : Int) (c3 : Int) (c4 : Int) (c5 : Int) (c6 : List Int) (c7 : List RateSheet) (c8 : List Int) (m1 : List (RateTurn × RateSheet)) : Option (Bool) :=
  Option.bind (
    Option.bind (mgt m1 (RateTurn.mk a1 n1) ((RateSheet.mk 0 0 0 (Ar3.mk 0 0 0)))) fun (v2, is3) =>
    some is3
  ) fun is2 =>
  some (!is2)

def rateAll1XXXXX (N : Nat) (x1 : Int) (c1 : Int) (c2 : Int) (c3 : Int) (c4 : Int) (c5 : Int) (c6 : Int) (c7 : List Int) (c8 : List RateSheet) (c9 : List Int) (m1 : List (RateTurn × RateSheet)) : Option (Bool) :=
  Option.bind (rateSpan2 N x1 c1 c2 c3 c4 c5 c6 c7 c8 c9 m1) fun r2 =>
  some (!r2)

def slicesIndexFuncXXXXXX_k1 (N : Nat)   : Option (Int) :=
  some (-1)

def slicesIndexFuncXXXXXX_b2 (N : Nat) (s1 : List Int) (c1 : Int) (c2 : Int) (c3 : Int) (c4 : Int) (c5 : Int) (c6 : Int) (c7 : List Int) (c8 : List RateSheet) (c9 : List Int) (m1 : List (RateTurn × RateSheet)) (rec3 : (Int × Int) → Option (Int)) (v17 : Int) (v18 : Int) : Option (Int) :=
  if decide (v18 < v17) then
    Option.bind (idx s1 v18) fun x24 =>
    Option.bind (rateAll1XXXXX N x24 c1 c2 c3 c4 c5 c6 c7 c8 c9 m1) fun r24 =>
    if r24 then
      some v18
    else
      rec3 ((v17, w64 (v18 + 1)))
  else
    slicesIndexFuncXXXXXX_k1 N

def slicesIndexFuncXXXXXX (N : Nat) (s1 : List Int) (c1 : Int) (c2 : Int) (c3 : Int) (c4 : Int) (c5 : Int) (c6 : Int) (c7 : List Int) (c8 : List RateSheet) (c9 : List Int) (m1 : List (RateTurn × RateSheet)) : Option (Int) :=
  loopN (fun rec3 x => slicesIndexFuncXXXXXX_b2 N s1 c1 c2 c3 c4 c5 c6 c7 c8 c9 m1 rec3 x.1 x.2) N (((s1.length : Int), 0))

def slicesContainsFuncXXXXXX (N : Nat) (s1 : List Int) (c1 : Int) (c2 : Int) (c3 : Int) (c4 : Int) (c5 : Int) (c6 : Int) (c7 : List Int) (c8 : List RateSheet) (c9 : List Int) (m1 : List (RateTurn × RateSheet)) : Option (Bool) :=
  Option.bind (slicesIndexFuncXXXXXX N s1 c1 c2 c3 c4 c5 c6 c7 c8 c9 m1) fun r2 =>
  some (decide (0 ≤ r2))

def rateAllXXXXXX (N : Nat) (l1 : List Int) (right1 : Int) (c1 : Int) (c2 : Int) (c3 : Int) (c4 : Int) (c5 : Int) (c6 : List Int) (c7 : List RateSheet) (c8 : List Int) (m1 : List (RateTurn × RateSheet)) : Option (Bool) :=
  Option.bind (slicesContainsFuncXXXXXX N l1 right1 c1 c2 c3 c4 c5 c6 c7 c8 m1) fun r2 =>
  some (!r2)

def rateReadWorst (N : Nat) (c1 : Int) (c2 : Int) (c3 : Int) (c4 : Int) (c5 : Int) (c6 : List Int) (c7 : List RateSheet) (c8 : List Int) (m1 : List (RateTurn × RateSheet)) : Option (Int) :=
  some 0

def slicesRepeat_k1 (N : Nat) (n11 : Int) (l23 : List Int) (rec3 : (Int × (List Int)) → Option ((List Int)))  : Option ((List Int)) :=
  Option.bind (slc l23 n11 (l23.length : Int)) fun l24 =>
  Option.bind (slc l23 0 n11) fun l25 =>
  rec3 ((w64 (n11 + ((cpyN (Int.toNat n11) (Int.toNat (l23.length : Int)) l25.length : Int))), (cpyL l23 (Int.toNat n11) (Int.toNat (l23.length : Int)) l25)))

def slicesRepeat_b2 (N : Nat)  (rec3 : (Int × (List Int)) → Option ((List Int))) (n11 : Int) (l23 : List Int) : Option ((List Int)) :=
  if decide (n11 < (l23.length : Int)) then
    slicesRepeat_k1 N n11 l23 rec3
  else
    some l23

def slicesRepeat (N : Nat) (x1 : List Int) (count1 : Int) : Option ((List Int)) :=
  if decide (count1 < 0) then
    none
  else
    Option.bind (mulUN N (Go.IntKind.wrap .u64 (x1.length : Int)) (Go.IntKind.wrap .u64 count1)) fun (ra2, rb2) =>
    Option.bind (
      if decide (0 < ra2) then
        some true
      else
        some (decide (9223372036854775807 < rb2))
    ) fun v2 =>
    if v2 then
      none
    else
      Option.bind (mkl N (w64 rb2) 0) fun l2 =>
      Option.bind (
        loopN (fun rec3 x => slicesRepeat_b2 N rec3 x.1 x.2) N (((cpyN 0 (l2.length) x1.length : Int), (cpyL l2 0 (l2.length) x1)))
      ) fun l14 =>
      some l14

def rateReadBest (N : Nat) (c1 : Int) (c2 : Int) (c3 : Int) (c4 : Int) (c5 : Int) (c6 : List Int) (c7 : List RateSheet) (c8 : List Int) (m1 : List (RateTurn × RateSheet)) : Option (Int) :=
  some 300

def rateSpan (N : Nat) (b1 : RateBook) (bowler1 : Int) (w1 : Int) (weeks1 : List Int) : Option (RateRange × Int) :=
  Option.bind (rateBookAsked N b1 bowler1 w1) fun z2 =>
  match z2 with
  | .inl r2 =>
    if !decide (r2 = 0) then
      some (((RateRange.mk 0 0), r2))
    else
      Option.bind (
        Option.bind (rateRising N weeks1) fun r9 =>
        if !r9 then
          some true
        else
          Option.bind (rateAllXXXX N weeks1 w1) fun r10 =>
          some (!r10)
      ) fun v2 =>
      if v2 then
        some (((RateRange.mk 0 0), 1))
      else
        Option.bind (rateAllXXXXX N weeks1 bowler1) fun r14 =>
        if !r14 then
          some (((RateRange.mk 0 0), 8))
        else
          none
  | .inr (ra2, rb2, rc2, rd2, re2, rf2, rg2, rh2, ri2, rj2) =>
    if !decide (ra2 = 0) then
      some (((RateRange.mk 0 0), ra2))
    else
      Option.bind (
        Option.bind (rateRising N weeks1) fun r21 =>
        if !r21 then
          some true
        else
          Option.bind (rateAllXXXX N weeks1 w1) fun r22 =>
          some (!r22)
      ) fun v4 =>
      if v4 then
        some (((RateRange.mk 0 0), 1))
      else
        Option.bind (rateAllXXXXXX N weeks1 bowler1 rb2 rc2 rd2 re2 rf2 rg2 rh2 ri2 rj2) fun r26 =>
        if !r26 then
          some (((RateRange.mk 0 0), 8))
        else
          Option.bind (rateReadWorst N rb2 rc2 rd2 re2 rf2 rg2 rh2 ri2 rj2) fun r42 =>
          Option.bind (slicesRepeat N ([r42]) (w64 ((weeks1.length : Int) * 3))) fun r43 =>
          Option.bind (rateReadAverage N bowler1 w1 r43 rb2 rc2 rd2 re2 rf2 rg2 rh2 ri2 rj2) fun r44 =>
          Option.bind (rateReadBest N rb2 rc2 rd2 re2 rf2 rg2 rh2 ri2 rj2) fun r48 =>
          Option.bind (slicesRepeat N ([r48]) (w64 ((weeks1.length : Int) * 3))) fun r49 =>
          Option.bind (rateReadAverage N bowler1 w1 r49 rb2 rc2 rd2 re2 rf2 rg2 rh2 ri2 rj2) fun r50 =>
          some (((RateRange.mk r44 r50), 0))

def law07Ints_k1 (N : Nat)   : Option (Bool) :=
  some true

def law07Ints_b2 (N : Nat) (a1 : List Int) (b1 : List Int) (rec3 : (Int) → Option (Bool)) (i8 : Int) : Option (Bool) :=
  if decide (i8 < (a1.length : Int)) then
    Option.bind (idx a1 i8) fun x47 =>
    Option.bind (idx b1 i8) fun x48 =>
    if !decide (x47 = x48) then
      some false
    else
      rec3 (w64 (i8 + 1))
  else
    law07Ints_k1 N

def law07Ints (N : Nat) (a1 : List Int) (b1 : List Int) : Option (Bool) :=
  if !decide ((a1.length : Int) = (b1.length : Int)) then
    some false
  else
    loopN (fun rec3 x => law07Ints_b2 N a1 b1 rec3 x) N 0

def law07Wakes (N : Nat)  : Option (Bool) :=
  Option.bind (law07Season N) fun (ra3, rb3, rc2, rd2, re2, rf2, rg2) =>
  Option.bind (rateCounting N ((RateBook.mk (RateLaw.mk ra3 rb3 rc2 rd2 re2) rf2 rg2 ([])))) fun (ra4, rb4) =>
  Option.bind (law07Season N) fun (ra7, rb7, rc4, rd4, re4, rf4, rg4) =>
  Option.bind (rateAverage N ((RateBook.mk (RateLaw.mk ra7 rb7 rc4 rd4 re4) rf4 rg4 ([]))) 0 3) fun (ra8, rb8) =>
  Option.bind (law07Season N) fun (ra11, rb11, rc6, rd6, re6, rf6, rg6) =>
  Option.bind (rateHandicap N ((RateBook.mk (RateLaw.mk ra11 rb11 rc6 rd6 re6) rf6 rg6 ([]))) 0 3) fun (ra12, rb12) =>
  Option.bind (law07Season N) fun (ra15, rb15, rc9, rd8, re8, rf8, rg8) =>
  Option.bind (rateMatch N ((RateBook.mk (RateLaw.mk ra15 rb15 rc9 rd8 re8) rf8 rg8 ([]))) 2 ([0]) ([1])) fun (ra16, rb16, rc10) =>
  Option.bind (law07Season N) fun (ra19, rb19, rc12, rd10, re10, rf10, rg10) =>
  Option.bind (rateSpan N ((RateBook.mk (RateLaw.mk ra19 rb19 rc12 rd10 re10) rf10 rg10 ([]))) 1 3 ([2])) fun (ra20, rb20) =>
  Option.bind (
    if decide (rb4 = 0) then
      Option.bind (law07Ints N ra4 ([1, 3, 4])) fun r2 =>
      if r2 then
        if decide (rb8 = 0) then
          if decide (ra8 = 155) then
            if decide (rb12 = 0) then
              if decide (ra12 = 36) then
                if decide (rc10 = 0) then
                  if decide (ra16 = 6) then
                    if decide (rb16 = 2) then
                      if decide (rb20 = 0) then
                        some (decide (ra20 = (RateRange.mk 95 245)))
                      else
                        some false
                    else
                      some false
                  else
                    some false
                else
                  some false
              else
                some false
            else
              some false
          else
            some false
        else
          some false
      else
        some false
    else
      some false
  ) fun v1 =>
  some v1

def law07List (N : Nat) (l1 : List Int) : Option ((List Int)) :=
  Option.bind (app N ([]) l1) fun l3 =>
  some l3

def law07Book_b1 (N : Nat) (b1 : Ref07Book) (rec3 : (Int × (List RateSheet)) → Option ((List RateSheet))) (i8 : Int) (l19 : List RateSheet) : Option ((List RateSheet)) :=
  if decide (i8 < (b1.fSheets.length : Int)) then
    Option.bind (idx b1.fSheets i8) fun x24 =>
    Option.bind (app N l19 ([(RateSheet.mk x24.fNumber x24.fBowler x24.fWeek x24.fGames)])) fun l21 =>
    rec3 ((w64 (i8 + 1), l21))
  else
    some l19

def law07Book (N : Nat) (b1 : Ref07Book) : Option (RateBook) :=
  Option.bind (
    Option.bind (law07List N b1.fBowlers) fun r3 =>
    Option.bind (law07List N b1.fWithdrawn) fun r4 =>
    some (r3, r4)
  ) fun (c1, c2) =>
  Option.bind (
    loopN (fun rec3 x => law07Book_b1 N b1 rec3 x.1 x.2) N (0, [])
  ) fun l11 =>
  some ((RateBook.mk (RateLaw.mk b1.fLaw.fBase b1.fLaw.fPercent b1.fLaw.fCap b1.fLaw.fLeast b1.fLaw.fBlind) c1 l11 c2))

def ref07In (N : Nat) (n1 : Int) (low1 : Int) (high1 : Int) : Option (Bool) :=
  Option.bind (
    if decide (low1 ≤ n1) then
      some (decide (n1 ≤ high1))
    else
      some false
  ) fun v1 =>
  some v1

def ref07IsLaw (N : Nat) (l1 : Ref07Law) : Option (Bool) :=
  Option.bind (
    Option.bind (ref07In N l1.fBase 0 300) fun r6 =>
    if r6 then
      Option.bind (ref07In N l1.fPercent 0 100) fun r7 =>
      if r7 then
        Option.bind (ref07In N l1.fCap 0 300) fun r8 =>
        if r8 then
          Option.bind (ref07In N l1.fLeast 1 30) fun r9 =>
          if r9 then
            Option.bind (ref07In N l1.fBlind 0 300) fun r10 =>
            some r10
          else
            some false
        else
          some false
      else
        some false
    else
      some false
  ) fun v1 =>
  some v1

def ref07Rising_k1 (N : Nat)   : Option (Bool) :=
  some true

def ref07Rising_b2 (N : Nat) (l1 : List Int) (rec3 : (Int) → Option (Bool)) (i8 : Int) : Option (Bool) :=
  if decide (i8 < (l1.length : Int)) then
    Option.bind (idx l1 i8) fun x47 =>
    Option.bind (idx l1 (w64 (i8 - 1))) fun x48 =>
    if decide (x47 ≤ x48) then
      some false
    else
      rec3 (w64 (i8 + 1))
  else
    ref07Rising_k1 N

def ref07Rising (N : Nat) (l1 : List Int) : Option (Bool) :=
  loopN (fun rec3 x => ref07Rising_b2 N l1 rec3 x) N 1

def ref07Fault_k1 (N : Nat)   : Option (Int) :=
  some 0

def ref07Fault_k2 (N : Nat) (i20 : Int) (rec12 : (Int) → Option (Int))  : Option (Int) :=
  rec12 (w64 (i20 + 1))

def ref07Fault_b3 (N : Nat) (b1 : Ref07Book) (i20 : Int) (rec12 : (Int) → Option (Int)) (rec14 : (Int) → Option (Int)) (k32 : Int) : Option (Int) :=
  if decide (k32 < i20) then
    Option.bind (
      Option.bind (idx b1.fSheets i20) fun x227 =>
      Option.bind (idx b1.fSheets k32) fun x228 =>
      if decide (x227.fNumber = x228.fNumber) then
        some (!decide (x227 = x228))
      else
        some false
    ) fun v64 =>
    if v64 then
      some 6
    else
      rec14 (w64 (k32 + 1))
  else
    ref07Fault_k2 N i20 rec12

def ref07Fault_b4 (N : Nat) (b1 : Ref07Book) (rec12 : (Int) → Option (Int)) (i20 : Int) : Option (Int) :=
  if decide (i20 < (b1.fSheets.length : Int)) then
    loopN (fun rec14 x => ref07Fault_b3 N b1 i20 rec12 rec14 x) N 0
  else
    ref07Fault_k1 N

def ref07Fault_k5 (N : Nat) (b1 : Ref07Book)  : Option (Int) :=
  loopN (fun rec12 x => ref07Fault_b4 N b1 rec12 x) N 0

def ref07Fault_b6 (N : Nat) (b1 : Ref07Book) (rec15 : (Int) → Option (Int)) (i24 : Int) : Option (Int) :=
  if decide (i24 < (b1.fSheets.length : Int)) then
    Option.bind (idx b1.fSheets i24) fun x240 =>
    Option.bind (
      Option.bind (ref07In N x240.fNumber 1 999) fun r306 =>
      if !r306 then
        some true
      else
        Option.bind (ref07In N x240.fBowler 0 (w64 ((b1.fBowlers.length : Int) - 1))) fun r307 =>
        if !r307 then
          some true
        else
          Option.bind (ref07In N x240.fWeek 1 30) fun r308 =>
          some (!r308)
    ) fun v76 =>
    if v76 then
      some 1
    else
      Option.bind (ref07In N x240.fGames.a0 0 300) fun r312 =>
      if !r312 then
        some 1
      else
        Option.bind (ref07In N x240.fGames.a1 0 300) fun r316 =>
        if !r316 then
          some 1
        else
          Option.bind (ref07In N x240.fGames.a2 0 300) fun r320 =>
          if !r320 then
            some 1
          else
            rec15 (w64 (i24 + 1))
  else
    ref07Fault_k5 N b1

def ref07Fault_k7 (N : Nat) (b1 : Ref07Book)  : Option (Int) :=
  loopN (fun rec15 x => ref07Fault_b6 N b1 rec15 x) N 0

def ref07Fault_b8 (N : Nat) (b1 : Ref07Book) (rec16 : (Int) → Option (Int)) (i28 : Int) : Option (Int) :=
  if decide (i28 < (b1.fWithdrawn.length : Int)) then
    Option.bind (idx b1.fWithdrawn i28) fun x252 =>
    Option.bind (ref07In N x252 1 999) fun r332 =>
    if !r332 then
      some 1
    else
      rec16 (w64 (i28 + 1))
  else
    ref07Fault_k7 N b1

def ref07Fault_k9 (N : Nat) (b1 : Ref07Book)  : Option (Int) :=
  loopN (fun rec16 x => ref07Fault_b8 N b1 rec16 x) N 0

def ref07Fault_b10 (N : Nat) (b1 : Ref07Book) (rec17 : (Int) → Option (Int)) (i32 : Int) : Option (Int) :=
  if decide (i32 < (b1.fBowlers.length : Int)) then
    Option.bind (idx b1.fBowlers i32) fun x264 =>
    Option.bind (ref07In N x264 0 300) fun r344 =>
    if !r344 then
      some 1
    else
      rec17 (w64 (i32 + 1))
  else
    ref07Fault_k9 N b1

def ref07Fault (N : Nat) (b1 : Ref07Book) : Option (Int) :=
  Option.bind (
    if decide (8 < (b1.fBowlers.length : Int)) then
      some true
    else
      if decide (40 < (b1.fSheets.length : Int)) then
        some true
      else
        some (decide (40 < (b1.fWithdrawn.length : Int)))
  ) fun v2 =>
  if v2 then
    some 3
  else
    Option.bind (
      Option.bind (ref07IsLaw N b1.fLaw) fun r7 =>
      if !r7 then
        some true
      else
        Option.bind (ref07Rising N b1.fWithdrawn) fun r8 =>
        some (!r8)
    ) fun v4 =>
    if v4 then
      some 1
    else
      loopN (fun rec17 x => ref07Fault_b10 N b1 rec17 x) N 0

def law07Fault (N : Nat) (b1 : Ref07Book) : Option (Int) :=
  Option.bind (ref07Fault N b1) fun r2 =>
  some r2

def ref07Has_k1 (N : Nat)   : Option (Bool) :=
  some false

def ref07Has_b2 (N : Nat) (l1 : List Int) (n1 : Int) (rec3 : (Int) → Option (Bool)) (i8 : Int) : Option (Bool) :=
  if decide (i8 < (l1.length : Int)) then
    Option.bind (idx l1 i8) fun x24 =>
    if decide (x24 = n1) then
      some true
    else
      rec3 (w64 (i8 + 1))
  else
    ref07Has_k1 N

def ref07Has (N : Nat) (l1 : List Int) (n1 : Int) : Option (Bool) :=
  loopN (fun rec3 x => ref07Has_b2 N l1 n1 rec3 x) N 0

def ref07Counts_k1 (N : Nat)   : Option (Bool) :=
  some true

def ref07Counts_b2 (N : Nat) (b1 : Ref07Book) (s1 : Ref07Sheet) (rec3 : (Int) → Option (Bool)) (i8 : Int) : Option (Bool) :=
  if decide (i8 < (b1.fSheets.length : Int)) then
    Option.bind (idx b1.fSheets i8) fun x24 =>
    Option.bind (
      if decide (x24.fBowler = s1.fBowler) then
        if decide (x24.fWeek = s1.fWeek) then
          if decide (s1.fNumber < x24.fNumber) then
            Option.bind (ref07Has N b1.fWithdrawn x24.fNumber) fun r28 =>
            some (!r28)
          else
            some false
        else
          some false
      else
        some false
    ) fun v12 =>
    if v12 then
      some false
    else
      rec3 (w64 (i8 + 1))
  else
    ref07Counts_k1 N

def ref07Counts (N : Nat) (b1 : Ref07Book) (s1 : Ref07Sheet) : Option (Bool) :=
  Option.bind (ref07Has N b1.fWithdrawn s1.fNumber) fun r4 =>
  if r4 then
    some false
  else
    loopN (fun rec3 x => ref07Counts_b2 N b1 s1 rec3 x) N 0

def ref07Counting_b1 (N : Nat) (b1 : Ref07Book) (n81 : Int) (rec79 : (Bool × Int) → Option (Bool)) (is569 : Bool) (i304 : Int) : Option (Bool) :=
  if decide (i304 < (b1.fSheets.length : Int)) then
    Option.bind (
      if is569 then
        some true
      else
        Option.bind (idx b1.fSheets i304) fun x456 =>
        if decide (x456.fNumber = n81) then
          Option.bind (ref07Counts N b1 x456) fun r456 =>
          some r456
        else
          some false
    ) fun is570 =>
    rec79 ((is570, w64 (i304 + 1)))
  else
    some is569

def ref07Counting_b2 (N : Nat) (b1 : Ref07Book) (rec75 : (Int × (List Int)) → Option ((List Int))) (n81 : Int) (l63 : List Int) : Option ((List Int)) :=
  if decide (n81 ≤ 999) then
    Option.bind (
      Option.bind (
        loopN (fun rec79 x => ref07Counting_b1 N b1 n81 rec79 x.1 x.2) N (false, 0)
      ) fun is563 =>
      if is563 then
        Option.bind (app N l63 ([n81])) fun l66 =>
        some l66
      else
        some l63
    ) fun l65 =>
    rec75 ((w64 (n81 + 1), l65))
  else
    some l63

def ref07Counting (N : Nat) (b1 : Ref07Book) : Option ((List Int)) :=
  Option.bind (
    loopN (fun rec75 x => ref07Counting_b2 N b1 rec75 x.1 x.2) N (1, [])
  ) fun l53 =>
  some l53

def law07Asked (N : Nat) (b1 : Ref07Book) (bowler1 : Int) (week1 : Int) : Option (Int) :=
  Option.bind (law07Fault N b1) fun r4 =>
  if !decide (r4 = 0) then
    some r4
  else
    Option.bind (
      Option.bind (ref07In N bowler1 0 (w64 ((b1.fBowlers.length : Int) - 1))) fun r11 =>
      if !r11 then
        some true
      else
        Option.bind (ref07In N week1 1 30) fun r12 =>
        some (!r12)
    ) fun v2 =>
    if v2 then
      some 2
    else
      some 0

def ref07Of_k1 (N : Nat)   : Option ((Ar3 Int) × Bool) :=
  some (((Ar3.mk 0 0 0), false))

def ref07Of_b2 (N : Nat) (b1 : Ref07Book) (bowler1 : Int) (week1 : Int) (rec3 : (Int) → Option ((Ar3 Int) × Bool)) (i8 : Int) : Option ((Ar3 Int) × Bool) :=
  if decide (i8 < (b1.fSheets.length : Int)) then
    Option.bind (idx b1.fSheets i8) fun x24 =>
    Option.bind (
      if decide (x24.fBowler = bowler1) then
        if decide (x24.fWeek = week1) then
          Option.bind (ref07Counts N b1 x24) fun r24 =>
          some r24
        else
          some false
      else
        some false
    ) fun v12 =>
    if v12 then
      some (x24.fGames, true)
    else
      rec3 (w64 (i8 + 1))
  else
    ref07Of_k1 N

def ref07Of (N : Nat) (b1 : Ref07Book) (bowler1 : Int) (week1 : Int) : Option ((Ar3 Int) × Bool) :=
  loopN (fun rec3 x => ref07Of_b2 N b1 bowler1 week1 rec3 x) N 0

def ref07Average_b1 (N : Nat) (b1 : Ref07Book) (bowler1 : Int) (week1 : Int) (rec3 : (Int × Int × Int) → Option (Int × Int)) (games15 : Int) (sum15 : Int) (w8 : Int) : Option (Int × Int) :=
  if decide (w8 < week1) then
    Option.bind (
      Option.bind (ref07Of N b1 bowler1 w8) fun (ra24, rb24) =>
      if rb24 then
        some ((w64 (games15 + 3), w64 ((w64 ((w64 (sum15 + ra24.a0)) + ra24.a1)) + ra24.a2)))
      else
        some (games15, sum15)
    ) fun (games16, sum16) =>
    rec3 ((games16, sum16, w64 (w8 + 1)))
  else
    some (games15, sum15)

def ref07Average (N : Nat) (b1 : Ref07Book) (bowler1 : Int) (week1 : Int) (games1 : Int) (sum1 : Int) : Option (Int) :=
  Option.bind (
    loopN (fun rec3 x => ref07Average_b1 N b1 bowler1 week1 rec3 x.1 x.2.1 x.2.2) N (games1, sum1, 1)
  ) fun (games9, sum9) =>
  if decide (games9 < b1.fLaw.fLeast) then
    Option.bind (idx b1.fBowlers bowler1) fun x4 =>
    some x4
  else
    Option.bind (nz games9) fun _ =>
    some (w64 (Int.tdiv sum9 games9))

def ref07Handicap (N : Nat) (b1 : Ref07Book) (bowler1 : Int) (week1 : Int) : Option (Int) :=
  Option.bind (ref07Average N b1 bowler1 week1 0 0) fun r2 =>
  if decide ((w64 (b1.fLaw.fBase - r2)) ≤ 0) then
    some 0
  else
    some (min b1.fLaw.fCap (w64 (Int.tdiv (w64 ((w64 (b1.fLaw.fBase - r2)) * b1.fLaw.fPercent)) 100)))

def ref07TeamsFault_k1 (N : Nat)   : Option (Int) :=
  some 0

def ref07TeamsFault_b2 (N : Nat) (b1 : Ref07Book) (rec3 : (Int × (List Int)) → Option (Int)) (i8 : Int) (l36 : List Int) : Option (Int) :=
  if decide (i8 < (l36.length : Int)) then
    Option.bind (
      Option.bind (idx l36 i8) fun x24 =>
      Option.bind (ref07In N x24 0 (w64 ((b1.fBowlers.length : Int) - 1))) fun r47 =>
      if !r47 then
        some true
      else
        Option.bind (slc l36 0 i8) fun l40 =>
        Option.bind (ref07Has N l40 x24) fun r48 =>
        some r48
    ) fun v16 =>
    if v16 then
      some 1
    else
      rec3 ((w64 (i8 + 1), l36))
  else
    ref07TeamsFault_k1 N

def ref07TeamsFault (N : Nat) (b1 : Ref07Book) (home1 : List Int) (away1 : List Int) : Option (Int) :=
  Option.bind (
    if decide (4 < (home1.length : Int)) then
      some true
    else
      some (decide (4 < (away1.length : Int)))
  ) fun v2 =>
  if v2 then
    some 3
  else
    Option.bind (app N ([]) home1) fun l3 =>
    Option.bind (app N l3 away1) fun l4 =>
    Option.bind (
      if decide ((home1.length : Int) = 0) then
        some true
      else
        some (decide ((away1.length : Int) = 0))
    ) fun v4 =>
    if v4 then
      some 1
    else
      loopN (fun rec3 x => ref07TeamsFault_b2 N b1 rec3 x.1 x.2) N (0, l4)

def ref07Makes (N : Nat) (b1 : Ref07Book) (bowler1 : Int) (week1 : Int) (game1 : Int) : Option (Int) :=
  Option.bind (ref07Handicap N b1 bowler1 week1) fun r2 =>
  Option.bind (ref07Of N b1 bowler1 week1) fun (ra4, rb4) =>
  if rb4 then
    Option.bind (
      if decide (game1 = 0) then
        some (w64 (ra4.a0 + r2))
      else
        if decide (game1 = 1) then
          some (w64 (ra4.a1 + r2))
        else
          if decide (game1 = 2) then
            some (w64 (ra4.a2 + r2))
          else
            none
    ) fun v2 =>
    some v2
  else
    Option.bind (ref07Average N b1 bowler1 week1 0 0) fun r4 =>
    some (w64 ((max 0 (w64 (r4 - b1.fLaw.fBlind))) + r2))

def ref07Team_b1 (N : Nat) (b1 : Ref07Book) (team1 : List Int) (week1 : Int) (game1 : Int) (rec3 : (Int × Int) → Option (Int)) (n10 : Int) (i8 : Int) : Option (Int) :=
  if decide (i8 < (team1.length : Int)) then
    Option.bind (idx team1 i8) fun x12 =>
    Option.bind (ref07Makes N b1 x12 week1 game1) fun r12 =>
    rec3 ((w64 (n10 + r12), w64 (i8 + 1)))
  else
    some n10

def ref07Team (N : Nat) (b1 : Ref07Book) (team1 : List Int) (week1 : Int) (game1 : Int) : Option (Int) :=
  Option.bind (
    loopN (fun rec3 x => ref07Team_b1 N b1 team1 week1 game1 rec3 x.1 x.2) N (0, 0)
  ) fun n6 =>
  some n6

def ref07Points (N : Nat) (a1 : Int) (b1 : Int) : Option (Int × Int) :=
  if decide (b1 < a1) then
    some (2, 0)
  else
    if decide (a1 < b1) then
      some (0, 2)
    else
      some (1, 1)

def ref07Match (N : Nat) (b1 : Ref07Book) (week1 : Int) (home1 : List Int) (away1 : List Int) : Option (Int × Int) :=
  Option.bind (ref07Team N b1 home1 week1 0) fun r31 =>
  Option.bind (ref07Team N b1 away1 week1 0) fun r32 =>
  Option.bind (ref07Points N r31 r32) fun (ra16, rb16) =>
  Option.bind (ref07Team N b1 home1 week1 1) fun r39 =>
  Option.bind (ref07Team N b1 away1 week1 1) fun r40 =>
  Option.bind (ref07Points N r39 r40) fun (ra20, rb20) =>
  Option.bind (ref07Team N b1 home1 week1 2) fun r47 =>
  Option.bind (ref07Team N b1 away1 week1 2) fun r48 =>
  Option.bind (ref07Points N r47 r48) fun (ra24, rb24) =>
  Option.bind (ref07Points N (w64 ((w64 ((w64 (0 + r31)) + r39)) + r47)) (w64 ((w64 ((w64 (0 + r32)) + r40)) + r48))) fun (ra26, rb26) =>
  some ((w64 ((w64 ((w64 ((w64 (0 + ra16)) + ra20)) + ra24)) + ra26), w64 ((w64 ((w64 ((w64 (0 + rb16)) + rb20)) + rb24)) + rb26)))

def ref07WeeksFault_k1 (N : Nat)   : Option (Int) :=
  some 0

def ref07WeeksFault_b2 (N : Nat) (b1 : Ref07Book) (bowler1 : Int) (weeks1 : List Int) (rec4 : (Int) → Option (Int)) (i12 : Int) : Option (Int) :=
  if decide (i12 < (weeks1.length : Int)) then
    Option.bind (
      Option.bind (idx weeks1 i12) fun x36 =>
      Option.bind (ref07Of N b1 bowler1 x36) fun (ra24, rb24) =>
      some rb24
    ) fun is12 =>
    if is12 then
      some 8
    else
      rec4 (w64 (i12 + 1))
  else
    ref07WeeksFault_k1 N

def ref07WeeksFault_k3 (N : Nat) (b1 : Ref07Book) (bowler1 : Int) (weeks1 : List Int)  : Option (Int) :=
  loopN (fun rec4 x => ref07WeeksFault_b2 N b1 bowler1 weeks1 rec4 x) N 0

def ref07WeeksFault_b4 (N : Nat) (b1 : Ref07Book) (bowler1 : Int) (week1 : Int) (weeks1 : List Int) (rec5 : (Int) → Option (Int)) (i16 : Int) : Option (Int) :=
  if decide (i16 < (weeks1.length : Int)) then
    Option.bind (idx weeks1 i16) fun x48 =>
    Option.bind (ref07In N x48 1 (w64 (week1 - 1))) fun r28 =>
    if !r28 then
      some 1
    else
      rec5 (w64 (i16 + 1))
  else
    ref07WeeksFault_k3 N b1 bowler1 weeks1

def ref07WeeksFault (N : Nat) (b1 : Ref07Book) (bowler1 : Int) (week1 : Int) (weeks1 : List Int) : Option (Int) :=
  Option.bind (ref07Rising N weeks1) fun r4 =>
  if !r4 then
    some 1
  else
    loopN (fun rec5 x => ref07WeeksFault_b4 N b1 bowler1 week1 weeks1 rec5 x) N 0

def law07Ready (N : Nat) (b1 : Ref07Book) : Option (Bool) :=
  Option.bind (
    Option.bind (law07Thin N b1) fun r3 =>
    if r3 then
      Option.bind (ref07Fault N b1) fun r4 =>
      some (decide (r4 = 0))
    else
      some false
  ) fun v1 =>
  some v1

def law07Same (N : Nat) (a1 : Ref07Book) (b1 : Ref07Book) (bowler1 : Int) (week1 : Int) : Option (Bool) :=
  Option.bind (law07Book N a1) fun r2 =>
  Option.bind (rateAverage N r2 bowler1 week1) fun (ra2, rb2) =>
  Option.bind (law07Book N b1) fun r4 =>
  Option.bind (rateAverage N r4 bowler1 week1) fun (ra4, rb4) =>
  Option.bind (law07Book N a1) fun r6 =>
  Option.bind (rateHandicap N r6 bowler1 week1) fun (ra6, rb6) =>
  Option.bind (law07Book N b1) fun r8 =>
  Option.bind (rateHandicap N r8 bowler1 week1) fun (ra8, rb8) =>
  Option.bind (
    if decide (rb2 = 0) then
      if decide (rb4 = 0) then
        if decide (rb6 = 0) then
          if decide (rb8 = 0) then
            if decide (ra2 = ra4) then
              some (decide (ra6 = ra8))
            else
              some false
          else
            some false
        else
          some false
      else
        some false
    else
      some false
  ) fun v1 =>
  some v1

def law07Taken_k1 (N : Nat)   : Option (Bool) :=
  some false

def law07Taken_b2 (N : Nat) (b1 : Ref07Book) (number1 : Int) (rec3 : (Int) → Option (Bool)) (i8 : Int) : Option (Bool) :=
  if decide (i8 < (b1.fSheets.length : Int)) then
    Option.bind (idx b1.fSheets i8) fun x24 =>
    if decide (x24.fNumber = number1) then
      some true
    else
      rec3 (w64 (i8 + 1))
  else
    law07Taken_k1 N

def law07Taken (N : Nat) (b1 : Ref07Book) (number1 : Int) : Option (Bool) :=
  loopN (fun rec3 x => law07Taken_b2 N b1 number1 rec3 x) N 0
end
end Go.Proofs.Ytmencjafjcmbaaa
