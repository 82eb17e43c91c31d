/-
  The law RateBetter, typed.
-/
import Derived.Test.YtmencjafjcmbaaaDef
namespace Go.Proofs.Ytmencjafjcmbaaa
open Go.Kp
set_option linter.all false
noncomputable section

def law07RateBetter_b1 (N : Nat) (game1 : Int) (by1 : Int) (x2 : Ref07Sheet) (rec3 : (Int × (List Ref07Sheet)) → Option ((List Ref07Sheet))) (i8 : Int) (l16 : List Ref07Sheet) : Option ((List Ref07Sheet)) :=
  if decide (i8 < (l16.length : Int)) then
    Option.bind (
      Option.bind (idx l16 i8) fun x26 =>
      if decide (x26.fNumber = x2.fNumber) then
        if decide (Int.tmod (w64 game1) 3 = 0) then
          some ((List.set l16 (Int.toNat i8) ((Ref07Sheet.mk x26.fNumber x26.fBowler x26.fWeek (Ar3.mk (min 300 (w64 (x2.fGames.a0 + (Int.tmod (w64 by1) 60)))) x26.fGames.a1 x26.fGames.a2)))))
        else
          if decide (Int.tmod (w64 game1) 3 = 1) then
            some ((List.set l16 (Int.toNat i8) ((Ref07Sheet.mk x26.fNumber x26.fBowler x26.fWeek (Ar3.mk x26.fGames.a0 (min 300 (w64 (x2.fGames.a1 + (Int.tmod (w64 by1) 60)))) x26.fGames.a2)))))
          else
            if decide (Int.tmod (w64 game1) 3 = 2) then
              some ((List.set l16 (Int.toNat i8) ((Ref07Sheet.mk x26.fNumber x26.fBowler x26.fWeek (Ar3.mk x26.fGames.a0 x26.fGames.a1 (min 300 (w64 (x2.fGames.a2 + (Int.tmod (w64 by1) 60)))))))))
            else
              none
      else
        some l16
    ) fun l17 =>
    rec3 ((w64 (i8 + 1), l17))
  else
    some l16

def law07RateBetter_k2 (N : Nat)   : Option (Bool) :=
  Option.bind (law07Wakes N) fun r54 =>
  some r54

def law07RateBetter_b3 (N : Nat) (b1 : Ref07Book) (by1 : Int) (x2 : Ref07Sheet) (l10 : List Ref07Sheet) (rec5 : (Int) → Option (Bool)) (k8 : Int) : Option (Bool) :=
  if decide (k8 < (b1.fBowlers.length : Int)) then
    Option.bind (
      Option.bind (law07Same N b1 (Ref07Book.mk b1.fLaw b1.fBowlers l10 b1.fWithdrawn) k8 x2.fWeek) fun r77 =>
      if !r77 then
        some true
      else
        Option.bind (nz x2.fWeek) fun _ =>
        Option.bind (law07Same N b1 (Ref07Book.mk b1.fLaw b1.fBowlers l10 b1.fWithdrawn) k8 (w64 (1 + (Int.tmod (w64 by1) x2.fWeek)))) fun r78 =>
        some (!r78)
    ) fun v18 =>
    if v18 then
      some false
    else
      rec5 (w64 (k8 + 1))
  else
    law07RateBetter_k2 N

def law07RateBetter (N : Nat) (b1 : Ref07Book) (which1 : Int) (game1 : Int) (by1 : Int) (away1 : List Int) : Option (Bool) :=
  Option.bind (
    Option.bind (law07Ready N b1) fun r6 =>
    if !r6 then
      some true
    else
      if decide ((b1.fSheets.length : Int) = 0) then
        some true
      else
        some (decide (4 < (away1.length : Int)))
  ) fun v2 =>
  if v2 then
    Option.bind (law07Wakes N) fun r8 =>
    some r8
  else
    Option.bind (nz (b1.fSheets.length : Int)) fun _ =>
    Option.bind (idx b1.fSheets (Int.tmod (w64 which1) (b1.fSheets.length : Int))) fun x2 =>
    Option.bind (
      Option.bind (ref07Counts N b1 x2) fun r17 =>
      if !r17 then
        some true
      else
        Option.bind (ref07TeamsFault N b1 ([x2.fBowler]) away1) fun r18 =>
        some (!decide (r18 = 0))
    ) fun v4 =>
    if v4 then
      Option.bind (law07Wakes N) fun r20 =>
      some r20
    else
      Option.bind (app N ([]) b1.fSheets) fun l2 =>
      Option.bind (
        loopN (fun rec3 x => law07RateBetter_b1 N game1 by1 x2 rec3 x.1 x.2) N (0, l2)
      ) fun l10 =>
      Option.bind (
        Option.bind (law07Book N b1) fun r23 =>
        Option.bind (law07List N away1) fun r24 =>
        Option.bind (rateMatch N r23 x2.fWeek ([x2.fBowler]) r24) fun (ra2, rb2, rc2) =>
        some (ra2, rc2)
      ) fun (p1, e1) =>
      Option.bind (
        Option.bind (law07Book N (Ref07Book.mk b1.fLaw b1.fBowlers l10 b1.fWithdrawn)) fun r27 =>
        Option.bind (law07List N away1) fun r28 =>
        Option.bind (rateMatch N r27 x2.fWeek ([x2.fBowler]) r28) fun (ra4, rb4, rc4) =>
        some (ra4, rc4)
      ) fun (q1, f1) =>
      Option.bind (
        if !decide (e1 = 0) then
          some true
        else
          if !decide (f1 = 0) then
            some true
          else
            some (decide (q1 < p1))
      ) fun v6 =>
      if v6 then
        some false
      else
        loopN (fun rec5 x => law07RateBetter_b3 N b1 by1 x2 l10 rec5 x) N 0
end
end Go.Proofs.Ytmencjafjcmbaaa
