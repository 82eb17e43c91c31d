/-
  The law RateOrder, typed.
-/
import Derived.Test.YtmencjafjcmbaaaDef
namespace Go.Proofs.Ytmencjafjcmbaaa
open Go.Kp
set_option linter.all false
noncomputable section

def law07RateOrder (N : Nat) (b1 : Ref07Book) (by1 : Int) (bowler1 : Int) (week1 : Int) : Option (Bool) :=
  Option.bind (
    Option.bind (law07Ready N b1) fun r6 =>
    if !r6 then
      some true
    else
      if decide ((b1.fBowlers.length : Int) = 0) then
        some true
      else
        if decide ((b1.fSheets.length : Int) = 0) then
          some true
        else
          some (decide (39 < (b1.fSheets.length : Int)))
  ) fun v2 =>
  if v2 then
    Option.bind (law07Wakes N) fun r8 =>
    some r8
  else
    Option.bind (nz (b1.fSheets.length : Int)) fun _ =>
    Option.bind (
      Option.bind (slc b1.fSheets (Int.tmod (w64 by1) (b1.fSheets.length : Int)) (b1.fSheets.length : Int)) fun l6 =>
      Option.bind (app N ([]) l6) fun l7 =>
      Option.bind (slc b1.fSheets 0 (w64 ((Int.tmod (w64 by1) (b1.fSheets.length : Int)) + 1))) fun l8 =>
      Option.bind (app N l7 l8) fun l9 =>
      some l9
    ) fun l5 =>
    Option.bind (nz (b1.fBowlers.length : Int)) fun _ =>
    Option.bind (law07Book N b1) fun r10 =>
    Option.bind (rateCounting N r10) fun (ra2, rb2) =>
    Option.bind (law07Book N (Ref07Book.mk b1.fLaw b1.fBowlers l5 b1.fWithdrawn)) fun r12 =>
    Option.bind (rateCounting N r12) fun (ra4, rb4) =>
    Option.bind (
      if !decide (rb2 = 0) then
        some ((Int.tmod (w64 bowler1) (b1.fBowlers.length : Int), w64 (1 + (Int.tmod (w64 week1) 30)), true))
      else
        if !decide (rb4 = 0) then
          some ((Int.tmod (w64 bowler1) (b1.fBowlers.length : Int), w64 (1 + (Int.tmod (w64 week1) 30)), true))
        else
          Option.bind (law07Ints N ra2 ra4) fun r19 =>
          if !r19 then
            some ((Int.tmod (w64 bowler1) (b1.fBowlers.length : Int), w64 (1 + (Int.tmod (w64 week1) 30)), true))
          else
            Option.bind (law07Same N b1 (Ref07Book.mk b1.fLaw b1.fBowlers l5 b1.fWithdrawn) (Int.tmod (w64 bowler1) (b1.fBowlers.length : Int)) (w64 (1 + (Int.tmod (w64 week1) 30)))) fun r20 =>
            some ((Int.tmod (w64 bowler1) (b1.fBowlers.length : Int), w64 (1 + (Int.tmod (w64 week1) 30)), !r20))
    ) fun (k2, w2, v4) =>
    if v4 then
      some false
    else
      if decide ((b1.fBowlers.length : Int) < 2) then
        Option.bind (law07Wakes N) fun r24 =>
        some r24
      else
        Option.bind (nz (b1.fBowlers.length : Int)) fun _ =>
        Option.bind (law07Book N b1) fun r26 =>
        Option.bind (rateMatch N r26 w2 ([k2]) ([Int.tmod (w64 (k2 + 1)) (b1.fBowlers.length : Int)])) fun (ra6, rb6, rc2) =>
        Option.bind (law07Book N (Ref07Book.mk b1.fLaw b1.fBowlers l5 b1.fWithdrawn)) fun r28 =>
        Option.bind (rateMatch N r28 w2 ([k2]) ([Int.tmod (w64 (k2 + 1)) (b1.fBowlers.length : Int)])) fun (ra8, rb8, rc4) =>
        Option.bind (
          if decide (rc2 = 0) then
            if decide (rc4 = 0) then
              if decide (ra6 = ra8) then
                if decide (rb6 = rb8) then
                  Option.bind (law07Wakes N) fun r30 =>
                  some r30
                else
                  some false
              else
                some false
            else
              some false
          else
            some false
        ) fun v5 =>
        some v5
end
end Go.Proofs.Ytmencjafjcmbaaa
