/-
  The law RateNames, typed.
-/
import Derived.Test.YtmencjafjcmbaaaDef
namespace Go.Proofs.Ytmencjafjcmbaaa
open Go.Kp
set_option linter.all false
noncomputable section

def law07RateNames (N : Nat)  : Option (Bool) :=
  Option.bind (law07Season N) fun (ra3, rb3, rc2, rd2, re2, rf2, rg2) =>
  Option.bind (rateAverage N ((RateBook.mk (RateLaw.mk ra3 rb3 rc2 rd2 re2) rf2 rg2 ([]))) 0 2) fun (ra4, rb4) =>
  Option.bind (law07Season N) fun (ra7, rb7, rc4, rd4, re4, rf4, rg4) =>
  Option.bind (rateAverage N ((RateBook.mk (RateLaw.mk ra7 rb7 rc4 rd4 re4) rf4 rg4 ([]))) 1 3) fun (ra8, rb8) =>
  Option.bind (law07Season N) fun (ra11, rb11, rc6, rd6, re6, rf6, rg6) =>
  Option.bind (rateHandicap N ((RateBook.mk (RateLaw.mk ra11 rb11 rc6 rd6 re6) rf6 rg6 ([]))) 1 3) fun (ra12, rb12) =>
  Option.bind (law07Season N) fun (ra14, rb14, rc8, rd8, re8, rf8, rg8) =>
  Option.bind (rateAverage N ((RateBook.mk (RateLaw.mk ra14 rb14 rc8 rd8 re8) rf8 rg8 ([4]))) 0 3) fun (ra16, rb16) =>
  Option.bind (rateCounting N ((RateBook.mk (RateLaw.mk ra14 rb14 rc8 rd8 re8) rf8 rg8 ([4])))) fun (ra18, rb18) =>
  Option.bind (
    if !decide (rb4 = 0) then
      some true
    else
      if !decide (ra4 = 150) then
        some true
      else
        if !decide (rb8 = 0) then
          some true
        else
          if !decide (ra8 = 170) then
            some true
          else
            if !decide (rb12 = 0) then
              some true
            else
              if !decide (ra12 = 24) then
                some true
              else
                if !decide (rb16 = 0) then
                  some true
                else
                  if !decide (ra16 = 150) then
                    some true
                  else
                    if !decide (rb18 = 0) then
                      some true
                    else
                      Option.bind (law07Ints N ra18 ([1, 2, 3])) fun r4 =>
                      some (!r4)
  ) fun v2 =>
  if v2 then
    some false
  else
    Option.bind (law07Season N) fun (ra21, rb21, rc10, rd10, re10, rf10, rg10) =>
    Option.bind (rateAverage N ((RateBook.mk (RateLaw.mk ra21 rb21 rc10 rd10 re10) rf10 rg10 ([]))) 2 3) fun (ra22, rb22) =>
    Option.bind (law07Season N) fun (ra25, rb25, rc12, rd12, re12, rf12, rg12) =>
    Option.bind (rateHandicap N ((RateBook.mk (RateLaw.mk ra25 rb25 rc12 rd12 re12) rf12 rg12 ([]))) 0 31) fun (ra26, rb26) =>
    Option.bind (law07Season N) fun (ra29, rb29, rc15, rd14, re14, rf14, rg14) =>
    Option.bind (rateMatch N ((RateBook.mk (RateLaw.mk ra29 rb29 rc15 rd14 re14) rf14 rg14 ([]))) 2 ([0, 1]) ([1])) fun (ra30, rb30, rc16) =>
    Option.bind (law07Season N) fun (ra33, rb33, rc19, rd16, re16, rf16, rg16) =>
    Option.bind (rateMatch N ((RateBook.mk (RateLaw.mk ra33 rb33 rc19 rd16 re16) rf16 rg16 ([]))) 2 ([0]) ([])) fun (ra34, rb34, rc20) =>
    Option.bind (law07Season N) fun (ra37, rb37, rc23, rd18, re18, rf18, rg18) =>
    Option.bind (rateMatch N ((RateBook.mk (RateLaw.mk ra37 rb37 rc23 rd18 re18) rf18 rg18 ([]))) 0 ([]) ([])) fun (ra38, rb38, rc24) =>
    Option.bind (
      Option.bind (law07Season N) fun (ra41, rb41, rc27, rd20, re20, rf20, rg20) =>
      Option.bind (mkl N 5 0) fun l2 =>
      Option.bind (rateMatch N ((RateBook.mk (RateLaw.mk ra41 rb41 rc27 rd20 re20) rf20 rg20 ([]))) 2 l2 ([1])) fun (ra42, rb42, rc28) =>
      some rc28
    ) fun k1 =>
    Option.bind (law07Season N) fun (ra45, rb45, rc30, rd22, re22, rf22, rg22) =>
    Option.bind (rateSpan N ((RateBook.mk (RateLaw.mk ra45 rb45 rc30 rd22 re22) rf22 rg22 ([]))) 1 3 ([1])) fun (ra46, rb46) =>
    Option.bind (law07Season N) fun (ra49, rb49, rc32, rd24, re24, rf24, rg24) =>
    Option.bind (rateSpan N ((RateBook.mk (RateLaw.mk ra49 rb49 rc32 rd24 re24) rf24 rg24 ([]))) 1 3 ([3])) fun (ra50, rb50) =>
    Option.bind (law07Season N) fun (ra53, rb53, rc34, rd26, re26, rf26, rg26) =>
    Option.bind (rateSpan N ((RateBook.mk (RateLaw.mk ra53 rb53 rc34 rd26 re26) rf26 rg26 ([]))) 1 3 ([2, 1])) fun (ra54, rb54) =>
    Option.bind (law07Season N) fun (ra58, rb58, rc38, rd30, re30, rf30, rg30) =>
    Option.bind (law07Season N) fun (ra59, rb59, rc39, rd31, re31, rf31, rg31) =>
    Option.bind (law07Season N) fun (ra60, rb60, rc40, rd32, re32, rf32, rg32) =>
    Option.bind (idx rg30 1) fun x2 =>
    Option.bind (idx rg32 0) fun x4 =>
    Option.bind (
      if decide (rb22 = 2) then
        if decide (rb26 = 2) then
          if decide (rc16 = 1) then
            if decide (rc20 = 1) then
              if decide (rc24 = 2) then
                if decide (k1 = 3) then
                  if decide (rb46 = 8) then
                    if decide (rb50 = 1) then
                      if decide (rb54 = 1) then
                        Option.bind (rateCheckBook N ((RateBook.mk (RateLaw.mk ra58 rb58 rc38 rd30 re30) rf30 (List.set rg30 (Int.toNat 1) (RateSheet.mk 1 x2.fBowler x2.fWeek x2.fGames)) ([])))) fun r11 =>
                        if decide (r11 = 6) then
                          Option.bind (rateCheckBook N ((RateBook.mk (RateLaw.mk ra59 101 rc39 rd31 re31) rf31 rg31 ([])))) fun r12 =>
                          if decide (r12 = 1) then
                            Option.bind (rateCheckBook N ((RateBook.mk (RateLaw.mk ra60 rb60 rc40 rd32 re32) rf32 (List.set rg32 (Int.toNat 0) ((RateSheet.mk x4.fNumber x4.fBowler x4.fWeek (Ar3.mk x4.fGames.a0 x4.fGames.a1 301)))) ([])))) fun r13 =>
                            if decide (r13 = 1) then
                              Option.bind (rateCheckBook N ((RateBook.mk (RateLaw.mk 0 0 0 0 0) ([]) ([]) ([])))) fun r14 =>
                              if decide (r14 = 1) then
                                Option.bind (mkl N 9 0) fun l4 =>
                                Option.bind (rateCheckBook N ((RateBook.mk (RateLaw.mk 0 0 0 0 0) l4 ([]) ([])))) fun r15 =>
                                if decide (r15 = 3) then
                                  Option.bind (law07Wakes N) fun r16 =>
                                  some r16
                                else
                                  some false
                              else
                                some false
                            else
                              some false
                          else
                            some false
                        else
                          some false
                      else
                        some false
                    else
                      some false
                  else
                    some false
                else
                  some false
              else
                some false
            else
              some false
          else
            some false
        else
          some false
      else
        some false
    ) fun v3 =>
    some v3
end
end Go.Proofs.Ytmencjafjcmbaaa
