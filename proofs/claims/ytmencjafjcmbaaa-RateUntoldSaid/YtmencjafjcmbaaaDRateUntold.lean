/-
  The law RateUntold, typed.
-/
import Derived.Test.YtmencjafjcmbaaaDef
namespace Go.Proofs.Ytmencjafjcmbaaa
open Go.Kp
set_option linter.all false
noncomputable section

def law07RateUntold_b1 (N : Nat) (b1 : Ref07Book) (bits1 : Int) (rec3 : (Int × Int × Int × Int × (List Int)) → Option (Int × Int × Int × (List Int))) (k11 : Int) (w11 : Int) (games14 : Int) (n9 : Int) (l24 : List Int) : Option (Int × Int × Int × (List Int)) :=
  if decide (n9 < w11) then
    Option.bind (
      Option.bind (ref07Of N b1 k11 n9) fun (ra24, rb24) =>
      if rb24 then
        some ((w64 (games14 + 3), l24))
      else
        Option.bind (
          if decide ((l24.length : Int) < 5) then
            Option.bind (nng (Go.IntKind.wrap .u64 n9)) fun _ =>
            some (decide ((Int.tmod (shrI .u32 bits1 (Go.IntKind.wrap .u64 n9)) 2) = 1))
          else
            some false
        ) fun v26 =>
        if v26 then
          Option.bind (app N l24 ([n9])) fun l27 =>
          some (games14, l27)
        else
          some (games14, l24)
    ) fun (games15, l26) =>
    rec3 ((k11, w11, games15, w64 (n9 + 1), l26))
  else
    some (k11, w11, games14, l24)

def law07RateUntold_k2 (N : Nat) (b1 : Ref07Book) (games8 : Int) (l14 : List Int) (ra26 : RateRange) (told6 : Ar3 Int) : Option (Bool) :=
  Option.bind (
    if decide ((w64 (games8 + (w64 (3 * (l14.length : Int))))) < b1.fLaw.fLeast) then
      some (!decide (ra26.fLo = ra26.fHi))
    else
      some false
  ) fun v1326 =>
  if v1326 then
    some false
  else
    Option.bind (
      if decide (told6.a0 = ra26.fLo) then
        if decide (told6.a1 = ra26.fHi) then
          if decide (ra26.fLo ≤ told6.a2) then
            if decide (told6.a2 ≤ ra26.fHi) then
              Option.bind (law07Wakes N) fun r5216 =>
              some r5216
            else
              some false
          else
            some false
        else
          some false
      else
        some false
    ) fun v1327 =>
    some v1327

def law07RateUntold_b3 (N : Nat) (b1 : Ref07Book) (rec263 : (Int) → Option (Int)) (number1380 : Int) : Option (Int) :=
  Option.bind (
    Option.bind (ref07Has N b1.fWithdrawn number1380) fun r5791 =>
    if r5791 then
      some true
    else
      Option.bind (law07Taken N b1 number1380) fun r5792 =>
      some r5792
  ) fun v1471 =>
  if v1471 then
    rec263 (w64 (number1380 + 1))
  else
    some number1380

def law07RateUntold_b4 (N : Nat) (b1 : Ref07Book) (words1 : List Int) (k6 : Int) (l14 : List Int) (rec259 : (Int × Int × (List Ref07Sheet)) → Option ((List Ref07Sheet))) (number1357 : Int) (i80 : Int) (l314 : List Ref07Sheet) : Option ((List Ref07Sheet)) :=
  if decide (i80 < (l14.length : Int)) then
    Option.bind (
      Option.bind (
        loopN (fun rec263 x => law07RateUntold_b3 N b1 rec263 x) N (w64 (number1357 + 1))
      ) fun number1375 =>
      Option.bind (
        if decide (0 < (words1.length : Int)) then
          Option.bind (nz (words1.length : Int)) fun _ =>
          Option.bind (idx words1 (Int.tmod (w64 ((w64 (3 * i80)) + 0)) (words1.length : Int))) fun x691 =>
          some ((Ar3.mk (Int.tmod (w64 x691) 301) 0 0))
        else
          some (Ar3.mk 0 0 0)
      ) fun g286 =>
      Option.bind (
        if decide (0 < (words1.length : Int)) then
          Option.bind (nz (words1.length : Int)) fun _ =>
          Option.bind (idx words1 (Int.tmod (w64 ((w64 (3 * i80)) + 1)) (words1.length : Int))) fun x693 =>
          some ((Ar3.mk g286.a0 (Int.tmod (w64 x693) 301) g286.a2))
        else
          some (Ar3.mk g286.a0 0 g286.a2)
      ) fun g287 =>
      Option.bind (
        if decide (0 < (words1.length : Int)) then
          Option.bind (nz (words1.length : Int)) fun _ =>
          Option.bind (idx words1 (Int.tmod (w64 ((w64 (3 * i80)) + 2)) (words1.length : Int))) fun x695 =>
          some ((Ar3.mk g287.a0 g287.a1 (Int.tmod (w64 x695) 301)))
        else
          some (Ar3.mk g287.a0 g287.a1 0)
      ) fun g288 =>
      Option.bind (idx l14 i80) fun x696 =>
      Option.bind (app N l314 ([(Ref07Sheet.mk number1375 k6 x696 g288)])) fun l317 =>
      some (number1375, l317)
    ) fun (number1369, l316) =>
    rec259 ((number1369, w64 (i80 + 1), l316))
  else
    some l314

def law07RateUntold_k5 (N : Nat) (b1 : Ref07Book) (words1 : List Int) (k6 : Int) (w6 : Int) (games8 : Int) (l14 : List Int) (ra26 : RateRange) (told5 : Ar3 Int) : Option (Bool) :=
  Option.bind (app N ([]) b1.fSheets) fun l290 =>
  Option.bind (
    loopN (fun rec259 x => law07RateUntold_b4 N b1 words1 k6 l14 rec259 x.1 x.2.1 x.2.2) N (0, 0, l290)
  ) fun l304 =>
  Option.bind (law07Book N (Ref07Book.mk b1.fLaw b1.fBowlers l304 b1.fWithdrawn)) fun r5794 =>
  Option.bind (rateAverage N r5794 k6 w6) fun (ra46, rb46) =>
  if !decide (rb46 = 0) then
    some false
  else
    law07RateUntold_k2 N b1 games8 l14 ra26 (Ar3.mk told5.a0 told5.a1 ra46)

def law07RateUntold_b6 (N : Nat) (b1 : Ref07Book) (rec289 : (Int) → Option (Int)) (number1518 : Int) : Option (Int) :=
  Option.bind (
    Option.bind (ref07Has N b1.fWithdrawn number1518) fun r6369 =>
    if r6369 then
      some true
    else
      Option.bind (law07Taken N b1 number1518) fun r6370 =>
      some r6370
  ) fun v1615 =>
  if v1615 then
    rec289 (w64 (number1518 + 1))
  else
    some number1518

def law07RateUntold_b7 (N : Nat) (b1 : Ref07Book) (k6 : Int) (l14 : List Int) (rec285 : (Int × Int × (List Ref07Sheet)) → Option ((List Ref07Sheet))) (number1495 : Int) (i88 : Int) (l343 : List Ref07Sheet) : Option ((List Ref07Sheet)) :=
  if decide (i88 < (l14.length : Int)) then
    Option.bind (
      Option.bind (
        loopN (fun rec289 x => law07RateUntold_b6 N b1 rec289 x) N (w64 (number1495 + 1))
      ) fun number1513 =>
      Option.bind (
        some ()
      ) fun _ =>
      Option.bind (
        some ()
      ) fun _ =>
      Option.bind (
        some ()
      ) fun _ =>
      Option.bind (idx l14 i88) fun x708 =>
      Option.bind (app N l343 ([(Ref07Sheet.mk number1513 k6 x708 (Ar3.mk 300 300 300))])) fun l346 =>
      some (number1513, l346)
    ) fun (number1507, l345) =>
    rec285 ((number1507, w64 (i88 + 1), l345))
  else
    some l343

def law07RateUntold_k8 (N : Nat) (b1 : Ref07Book) (words1 : List Int) (k6 : Int) (w6 : Int) (games8 : Int) (l14 : List Int) (ra26 : RateRange) (told4 : Ar3 Int) : Option (Bool) :=
  Option.bind (app N ([]) b1.fSheets) fun l319 =>
  Option.bind (
    loopN (fun rec285 x => law07RateUntold_b7 N b1 k6 l14 rec285 x.1 x.2.1 x.2.2) N (0, 0, l319)
  ) fun l333 =>
  Option.bind (law07Book N (Ref07Book.mk b1.fLaw b1.fBowlers l333 b1.fWithdrawn)) fun r6372 =>
  Option.bind (rateAverage N r6372 k6 w6) fun (ra48, rb48) =>
  if !decide (rb48 = 0) then
    some false
  else
    law07RateUntold_k5 N b1 words1 k6 w6 games8 l14 ra26 (Ar3.mk told4.a0 ra48 told4.a2)

def law07RateUntold_b9 (N : Nat) (b1 : Ref07Book) (rec315 : (Int) → Option (Int)) (number1656 : Int) : Option (Int) :=
  Option.bind (
    Option.bind (ref07Has N b1.fWithdrawn number1656) fun r6947 =>
    if r6947 then
      some true
    else
      Option.bind (law07Taken N b1 number1656) fun r6948 =>
      some r6948
  ) fun v1759 =>
  if v1759 then
    rec315 (w64 (number1656 + 1))
  else
    some number1656

def law07RateUntold_b10 (N : Nat) (b1 : Ref07Book) (k6 : Int) (l14 : List Int) (rec311 : (Int × Int × (List Ref07Sheet)) → Option ((List Ref07Sheet))) (number1633 : Int) (i96 : Int) (l372 : List Ref07Sheet) : Option ((List Ref07Sheet)) :=
  if decide (i96 < (l14.length : Int)) then
    Option.bind (
      Option.bind (
        loopN (fun rec315 x => law07RateUntold_b9 N b1 rec315 x) N (w64 (number1633 + 1))
      ) fun number1651 =>
      Option.bind (
        some ()
      ) fun _ =>
      Option.bind (
        some ()
      ) fun _ =>
      Option.bind (
        some ()
      ) fun _ =>
      Option.bind (idx l14 i96) fun x720 =>
      Option.bind (app N l372 ([(Ref07Sheet.mk number1651 k6 x720 (Ar3.mk 0 0 0))])) fun l375 =>
      some (number1651, l375)
    ) fun (number1645, l374) =>
    rec311 ((number1645, w64 (i96 + 1), l374))
  else
    some l372

def law07RateUntold (N : Nat) (b1 : Ref07Book) (bowler1 : Int) (week1 : Int) (bits1 : Int) (words1 : List Int) : Option (Bool) :=
  Option.bind (
    Option.bind (law07Ready N b1) fun r6 =>
    if !r6 then
      some true
    else
      if decide ((b1.fBowlers.length : Int) = 0) then
        some true
      else
        some (decide (35 < (b1.fSheets.length : Int)))
  ) fun v2 =>
  if v2 then
    Option.bind (law07Wakes N) fun r8 =>
    some r8
  else
    Option.bind (nz (b1.fBowlers.length : Int)) fun _ =>
    Option.bind (
      loopN (fun rec3 x => law07RateUntold_b1 N b1 bits1 rec3 x.1 x.2.1 x.2.2.1 x.2.2.2.1 x.2.2.2.2) N ((Int.tmod (w64 bowler1) (b1.fBowlers.length : Int), w64 (1 + (Int.tmod (w64 week1) 30)), 0, 1, []))
    ) fun (k6, w6, games8, l14) =>
    Option.bind (law07Book N b1) fun r11 =>
    Option.bind (law07List N l14) fun r12 =>
    Option.bind (rateSpan N r11 k6 w6 r12) fun (ra26, rb26) =>
    Option.bind (
      if !decide (rb26 = 0) then
        some true
      else
        some (decide (ra26.fHi < ra26.fLo))
    ) fun v28 =>
    if v28 then
      some false
    else
      Option.bind (app N ([]) b1.fSheets) fun l348 =>
      Option.bind (
        loopN (fun rec311 x => law07RateUntold_b10 N b1 k6 l14 rec311 x.1 x.2.1 x.2.2) N (0, 0, l348)
      ) fun l362 =>
      Option.bind (law07Book N (Ref07Book.mk b1.fLaw b1.fBowlers l362 b1.fWithdrawn)) fun r6950 =>
      Option.bind (rateAverage N r6950 k6 w6) fun (ra50, rb50) =>
      if !decide (rb50 = 0) then
        some false
      else
        law07RateUntold_k8 N b1 words1 k6 w6 games8 l14 ra26 (Ar3.mk ra50 0 0)
end
end Go.Proofs.Ytmencjafjcmbaaa
