/-
  The law RateWithdrawn, typed.
-/
import Derived.Test.YtmencjafjcmbaaaDef
namespace Go.Proofs.Ytmencjafjcmbaaa
open Go.Kp
set_option linter.all false
noncomputable section

def law07RateWithdrawn_b1 (N : Nat) (b1 : Ref07Book) (x2 : Ref07Sheet) (rec3 : (Int × (List Ref07Sheet)) → Option ((List Ref07Sheet))) (i8 : Int) (l24 : List Ref07Sheet) : Option ((List Ref07Sheet)) :=
  if decide (i8 < (b1.fSheets.length : Int)) then
    Option.bind (
      Option.bind (idx b1.fSheets i8) fun x26 =>
      if !decide (x26.fNumber = x2.fNumber) then
        Option.bind (app N l24 ([x26])) fun l27 =>
        some l27
      else
        some l24
    ) fun l26 =>
    rec3 ((w64 (i8 + 1), l26))
  else
    some l24

def law07RateWithdrawn_k2 (N : Nat)   : Option (Bool) :=
  Option.bind (law07Wakes N) fun r110 =>
  some r110

def law07RateWithdrawn_b3 (N : Nat) (b1 : Ref07Book) (week1 : Int) (l14 : List Ref07Sheet) (l89 : List Int) (rec7 : (Int) → Option (Bool)) (k8 : Int) : Option (Bool) :=
  if decide (k8 < (b1.fBowlers.length : Int)) then
    Option.bind (law07Same N (Ref07Book.mk b1.fLaw b1.fBowlers l14 b1.fWithdrawn) (Ref07Book.mk b1.fLaw b1.fBowlers b1.fSheets l89) k8 (w64 (1 + (Int.tmod (w64 week1) 30)))) fun r122 =>
    if !r122 then
      some false
    else
      rec7 (w64 (k8 + 1))
  else
    law07RateWithdrawn_k2 N

def law07RateWithdrawn_b4 (N : Nat) (b1 : Ref07Book) (week1 : Int) (x2 : Ref07Sheet) (l14 : List Ref07Sheet) (rec5 : (Int × (List Int)) → Option (Bool)) (n11 : Int) (l89 : List Int) : Option (Bool) :=
  if decide (n11 ≤ 999) then
    Option.bind (
      Option.bind (
        if decide (n11 = x2.fNumber) then
          some true
        else
          Option.bind (ref07Has N b1.fWithdrawn n11) fun r88 =>
          some r88
      ) fun v40 =>
      if v40 then
        Option.bind (app N l89 ([n11])) fun l92 =>
        some l92
      else
        some l89
    ) fun l91 =>
    rec5 ((w64 (n11 + 1), l91))
  else
    Option.bind (law07Book N (Ref07Book.mk b1.fLaw b1.fBowlers l14 b1.fWithdrawn)) fun r90 =>
    Option.bind (rateCounting N r90) fun (ra2, rb2) =>
    Option.bind (law07Book N (Ref07Book.mk b1.fLaw b1.fBowlers b1.fSheets l89)) fun r92 =>
    Option.bind (rateCounting N r92) fun (ra4, rb4) =>
    Option.bind (
      if !decide (rb2 = 0) then
        some true
      else
        if !decide (rb4 = 0) then
          some true
        else
          Option.bind (law07Ints N ra2 ra4) fun r96 =>
          some (!r96)
    ) fun v42 =>
    if v42 then
      some false
    else
      loopN (fun rec7 x => law07RateWithdrawn_b3 N b1 week1 l14 l89 rec7 x) N 0

def law07RateWithdrawn_k5 (N : Nat)   : Option (Bool) :=
  Option.bind (law07Wakes N) fun r144 =>
  some r144

def law07RateWithdrawn_b6 (N : Nat) (b1 : Ref07Book) (week1 : Int) (l14 : List Ref07Sheet) (rec9 : (Int) → Option (Bool)) (k16 : Int) : Option (Bool) :=
  if decide (k16 < (b1.fBowlers.length : Int)) then
    Option.bind (law07Same N (Ref07Book.mk b1.fLaw b1.fBowlers l14 b1.fWithdrawn) b1 k16 (w64 (1 + (Int.tmod (w64 week1) 30)))) fun r156 =>
    if !r156 then
      some false
    else
      rec9 (w64 (k16 + 1))
  else
    law07RateWithdrawn_k5 N

def law07RateWithdrawn (N : Nat) (b1 : Ref07Book) (which1 : Int) (week1 : Int) : Option (Bool) :=
  Option.bind (
    Option.bind (law07Ready N b1) fun r6 =>
    if !r6 then
      some true
    else
      if decide ((b1.fSheets.length : Int) = 0) then
        some true
      else
        some (decide (39 < (b1.fWithdrawn.length : Int)))
  ) fun v2 =>
  if v2 then
    Option.bind (law07Wakes N) fun r8 =>
    some r8
  else
    Option.bind (nz (b1.fSheets.length : Int)) fun _ =>
    Option.bind (idx b1.fSheets (Int.tmod (w64 which1) (b1.fSheets.length : Int))) fun x2 =>
    Option.bind (
      some ()
    ) fun _ =>
    Option.bind (
      loopN (fun rec3 x => law07RateWithdrawn_b1 N b1 x2 rec3 x.1 x.2) N (0, [])
    ) fun l14 =>
    Option.bind (ref07Counts N b1 x2) fun r76 =>
    if r76 then
      loopN (fun rec5 x => law07RateWithdrawn_b4 N b1 week1 x2 l14 rec5 x.1 x.2) N (1, [])
    else
      Option.bind (law07Book N (Ref07Book.mk b1.fLaw b1.fBowlers l14 b1.fWithdrawn)) fun r124 =>
      Option.bind (rateCounting N r124) fun (ra6, rb6) =>
      Option.bind (law07Book N b1) fun r126 =>
      Option.bind (rateCounting N r126) fun (ra8, rb8) =>
      Option.bind (
        if !decide (rb6 = 0) then
          some true
        else
          if !decide (rb8 = 0) then
            some true
          else
            Option.bind (law07Ints N ra6 ra8) fun r130 =>
            some (!r130)
      ) fun v44 =>
      if v44 then
        some false
      else
        loopN (fun rec9 x => law07RateWithdrawn_b6 N b1 week1 l14 rec9 x) N 0
end
end Go.Proofs.Ytmencjafjcmbaaa
