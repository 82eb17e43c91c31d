/-
  The law RateBounds, typed.
-/
import Derived.Test.YtmencjafjcmbaaaDef
namespace Go.Proofs.Ytmencjafjcmbaaa
open Go.Kp
set_option linter.all false
noncomputable section

def law07RateBounds_k1 (N : Nat)   : Option (Bool) :=
  Option.bind (law07Wakes N) fun r34 =>
  some r34

def law07RateBounds_k2 (N : Nat) (w10 : Int) (k8 : Int) (rec15 : (Int × Int × (List Int) × (List Int)) → Option (Bool)) (l49 : List Int) (l50 : List Int) : Option (Bool) :=
  rec15 ((w10, w64 (k8 + 1), l49, l50))

def law07RateBounds_k3 (N : Nat) (w10 : Int) (k8 : Int) (l45 : List Int) (l46 : List Int) (rec15 : (Int × Int × (List Int) × (List Int)) → Option (Bool)) (ra46 : Int) (ra48 : Int)  : Option (Bool) :=
  Option.bind (app N l45 ([ra46])) fun l51 =>
  Option.bind (app N l46 ([ra48])) fun l52 =>
  law07RateBounds_k2 N w10 k8 rec15 l51 l52

def law07RateBounds_b4 (N : Nat) (w10 : Int) (k8 : Int) (l45 : List Int) (l46 : List Int) (rec15 : (Int × Int × (List Int) × (List Int)) → Option (Bool)) (ra46 : Int) (ra48 : Int) (rec19 : (Int) → Option (Bool)) (i64 : Int) : Option (Bool) :=
  if decide (i64 < k8) then
    Option.bind (
      Option.bind (idx l45 i64) fun x765 =>
      if decide (x765 < ra46) then
        Option.bind (idx l46 i64) fun x766 =>
        if decide (x766 < ra48) then
          some true
        else
          if decide (ra46 < x765) then
            if decide (ra48 < x766) then
              some true
            else
              if decide (x765 = ra46) then
                some (!decide (x766 = ra48))
              else
                some false
          else
            if decide (x765 = ra46) then
              some (!decide (x766 = ra48))
            else
              some false
      else
        if decide (ra46 < x765) then
          Option.bind (idx l46 i64) fun x767 =>
          if decide (ra48 < x767) then
            some true
          else
            if decide (x765 = ra46) then
              some (!decide (x767 = ra48))
            else
              some false
        else
          if decide (x765 = ra46) then
            Option.bind (idx l46 i64) fun x768 =>
            some (!decide (x768 = ra48))
          else
            some false
    ) fun v120 =>
    if v120 then
      some false
    else
      rec19 (w64 (i64 + 1))
  else
    law07RateBounds_k3 N w10 k8 l45 l46 rec15 ra46 ra48

def law07RateBounds_b5 (N : Nat) (b1 : Ref07Book) (rec15 : (Int × Int × (List Int) × (List Int)) → Option (Bool)) (w10 : Int) (k8 : Int) (l45 : List Int) (l46 : List Int) : Option (Bool) :=
  if decide (k8 < (b1.fBowlers.length : Int)) then
    Option.bind (law07Book N b1) fun r56 =>
    Option.bind (rateAverage N r56 k8 w10) fun (ra46, rb46) =>
    Option.bind (law07Book N b1) fun r58 =>
    Option.bind (rateHandicap N r58 k8 w10) fun (ra48, rb48) =>
    Option.bind (
      if !decide (rb46 = 0) then
        some true
      else
        if !decide (rb48 = 0) then
          some true
        else
          if decide (ra46 < 0) then
            some true
          else
            if decide (300 < ra46) then
              some true
            else
              if decide (ra48 < 0) then
                some true
              else
                if decide (b1.fLaw.fCap < ra48) then
                  some true
                else
                  some (decide ((max b1.fLaw.fBase ra46) < (w64 (ra46 + ra48))))
    ) fun v108 =>
    if v108 then
      some false
    else
      loopN (fun rec19 x => law07RateBounds_b4 N w10 k8 l45 l46 rec15 ra46 ra48 rec19 x) N 0
  else
    law07RateBounds_k1 N

def law07RateBounds (N : Nat) (b1 : Ref07Book) (week1 : Int) : Option (Bool) :=
  Option.bind (law07Ready N b1) fun r6 =>
  if !r6 then
    Option.bind (law07Wakes N) fun r8 =>
    some r8
  else
    loopN (fun rec15 x => law07RateBounds_b5 N b1 rec15 x.1 x.2.1 x.2.2.1 x.2.2.2) N ((w64 (1 + (Int.tmod (w64 week1) 30)), 0, [], []))
end
end Go.Proofs.Ytmencjafjcmbaaa
