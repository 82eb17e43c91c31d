/-
  The law RateAlike, typed.
-/
import Derived.Test.YtmencjafjcmbaaaDef
namespace Go.Proofs.Ytmencjafjcmbaaa
open Go.Kp
set_option linter.all false
noncomputable section

def law07RateAlike_k1 (N : Nat) (n9 : Int) (c18 : List Int) (l171 : List Ref07Sheet)  : Option ((List Ref07Sheet)) :=
  Option.bind (idx c18 0) fun x300 =>
  Option.bind (app N l171 ([(Ref07Sheet.mk (w64 (1 + (l171.length : Int))) 0 n9 (Ar3.mk x300 x300 x300))])) fun l178 =>
  Option.bind (idx c18 1) fun x304 =>
  Option.bind (app N l178 ([(Ref07Sheet.mk (w64 (1 + (l178.length : Int))) 1 n9 (Ar3.mk x304 x304 x304))])) fun l180 =>
  some l180

def law07RateAlike_b2 (N : Nat) (bits1 : Int) (rec3 : (Int × Int × (List Int) × (List Ref07Sheet)) → Option (Int × (List Int) × (List Ref07Sheet))) (w18 : Int) (n9 : Int) (c18 : List Int) (l171 : List Ref07Sheet) : Option (Int × (List Int) × (List Ref07Sheet)) :=
  if decide (n9 ≤ 18) then
    Option.bind (
      Option.bind (
        if !decide (n9 = w18) then
          Option.bind (nng (Go.IntKind.wrap .u64 n9)) fun _ =>
          some (decide ((Int.tmod (shrI .u32 bits1 (Go.IntKind.wrap .u64 n9)) 2) = 0))
        else
          some false
      ) fun v76 =>
      if v76 then
        some l171
      else
        law07RateAlike_k1 N n9 c18 l171
    ) fun l176 =>
    rec3 ((w18, w64 (n9 + 1), c18, l176))
  else
    some (w18, c18, l171)

def law07RateAlike_k3 (N : Nat)   : Option (Bool) :=
  Option.bind (law07Wakes N) fun r164 =>
  some r164

def law07RateAlike_k4 (N : Nat) (n19 : Int) (rec5 : (Int) → Option (Bool))  : Option (Bool) :=
  rec5 (w64 (n19 + 1))

def law07RateAlike_b5 (N : Nat) (b1 : Ref07Book) (c13 : List Int) (l149 : List Ref07Sheet) (rec5 : (Int) → Option (Bool)) (n19 : Int) : Option (Bool) :=
  if decide (n19 ≤ 30) then
    Option.bind (law07Book N ((Ref07Book.mk (Ref07Law.mk 300 100 300 b1.fLaw.fLeast b1.fLaw.fBlind) c13 l149 ([])))) fun r208 =>
    Option.bind (rateAverage N r208 0 n19) fun (ra198, rb198) =>
    Option.bind (
      if !decide (rb198 = 0) then
        some true
      else
        Option.bind (idx c13 0) fun x500 =>
        some (!decide (ra198 = x500))
    ) fun v176 =>
    if v176 then
      some false
    else
      Option.bind (law07Book N ((Ref07Book.mk (Ref07Law.mk 300 100 300 b1.fLaw.fLeast b1.fLaw.fBlind) c13 l149 ([])))) fun r212 =>
      Option.bind (rateAverage N r212 1 n19) fun (ra202, rb202) =>
      Option.bind (
        if !decide (rb202 = 0) then
          some true
        else
          Option.bind (idx c13 1) fun x504 =>
          some (!decide (ra202 = x504))
      ) fun v178 =>
      if v178 then
        some false
      else
        law07RateAlike_k4 N n19 rec5
  else
    law07RateAlike_k3 N

def law07RateAlike (N : Nat) (b1 : Ref07Book) (first1 : Int) (second1 : Int) (week1 : Int) (bits1 : Int) : Option (Bool) :=
  Option.bind (law07Ready N b1) fun r6 =>
  if !r6 then
    Option.bind (law07Wakes N) fun r8 =>
    some r8
  else
    Option.bind (
      loopN (fun rec3 x => law07RateAlike_b2 N bits1 rec3 x.1 x.2.1 x.2.2.1 x.2.2.2) N ((w64 (1 + (Int.tmod (w64 week1) 18)), 1, [Int.tmod (w64 first1) 301, Int.tmod (w64 second1) 301], []))
    ) fun (w13, c13, l149) =>
    Option.bind (law07Book N ((Ref07Book.mk (Ref07Law.mk 300 100 300 b1.fLaw.fLeast b1.fLaw.fBlind) c13 l149 ([])))) fun r10 =>
    Option.bind (rateMatch N r10 w13 ([0]) ([1])) fun (ra2, rb2, rc2) =>
    Option.bind (
      if !decide (rc2 = 0) then
        some true
      else
        if !decide (ra2 = 4) then
          some true
        else
          some (!decide (rb2 = 4))
    ) fun v78 =>
    if v78 then
      some false
    else
      loopN (fun rec5 x => law07RateAlike_b5 N b1 c13 l149 rec5 x) N 1
end
end Go.Proofs.Ytmencjafjcmbaaa
