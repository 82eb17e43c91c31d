/-
 The law DeskStruck, typed.
-/
import Derived.Test.YtkbeeloccdfomaaGreatDoorDef
namespace Go.Proofs.YtkbeeloccdfomaaGreatDoor
open Go.Kp
set_option linter.all false
noncomputable section
def Fx (N:Nat)   : Option (Bool) :=
 Option.bind (cL N) fun r120 =>
 some r120
def Fr (N:Nat)(b18:Int)(weeks10:Ar2 Int)(rec3:(Int×(Ar2 Int))→Option (Bool))  : Option (Bool) :=
 rec3 ((w64 (b18+1),weeks10))
def Fy (N:Nat)(lines1:List (List UInt8))(l2:List (List UInt8))(b18:Int)(weeks10:Ar2 Int)(rec3:(Int×(Ar2 Int))→Option (Bool))  : Option (Bool) :=
 Option.bind (iw N lines1) fun r210 =>
 Option.bind (lL N r210 b18 weeks10.a1) fun(ra190,rb190,rc190) =>
 Option.bind (iw N l2) fun r212 =>
 Option.bind (lL N r212 b18 weeks10.a1) fun(ra192,rb192,rc192) =>
 Option.bind (
  if !decide (rc190=0)then
   some true
  else
   if !decide (rc192=0)then
    some true
   else
    if !decide (ra190=ra192)then
     some true
    else
     some (!decide (rb190=rb192))
 ) fun v292 =>
 if v292 then
  some false
 else
  Fr N b18 weeks10 rec3
def Fs (N:Nat)(lines1:List (List UInt8))(x2:RateSheet)(l2:List (List UInt8))(b18:Int)(weeks10:Ar2 Int)(rec3:(Int×(Ar2 Int))→Option (Bool))  : Option (Bool) :=
 Option.bind (
  if decide (b18=x2.fBowler)then
   some (decide (x2.fWeek<weeks10.a1))
  else
   some false
 ) fun v294 =>
 if v294 then
  Fr N b18 weeks10 rec3
 else
  Fy N lines1 l2 b18 weeks10 rec3
def Fz (N:Nat)(lines1:List (List UInt8))(x2:RateSheet)(l2:List (List UInt8))(b18:Int)(weeks10:Ar2 Int)(rec3:(Int×(Ar2 Int))→Option (Bool))  : Option (Bool) :=
 Option.bind (iw N lines1) fun r214 =>
 Option.bind (lL N r214 b18 weeks10.a0) fun(ra194,rb194,rc194) =>
 Option.bind (iw N l2) fun r216 =>
 Option.bind (lL N r216 b18 weeks10.a0) fun(ra196,rb196,rc196) =>
 Option.bind (
  if !decide (rc194=0)then
   some true
  else
   if !decide (rc196=0)then
    some true
   else
    if !decide (ra194=ra196)then
     some true
    else
     some (!decide (rb194=rb196))
 ) fun v298 =>
 if v298 then
  some false
 else
  Fs N lines1 x2 l2 b18 weeks10 rec3
def E6 (N:Nat)(lines1:List (List UInt8))(ra2:DeskState)(x2:RateSheet)(l2:List (List UInt8))(rec3:(Int×(Ar2 Int))→Option (Bool))(b18:Int)(weeks10:Ar2 Int):Option (Bool) :=
 if decide (b18<(ra2.fBowlers.length:Int))then
  Option.bind (
   if decide (b18=x2.fBowler)then
    some (decide (x2.fWeek<weeks10.a0))
   else
    some false
  ) fun v300 =>
  if v300 then
   Fs N lines1 x2 l2 b18 weeks10 rec3
  else
   Fz N lines1 x2 l2 b18 weeks10 rec3
 else
  Fx N
def FA (N:Nat)(lines1:List (List UInt8))(which1:Int)(week1:Int):Option (Bool) :=
 Option.bind (
  Option.bind (j0 N lines1) fun r9 =>
  if !r9 then
   some true
  else
   Option.bind (gz N lines1) fun r10 =>
   if !r10 then
    some true
   else
    some (decide (49<(lines1.length:Int)))
 ) fun v4 =>
 if v4 then
  Option.bind (cL N) fun r12 =>
  some r12
 else
  Option.bind (yK N lines1) fun(ra2,rb2,rc2) =>
  if !rc2 then
   some false
  else
   if decide ((ra2.fSheets.length:Int)=0)then
    Option.bind (cL N) fun r16 =>
    some r16
   else
    Option.bind (nz (ra2.fSheets.length:Int)) fun _ =>
    Option.bind (idx ra2.fSheets (Int.tmod (w64 which1) (ra2.fSheets.length:Int))) fun x2 =>
    Option.bind (
     if decide (x2.fNumber<1)then
      some true
     else
      if decide (40<x2.fNumber)then
       some true
      else
       if decide (x2.fWeek<1)then
        some true
       else
        some (decide (30<x2.fWeek))
    ) fun v8 =>
    if v8 then
     some false
    else
     Option.bind (iw N lines1) fun r19 =>
     Option.bind (yU N x2.fNumber) fun r20 =>
     Option.bind (cat N ([115,116,114,105,107,101,32]:List UInt8) r20) fun s2 =>
     Option.bind (app N r19 ([(([115,116,114,105,107,101,32]:List UInt8)++r20)])) fun l2 =>
     Option.bind (iw N l2) fun r22 =>
     Option.bind (nE N r22) fun(ra4,rb4,rc4) =>
     Option.bind (
      if !decide (rc4=0)then
       some true
      else
       if !decide ((rb4.length:Int)=(l2.length:Int))then
        some true
       else
        Option.bind (idx rb4 (lines1.length:Int)) fun x6 =>
        if !decide (x6=0)then
         some (!decide (x6=6))
        else
         some false
     ) fun v12 =>
     if v12 then
      some false
     else
      Option.bind (nz x2.fWeek) fun _ =>
      aj (fun rec3 x=>E6 N lines1 ra2 x2 l2 rec3 x.1 x.2) N ((0,(Ar2.mk (w64 (1+(Int.tmod (w64 week1) 30))) (w64 (1+(Int.tmod (w64 week1) x2.fWeek))))))
end
end Go.Proofs.YtkbeeloccdfomaaGreatDoor
