/-
 The law DeskDuels, typed.
-/
import Derived.Test.YtkbeeloccdfomaaGreatDoorDef
namespace Go.Proofs.YtkbeeloccdfomaaGreatDoor
open Go.Kp
set_option linter.all false
noncomputable section
def C2 (N:Nat)(b6:List Int)  : Option (Bool) :=
 Option.bind (
  if decide (0<(b6.length:Int))then
   Option.bind (cL N) fun r28 =>
   some r28
  else
   some false
 ) fun v54 =>
 some v54
def C4 (N:Nat)(i8:Int)(rec23:(Int)→Option (Bool))  : Option (Bool) :=
 rec23 (w64 (i8+1))
def Cq (N:Nat)(a2:List Int)(b6:List Int)(i8:Int)(rec27:(Bool×Int)→Option (Bool))(has226:Bool)(k96:Int):Option (Bool) :=
 if decide (k96<(a2.length:Int))then
  Option.bind (
   if has226 then
    some true
   else
    Option.bind (idx a2 k96) fun x287 =>
    Option.bind (idx b6 i8) fun x288 =>
    some (decide (x287=x288))
  ) fun has228 =>
  rec27 ((has228,w64 (k96+1)))
 else
  some has226
def BK (N:Nat)(a2:List Int)(b6:List Int)(rec23:(Int)→Option (Bool))(i8:Int):Option (Bool) :=
 if decide (i8<(b6.length:Int))then
  Option.bind (
   aj (fun rec27 x=>Cq N a2 b6 i8 rec27 x.1 x.2) N (false,0)
  ) fun has219 =>
  if !has219 then
   some false
  else
   C4 N i8 rec23
 else
  C2 N b6
def C6 (N:Nat)(lines1:List (List UInt8))(which1:Int)(doubt1:Bool):Option (Bool) :=
 Option.bind (
  Option.bind (j0 N lines1) fun r9 =>
  if !r9 then
   some true
  else
   Option.bind (gz N lines1) fun r10 =>
   if !r10 then
    some true
   else
    some (decide (49<(lines1.length:Int)))
 ) fun v4 =>
 if v4 then
  Option.bind (cL N) fun r12 =>
  some r12
 else
  Option.bind (yU N (Int.tmod (w64 which1) 8)) fun r14 =>
  Option.bind (cat N ([100,117,101,108,32]:List UInt8) r14) fun s2 =>
  Option.bind (
   if doubt1 then
    Option.bind (yU N (Int.tmod (w64 which1) 8)) fun r16 =>
    Option.bind (cat N ([100,111,117,98,116,32]:List UInt8) r16) fun s4 =>
    some ((([100,111,117,98,116,32]:List UInt8)++r16))
   else
    some ((([100,117,101,108,32]:List UInt8)++r14))
  ) fun line2 =>
  Option.bind (yK N lines1) fun(ra2,rb2,rc2) =>
  Option.bind (iw N lines1) fun r18 =>
  Option.bind (app N r18 ([line2])) fun l2 =>
  Option.bind (yK N l2) fun(ra4,rb4,rc4) =>
  Option.bind (
   if !rc2 then
    some true
   else
    some (!rc4)
  ) fun v8 =>
  if v8 then
   some false
  else
   if decide ((ra2.fBowlers.length:Int)<2)then
    Option.bind (
     if decide ((ra2.fResults.length:Int)=0)then
      Option.bind (cL N) fun r22 =>
      some r22
     else
      some false
    ) fun v12 =>
    some v12
   else
    Option.bind (Dj N ra2) fun r24 =>
    Option.bind (eM N r24) fun(ra6,rb6) =>
    Option.bind (Dj N ra4) fun r26 =>
    Option.bind (eM N r26) fun(ra8,rb8) =>
    Option.bind (
     if !decide (rb6=0)then
      some true
     else
      some (!decide (rb8=0))
    ) fun v16 =>
    if v16 then
     some false
    else
     Option.bind (
      if doubt1 then
       some (ra8,ra6)
      else
       some (ra6,ra8)
     ) fun(a2,b6) =>
     aj (fun rec23 x=>BK N a2 b6 rec23 x) N 0
end
end Go.Proofs.YtkbeeloccdfomaaGreatDoor
