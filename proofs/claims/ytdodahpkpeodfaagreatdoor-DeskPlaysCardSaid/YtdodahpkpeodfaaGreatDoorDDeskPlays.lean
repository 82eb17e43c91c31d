/-
 The law DeskPlays, typed.
-/
import Derived.Test.YtdodahpkpeodfaaGreatDoorDef
namespace Go.Proofs.YtdodahpkpeodfaaGreatDoor
open Go.Kp
set_option linter.all false
noncomputable section
def Bx (N:Nat)   : Option (Bool) :=
 Option.bind (cL N) fun r28 =>
 some r28
def zl (N:Nat)(rb2:List Int)(rb4:List Int)(rec3:(Int)→Option (Bool))(i8:Int):Option (Bool) :=
 if decide (i8<(rb4.length:Int))then
  Option.bind (idx rb2 i8) fun x47 =>
  Option.bind (idx rb4 i8) fun x48 =>
  if !decide (x47=x48)then
   some false
  else
   rec3 (w64 (i8+1))
 else
  Bx N
def BZ (N:Nat)(lines1:List (List UInt8)):Option (Bool) :=
 Option.bind (j0 N lines1) fun r6 =>
 if !r6 then
  Option.bind (cL N) fun r8 =>
  some r8
 else
  Option.bind (iw N lines1) fun r10 =>
  Option.bind (nE N r10) fun(ra2,rb2,rc2) =>
  Option.bind (Dg N lines1) fun r18 =>
  if !decide (r18=0)then
   Option.bind (
    if decide (rc2=r18)then
     if decide ((rb2.length:Int)=0)then
      Option.bind (DW N ra2) fun r21 =>
      if r21 then
       Option.bind (cL N) fun r22 =>
       some r22
      else
       some false
     else
      some false
    else
     some false
   ) fun v4 =>
   some v4
  else
   Option.bind (DC N lines1) fun(ra4,rb4) =>
   Option.bind (
    if !decide (rc2=0)then
     some true
    else
     if !decide ((rb2.length:Int)=(rb4.length:Int))then
      some true
     else
      Option.bind (DD N ra2 ra4) fun r26 =>
      some (!r26)
   ) fun v8 =>
   if v8 then
    some false
   else
    loopN (fun rec3 x=>zl N rb2 rb4 rec3 x) N 0
end
end Go.Proofs.YtdodahpkpeodfaaGreatDoor
