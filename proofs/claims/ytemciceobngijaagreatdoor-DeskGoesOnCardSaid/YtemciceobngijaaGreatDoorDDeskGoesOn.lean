/-
 The law DeskGoesOn, typed.
-/
import Derived.Test.YtemciceobngijaaGreatDoorDef
namespace Go.Proofs.YtemciceobngijaaGreatDoor
open Go.Kp
set_option linter.all false
noncomputable section
def Fv (N:Nat)(lines1:List (List UInt8))(cut1:Int):Option (Bool) :=
 Option.bind (
  Option.bind (j0 N lines1) fun r9 =>
  if !r9 then
   some true
  else
   Option.bind (gz N lines1) fun r10 =>
   some (!r10)
 ) fun v4 =>
 if v4 then
  Option.bind (cL N) fun r12 =>
  some r12
 else
  Option.bind (yK N lines1) fun(ra2,rb2,rc2) =>
  Option.bind (iw N rb2) fun r14 =>
  Option.bind (gr N r14) fun(ra4,rb4) =>
  Option.bind (iw N lines1) fun r16 =>
  Option.bind (FB N ([]) r16) fun(ra6,rb6) =>
  Option.bind (
   if !rc2 then
    some true
   else
    if !decide (rb4=0)then
     some true
    else
     if !decide (rb6=0)then
      some true
     else
      some (!decide ((mC ra4)=(mC ra6)))
  ) fun v8 =>
  if v8 then
   some false
  else
   Option.bind (nz (w64 ((ra4.length:Int)+1))) fun _ =>
   Option.bind (slc ra4 0 (Int.tmod (w64 cut1) (w64 ((ra4.length:Int)+1)))) fun l3 =>
   Option.bind (app N ([]) l3) fun l4 =>
   Option.bind (ef N l4) fun(ra8,rb8) =>
   if decide ((rb2.length:Int)<(rb8.length:Int))then
    some false
   else
    Option.bind (
     Option.bind (slc ra4 0 (Int.tmod (w64 cut1) (w64 ((ra4.length:Int)+1)))) fun l8 =>
     Option.bind (app N ([]) l8) fun l9 =>
     Option.bind (slc rb2 (rb8.length:Int) (rb2.length:Int)) fun l10 =>
     Option.bind (iw N l10) fun r18 =>
     Option.bind (FB N l9 r18) fun(ra10,rb10) =>
     some (ra10,rb10)
    ) fun(d2,g2) =>
    Option.bind (
     if decide (g2=0)then
      if decide ((mC d2)=(mC ra4))then
       Option.bind (cL N) fun r20 =>
       some r20
      else
       some false
     else
      some false
    ) fun v10 =>
    some v10
end
end Go.Proofs.YtemciceobngijaaGreatDoor
