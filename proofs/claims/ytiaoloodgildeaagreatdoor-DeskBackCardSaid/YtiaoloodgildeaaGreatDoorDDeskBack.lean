/-
 The law DeskBack, typed.
-/
import Derived.Test.YtiaoloodgildeaaGreatDoorDef
namespace Go.Proofs.YtiaoloodgildeaaGreatDoor
open Go.Kp
set_option linter.all false
noncomputable section
def y7 (N:Nat)(lines1:List (List UInt8))(lane1:Int)(pins1:Int):Option (Bool) :=
 Option.bind (
  Option.bind (j0 N lines1) fun r9 =>
  if !r9 then
   some true
  else
   Option.bind (gz N lines1) fun r10 =>
   if !r10 then
    some true
   else
    some (decide (48<(lines1.length:Int)))
 ) fun v4 =>
 if v4 then
  Option.bind (cL N) fun r12 =>
  some r12
 else
  Option.bind (yU N (Int.tmod (w64 lane1) 4)) fun r15 =>
  Option.bind (cat N ([98,97,108,108,32]:List UInt8) r15) fun s4 =>
  Option.bind (cat N ((([98,97,108,108,32]:List UInt8)++r15)) ([32]:List UInt8)) fun s5 =>
  Option.bind (yU N (w64 ((Int.tmod (w64 pins1) 12)-1))) fun r16 =>
  Option.bind (cat N ((((([98,97,108,108,32]:List UInt8)++r15))++([32]:List UInt8))) r16) fun s6 =>
  Option.bind (yK N lines1) fun(ra2,rb2,rc2) =>
  Option.bind (iw N lines1) fun r18 =>
  Option.bind (app N r18 ([(((((([98,97,108,108,32]:List UInt8)++r15))++([32]:List UInt8)))++r16)])) fun l2 =>
  Option.bind (nE N l2) fun(ra4,rb4,rc4) =>
  Option.bind (iw N lines1) fun r21 =>
  Option.bind (yU N (Int.tmod (w64 lane1) 4)) fun r22 =>
  Option.bind (cat N ([98,97,99,107,32]:List UInt8) r22) fun s8 =>
  Option.bind (app N r21 ([(((((([98,97,108,108,32]:List UInt8)++r15))++([32]:List UInt8)))++r16),(([98,97,99,107,32]:List UInt8)++r22)])) fun l4 =>
  Option.bind (nE N l4) fun(ra6,rb6,rc6) =>
  Option.bind (
   if !rc2 then
    some true
   else
    if !decide (rc4=0)then
     some true
    else
     if !decide ((rb4.length:Int)=(w64 ((lines1.length:Int)+1)))then
      some true
     else
      if !decide (rc6=0)then
       some true
      else
       some (!decide ((rb6.length:Int)=(w64 ((lines1.length:Int)+2))))
  ) fun v8 =>
  if v8 then
   some false
  else
   Option.bind (idx rb4 (lines1.length:Int)) fun x4 =>
   if !decide (x4=0)then
    Option.bind (
     if decide (x4=10)then
      Option.bind (cL N) fun r30 =>
      some r30
     else
      if decide (x4=8)then
       Option.bind (cL N) fun r29 =>
       some r29
      else
       some false
    ) fun v12 =>
    some v12
   else
    Option.bind (
     Option.bind (idx rb6 (w64 ((lines1.length:Int)+1))) fun x6 =>
     if decide (x6=0)then
      Option.bind (zn N ra2 ra6) fun r33 =>
      if r33 then
       Option.bind (cL N) fun r34 =>
       some r34
      else
       some false
     else
      some false
    ) fun v14 =>
    some v14
end
end Go.Proofs.YtiaoloodgildeaaGreatDoor
