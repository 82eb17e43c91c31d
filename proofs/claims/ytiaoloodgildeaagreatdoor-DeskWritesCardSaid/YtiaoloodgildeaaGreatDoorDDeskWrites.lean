/-
 The law DeskWrites, typed.
-/
import Derived.Test.YtiaoloodgildeaaGreatDoorDef
namespace Go.Proofs.YtiaoloodgildeaaGreatDoor
open Go.Kp
set_option linter.all false
noncomputable section
def CW (N:Nat)(lines1:List (List UInt8))(b1:List Int):Option (Bool) :=
 Option.bind (
  Option.bind (j0 N lines1) fun r6 =>
  if !r6 then
   some true
  else
   some (decide (4000<(b1.length:Int)))
 ) fun v4 =>
 if v4 then
  Option.bind (cL N) fun r8 =>
  some r8
 else
  Option.bind (iw N lines1) fun r10 =>
  Option.bind (gr N r10) fun(ra2,rb2) =>
  Option.bind (app N ([]) b1) fun l2 =>
  Option.bind (ef N l2) fun(ra4,rb4) =>
  Option.bind (Dd N (mC b1)) fun(ra6,rb6) =>
  Option.bind (
   Option.bind (gN N rb4 ra6) fun r14 =>
   if !r14 then
    some true
   else
    some (!decide (ra4=rb6))
  ) fun v8 =>
  if v8 then
   some false
  else
   Option.bind (Do N lines1) fun r20 =>
   if !decide (r20=0)then
    Option.bind (
     if decide (rb2=r20)then
      if decide ((ra2.length:Int)=0)then
       Option.bind (cL N) fun r22 =>
       some r22
      else
       some false
     else
      some false
    ) fun v12 =>
    some v12
   else
    Option.bind (
     if decide (rb2=0)then
      Option.bind (Di N lines1) fun r26 =>
      if decide ((mC ra2)=r26)then
       Option.bind (cL N) fun r27 =>
       some r27
      else
       some false
     else
      some false
    ) fun v14 =>
    some v14
end
end Go.Proofs.YtiaoloodgildeaaGreatDoor
