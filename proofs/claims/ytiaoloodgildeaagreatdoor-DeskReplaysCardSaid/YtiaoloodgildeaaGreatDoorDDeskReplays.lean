/-
 The law DeskReplays, typed.
-/
import Derived.Test.YtiaoloodgildeaaGreatDoorDef
namespace Go.Proofs.YtiaoloodgildeaaGreatDoor
open Go.Kp
set_option linter.all false
noncomputable section
def yo (N:Nat)(lines1:List (List UInt8)):Option (Bool) :=
 Option.bind (
  Option.bind (j0 N lines1) fun r9 =>
  if !r9 then
   some true
  else
   Option.bind (gz N lines1) fun r10 =>
   some (!r10)
 ) fun v4 =>
 if v4 then
  Option.bind (cL N) fun r12 =>
  some r12
 else
  Option.bind (yK N lines1) fun(ra2,rb2,rc2) =>
  if !rc2 then
   some false
  else
   Option.bind (yK N rb2) fun(ra4,rb4,rc4) =>
   Option.bind (
    if rc4 then
     if decide ((rb4.length:Int)=(rb2.length:Int))then
      Option.bind (zn N ra2 ra4) fun r15 =>
      if r15 then
       Option.bind (cL N) fun r16 =>
       some r16
      else
       some false
     else
      some false
    else
     some false
   ) fun v6 =>
   some v6
end
end Go.Proofs.YtiaoloodgildeaaGreatDoor
