/-
 The law DeskWorths, typed.
-/
import Derived.Test.YtdodahpkpeodfaaGreatDoorDef
open Option renaming bind→Ha
namespace Go.Proofs.YtdodahpkpeodfaaGreatDoor
open Go.Kp
set_option linter.all false
noncomputable section
def DH (N:Nat)(lines1:List (List UInt8))(bowler1:Int)(week1:Int):Option (Bool) :=
 Ha (j0 N lines1) fun r6 =>
 if !r6 then
  Ha (cL N) fun r8 =>
  some r8
 else
  Ha (iw N lines1) fun r10 =>
  Ha (lL N r10 bowler1 week1) fun(ra2,rb2,rc2) =>
  Ha (Dg N lines1) fun r12 =>
  Ha (DC N lines1) fun(ra4,rb4) =>
  Ha (
   Ha (
    if decide (r12=0)then
     Ha (Bw N bowler1 0 (w64 ((ra4.az.length:Int)-1))) fun r16 =>
     some (!r16)
    else
     some false
   ) fun v4 =>
   if v4 then
    some 7
   else
    some r12
  ) fun want2 =>
  Ha (
   Ha (
    if decide (want2=0)then
     Ha (Bw N week1 1 30) fun r20 =>
     some (!r20)
    else
     some false
   ) fun v8 =>
   if v8 then
    some 2
   else
    some want2
  ) fun want4 =>
  if !decide (want4=0)then
   Ha (
    if decide (rc2=want4)then
     if decide (ra2=0)then
      if decide (rb2=0)then
       Ha (cL N) fun r24 =>
       some r24
      else
       some false
     else
      some false
    else
     some false
   ) fun v12 =>
   some v12
  else
   Ha (JG N ra4) fun r26 =>
   Ha (
    if decide (rc2=0)then
     Ha (Ev N r26 bowler1 week1 0 0) fun r30 =>
     if decide (ra2=r30)then
      Ha (EQ N r26 bowler1 week1) fun r31 =>
      if decide (rb2=r31)then
       Ha (cL N) fun r32 =>
       some r32
      else
       some false
     else
      some false
    else
     some false
   ) fun v14 =>
   some v14
end
