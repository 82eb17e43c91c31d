/-
 The law DeskReports, typed.
-/
import Derived.Test.YtdodahpkpeodfaaGreatDoorDef
open Option renaming bind→Ha
namespace Go.Proofs.YtdodahpkpeodfaaGreatDoor
open Go.Kp
set_option linter.all false
noncomputable section
def Jo (N:Nat)(lines1:List (List UInt8)):Option (Bool) :=
 Ha (j0 N lines1) fun r6 =>
 if !r6 then
  Ha (cL N) fun r8 =>
  some r8
 else
  Ha (iw N lines1) fun r10 =>
  Ha (gM N r10) fun(ra2,rb2) =>
  Ha (Dg N lines1) fun r16 =>
  if !decide (r16=0)then
   Ha (
    if decide (rb2=r16)then
     if decide (ra2=([]:List UInt8))then
      Ha (cL N) fun r18 =>
      some r18
     else
      some false
    else
     some false
   ) fun v4 =>
   some v4
  else
   Ha (
    if decide (rb2=0)then
     Ha (KO N lines1) fun r21 =>
     if decide (ra2=r21)then
      Ha (cL N) fun r22 =>
      some r22
     else
      some false
    else
     some false
   ) fun v6 =>
   some v6
end
