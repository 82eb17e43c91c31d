/-
 The law DeskResumes, typed.
-/
import Derived.Test.YtdodahpkpeodfaaGreatDoorDef
open Option renaming bind→Ha
namespace Go.Proofs.YtdodahpkpeodfaaGreatDoor
open Go.Kp
set_option linter.all false
noncomputable section
def CT (N:Nat)(more1:List (List UInt8))(rec5:(Int×(List (List UInt8))×bZ)→Option ((List (List UInt8))))(i16:Int)(l66:List (List UInt8))(s38:bZ):Option ((List (List UInt8))) :=
 if decide (i16<(more1.length:Int))then
  Ha (
   Ha (
    Ha (idx more1 i16) fun x71 =>
    Ha (Eh N s38 x71) fun(ra58,rb58) =>
    some (rb58,ra58)
   ) fun(no48,t48) =>
   if decide (no48=0)then
    Ha (idx more1 i16) fun x72 =>
    Ha (app N l66 ([x72])) fun l70 =>
    some (l70,t48)
   else
    some (l66,t48)
  ) fun(l69,s40) =>
  rec5 ((w64 (i16+1),l69,s40))
 else
  some l66
def Kq (N:Nat)(b1:List Int)(more1:List (List UInt8)):Option (Bool) :=
 Ha (
  Ha (j0 N more1) fun r6 =>
  if !r6 then
   some true
  else
   some (decide (4000<(b1.length:Int)))
 ) fun v4 =>
 if v4 then
  Ha (cL N) fun r8 =>
  some r8
 else
  Ha (app N ([]) b1) fun l2 =>
  Ha (iw N more1) fun r10 =>
  Ha (KT N l2 r10) fun(ra2,rb2) =>
  Ha (Dg N more1) fun r12 =>
  Ha (
   if decide (r12=0)then
    Ha (MC N (mC b1)) fun(ra32,rb32) =>
    Ha (DC N rb32) fun(ra34,rb34) =>
    Ha (
     loopN (fun rec5 x=>CT N more1 rec5 x.1 x.2.1 x.2.2) N (0,rb32,ra34)
    ) fun l54 =>
    if decide (50<(l54.length:Int))then
     some (3,l54)
    else
     some (r12,l54)
   else
    some (r12,[])
  ) fun(want2,l37) =>
  if !decide (want2=0)then
   Ha (
    if decide (rb2=want2)then
     if decide ((ra2.length:Int)=0)then
      Ha (cL N) fun r16 =>
      some r16
     else
      some false
    else
     some false
   ) fun v8 =>
   some v8
  else
   Ha (
    if decide (rb2=0)then
     Ha (MD N l37) fun r20 =>
     if decide ((mC ra2)=r20)then
      Ha (cL N) fun r21 =>
      some r21
     else
      some false
    else
     some false
   ) fun v10 =>
   some v10
end
