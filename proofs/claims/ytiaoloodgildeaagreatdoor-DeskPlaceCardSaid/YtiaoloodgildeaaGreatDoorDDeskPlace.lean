/-
 The law DeskPlace, typed.
-/
import Derived.Test.YtiaoloodgildeaaGreatDoorDef
namespace Go.Proofs.YtiaoloodgildeaaGreatDoor
open Go.Kp
set_option linter.all false
noncomputable section
def l5 (N:Nat)(lines1:List (List UInt8))(rec3:(Int×Int×Int)→Option (Int×Int))(k11:Int)(from9:Int)(i8:Int):Option (Int×Int) :=
 if decide (i8<k11)then
  Option.bind (idx lines1 i8) fun x12 =>
  rec3 ((k11,w64 (from9+(w64 (12+(x12.length:Int)))),w64 (i8+1)))
 else
  some (k11,from9)
def ya (N:Nat)(lines1:List (List UInt8))(at1:Int):Option (Bool) :=
 Option.bind (
  Option.bind (j0 N lines1) fun r9 =>
  if !r9 then
   some true
  else
   Option.bind (gz N lines1) fun r10 =>
   if !r10 then
    some true
   else
    some (decide ((lines1.length:Int)=0))
 ) fun v4 =>
 if v4 then
  Option.bind (cL N) fun r12 =>
  some r12
 else
  Option.bind (iw N lines1) fun r14 =>
  Option.bind (gr N r14) fun(ra2,rb2) =>
  Option.bind (nz (lines1.length:Int)) fun _ =>
  Option.bind (
   aj (fun rec3 x=>l5 N lines1 rec3 x.1 x.2.1 x.2.2) N ((Int.tmod (w64 at1) (lines1.length:Int),0,0))
  ) fun(k6,from5) =>
  Option.bind (
   if !decide (rb2=0)then
    some true
   else
    Option.bind (idx lines1 k6) fun x16 =>
    some (decide ((ra2.length:Int)<(w64 ((w64 (from5+12))+(x16.length:Int)))))
  ) fun v8 =>
  if v8 then
   some false
  else
   Option.bind (
    Option.bind (idx lines1 k6) fun x18 =>
    Option.bind (slc ra2 0 from5) fun l7 =>
    Option.bind (app N ([]) l7) fun l8 =>
    Option.bind (slc ra2 (w64 ((w64 (from5+12))+(x18.length:Int))) (ra2.length:Int)) fun l9 =>
    Option.bind (app N l8 l9) fun l10 =>
    Option.bind (ef N l10) fun(ra4,rb4) =>
    some (ra4,rb4)
   ) fun(n4,l6) =>
   Option.bind (
    Option.bind (slc lines1 0 k6) fun l12 =>
    Option.bind (gN N l6 l12) fun r17 =>
    if r17 then
     if decide (n4=from5)then
      Option.bind (cL N) fun r18 =>
      some r18
     else
      some false
    else
     some false
   ) fun v10 =>
   some v10
end
end Go.Proofs.YtiaoloodgildeaaGreatDoor
