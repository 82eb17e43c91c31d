/-
 The law DeskStops, typed.
-/
import Derived.Test.YtiaoloodgildeaaGreatDoorDef
namespace Go.Proofs.YtiaoloodgildeaaGreatDoor
open Go.Kp
set_option linter.all false
noncomputable section
def bZ (N:Nat)(lines1:List (List UInt8))(ra6:Int)(rb6:List (List UInt8))(k6:Int)(whole17:Int):Option (Bool) :=
 Option.bind (
  if decide (ra6=whole17)then
   if decide ((rb6.length:Int)≤(lines1.length:Int))then
    if decide ((rb6.length:Int)=(lines1.length:Int))then
     Option.bind (cL N) fun r22 =>
     some r22
    else
     Option.bind (idx lines1 (rb6.length:Int)) fun x38 =>
     if decide (k6<(w64 ((w64 (whole17+12))+(x38.length:Int))))then
      Option.bind (cL N) fun r21 =>
      some r21
     else
      some false
   else
    some false
  else
   some false
 ) fun v34 =>
 some v34
def aR (N:Nat)(lines1:List (List UInt8))(ra6:Int)(rb6:List (List UInt8))(rec3:(Int×Int×Int)→Option (Bool))(k11:Int)(whole29:Int)(i8:Int):Option (Bool) :=
 Option.bind (
  if decide (i8<(lines1.length:Int))then
   Option.bind (idx lines1 i8) fun x66 =>
   some (decide ((w64 ((w64 (whole29+12))+(x66.length:Int)))≤k11))
  else
   some false
 ) fun v54 =>
 if v54 then
  Option.bind (idx lines1 i8) fun x72 =>
  Option.bind (
   if decide ((rb6.length:Int)≤i8)then
    some ((w64 (whole29+(w64 (12+(x72.length:Int)))),true))
   else
    Option.bind (idx rb6 i8) fun x74 =>
    some ((w64 (whole29+(w64 (12+(x72.length:Int)))),!decide (x74=x72)))
  ) fun(whole33,v58) =>
  if v58 then
   some false
  else
   rec3 ((k11,whole33,w64 (i8+1)))
 else
  bZ N lines1 ra6 rb6 k11 whole29
def da (N:Nat)(lines1:List (List UInt8))(cut1:Int):Option (Bool) :=
 Option.bind (
  Option.bind (j0 N lines1) fun r9 =>
  if !r9 then
   some true
  else
   Option.bind (gz N lines1) fun r10 =>
   some (!r10)
 ) fun v4 =>
 if v4 then
  Option.bind (cL N) fun r12 =>
  some r12
 else
  Option.bind (iw N lines1) fun r14 =>
  Option.bind (gr N r14) fun(ra2,rb2) =>
  if !decide (rb2=0)then
   some false
  else
   Option.bind (app N ([]) ra2) fun l2 =>
   Option.bind (ef N l2) fun(ra4,rb4) =>
   Option.bind (
    Option.bind (gN N rb4 lines1) fun r18 =>
    if !r18 then
     some true
    else
     some (!decide (ra4=(ra2.length:Int)))
   ) fun v8 =>
   if v8 then
    some false
   else
    Option.bind (nz (w64 ((ra2.length:Int)+1))) fun _ =>
    Option.bind (slc ra2 0 (Int.tmod (w64 cut1) (w64 ((ra2.length:Int)+1)))) fun l5 =>
    Option.bind (app N ([]) l5) fun l6 =>
    Option.bind (ef N l6) fun(ra6,rb6) =>
    aj (fun rec3 x=>aR N lines1 ra6 rb6 rec3 x.1 x.2.1 x.2.2) N ((Int.tmod (w64 cut1) (w64 ((ra2.length:Int)+1)),0,0))
end
end Go.Proofs.YtiaoloodgildeaaGreatDoor
