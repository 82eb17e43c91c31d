/-
 The law DeskAgrees, typed.
-/
import Derived.Test.YtemciceobngijaaGreatDoorDef
namespace Go.Proofs.YtemciceobngijaaGreatDoor
open Go.Kp
set_option linter.all false
noncomputable section
def Cw (N:Nat)(lines1:List (List UInt8))(bowler1:Int)(week1:Int):Option (Bool) :=
 Option.bind (
  Option.bind (j0 N lines1) fun r9 =>
  if !r9 then
   some true
  else
   Option.bind (gz N lines1) fun r10 =>
   some (!r10)
 ) fun v4 =>
 if v4 then
  Option.bind (cL N) fun r12 =>
  some r12
 else
  Option.bind (yK N lines1) fun(ra2,rb2,rc2) =>
  if !rc2 then
   some false
  else
   if decide ((ra2.fBowlers.length:Int)=0)then
    Option.bind (cL N) fun r16 =>
    some r16
   else
    Option.bind (nz (ra2.fBowlers.length:Int)) fun _ =>
    Option.bind (iw N lines1) fun r18 =>
    Option.bind (lL N r18 (Int.tmod (w64 bowler1) (ra2.fBowlers.length:Int)) (w64 (1+(Int.tmod (w64 week1) 30)))) fun(ra4,rb4,rc4) =>
    Option.bind (jz N ((RateBook.mk (RateLaw.mk 90 80 40 3 5) ra2.fBowlers ra2.fSheets ra2.fWithdrawn)) (Int.tmod (w64 bowler1) (ra2.fBowlers.length:Int)) (w64 (1+(Int.tmod (w64 week1) 30)))) fun(ra6,rb6) =>
    Option.bind (iW N ((RateBook.mk (RateLaw.mk 90 80 40 3 5) ra2.fBowlers ra2.fSheets ra2.fWithdrawn)) (Int.tmod (w64 bowler1) (ra2.fBowlers.length:Int)) (w64 (1+(Int.tmod (w64 week1) 30)))) fun(ra8,rb8) =>
    Option.bind (
     if decide (rc4=0)then
      if decide (rb6=0)then
       if decide (rb8=0)then
        if decide (ra4=ra6)then
         if decide (rb4=ra8)then
          Option.bind (cL N) fun r20 =>
          some r20
         else
          some false
        else
         some false
       else
        some false
      else
       some false
     else
      some false
    ) fun v6 =>
    some v6
end
end Go.Proofs.YtemciceobngijaaGreatDoor
