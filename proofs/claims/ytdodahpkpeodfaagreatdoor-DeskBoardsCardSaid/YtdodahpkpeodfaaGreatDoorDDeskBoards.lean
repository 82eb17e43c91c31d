/-
 The law DeskBoards, typed.
-/
import Derived.Test.YtdodahpkpeodfaaGreatDoorDef
namespace Go.Proofs.YtdodahpkpeodfaaGreatDoor
open Go.Kp
set_option linter.all false
noncomputable section
def CB (N:Nat)(lines1:List (List UInt8))(lane1:Int):Option (Bool) :=
 Option.bind (j0 N lines1) fun r6 =>
 if !r6 then
  Option.bind (cL N) fun r8 =>
  some r8
 else
  Option.bind (iw N lines1) fun r10 =>
  Option.bind (lJ N r10 lane1) fun(ra2,rb2,rc2,rd2) =>
  Option.bind (Dg N lines1) fun r12 =>
  Option.bind (DC N lines1) fun(ra4,rb4) =>
  Option.bind (
   Option.bind (
    if decide (r12=0)then
     Option.bind (Bw N lane1 0 3) fun r16 =>
     if !r16 then
      some true
     else
      if decide (Km .i64 lane1 3=0)then
       some (decide (ra4.fLanes.a0.fBowler<0))
      else
       if decide (Km .i64 lane1 3=1)then
        some (decide (ra4.fLanes.a1.fBowler<0))
       else
        if decide (Km .i64 lane1 3=2)then
         some (decide (ra4.fLanes.a2.fBowler<0))
        else
         if decide (Km .i64 lane1 3=3)then
          some (decide (ra4.fLanes.a3.fBowler<0))
         else
          none
    else
     some false
   ) fun v4 =>
   if v4 then
    some 7
   else
    some r12
  ) fun want2 =>
  if !decide (want2=0)then
   Option.bind (
    if decide (rd2=want2)then
     if decide ((ra2.length:Int)=0)then
      if decide (rb2=0)then
       if decide (rc2=0)then
        Option.bind (cL N) fun r20 =>
        some r20
       else
        some false
      else
       some false
     else
      some false
    else
     some false
   ) fun v8 =>
   some v8
  else
   Option.bind (
    if decide (lane1=0)then
     some ra4.fLanes.a0.fBalls
    else
     if decide (lane1=1)then
      some ra4.fLanes.a1.fBalls
     else
      if decide (lane1=2)then
       some ra4.fLanes.a2.fBalls
      else
       if decide (lane1=3)then
        some ra4.fLanes.a3.fBalls
       else
        none
   ) fun balls2 =>
   Option.bind (Dh N) fun r23 =>
   Option.bind (En N r23 balls2) fun r24 =>
   Option.bind (
    if decide (rd2=0)then
     Option.bind (Dh N) fun r29 =>
     Option.bind (C0 N r29 balls2) fun r30 =>
     Option.bind (lN N ra2 r30) fun r31 =>
     if r31 then
      if decide (rb2=r24.fLo)then
       if decide (rc2=r24.fHi)then
        Option.bind (cL N) fun r32 =>
        some r32
       else
        some false
      else
       some false
     else
      some false
    else
     some false
   ) fun v10 =>
   some v10
end
end Go.Proofs.YtdodahpkpeodfaaGreatDoor
