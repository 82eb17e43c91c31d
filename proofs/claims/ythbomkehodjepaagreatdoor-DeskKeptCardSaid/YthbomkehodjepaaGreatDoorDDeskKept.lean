/-
 The law DeskKept, typed.
-/
import Derived.Test.YthbomkehodjepaaGreatDoorDef
namespace Go.Proofs.YthbomkehodjepaaGreatDoor
open Go.Kp
set_option linter.all false
noncomputable section
def FI (N:Nat)   : Option (Bool) :=
 Option.bind (cL N) fun r50 =>
 some r50
def FJ (N:Nat)(b20:Int)(rec24:(Int)→Option (Bool))  : Option (Bool) :=
 rec24 (w64 (b20+1))
def Fh (N:Nat)(ra2:DeskState)(b20:Int)(rec28:(Int×Int)→Option (Int))(n300:Int)(i100:Int):Option (Int) :=
 if decide (i100<(ra2.fSheets.length:Int))then
  Option.bind (
   Option.bind (idx ra2.fSheets i100) fun x400 =>
   if decide (x400.fBowler=b20)then
    some (w64 (n300+3))
   else
    some n300
  ) fun n303 =>
  rec28 ((n303,w64 (i100+1)))
 else
  some n300
def Fd (N:Nat)(ra2:DeskState)(l13:List Int)(rec24:(Int)→Option (Bool))(b20:Int):Option (Bool) :=
 if decide (b20<(l13.length:Int))then
  Option.bind (idx ra2.fKept b20) fun x376 =>
  Option.bind (
   aj (fun rec28 x=>Fh N ra2 b20 rec28 x.1 x.2) N (((x376.length:Int),0))
  ) fun n291 =>
  Option.bind (idx l13 b20) fun x402 =>
  if !decide (n291=x402)then
   some false
  else
   FJ N b20 rec24
 else
  FI N
def FG (N:Nat)(ra2:DeskState)(l13:List Int):Option (Bool) :=
 aj (fun rec24 x=>Fd N ra2 l13 rec24 x) N 0
def Fe (N:Nat)(i104:Int)(rec29:(Int×(Ar4 Int)×(List Int))→Option (Bool))(lanes20:Ar4 Int)(l23:List Int):Option (Bool) :=
 rec29 ((w64 (i104+1),lanes20,l23))
def Ff (N:Nat)(ra2:DeskState)(rb2:List (List UInt8))(rec29:(Int×(Ar4 Int)×(List Int))→Option (Bool))(i104:Int)(lanes18:Ar4 Int)(l21:List Int):Option (Bool) :=
 if decide (i104<(rb2.length:Int))then
  Option.bind (idx rb2 i104) fun x459 =>
  Option.bind (F9 N x459) fun(ra26,rb26,rc26) =>
  if !rc26 then
   some false
  else
   Option.bind (
    if decide (ra26=([111,112,101,110]:List UInt8))then
     Option.bind (idx rb26 0) fun x461 =>
     Option.bind (Gl N x461 0 3) fun r82 =>
     some r82
    else
     some false
   ) fun v54 =>
   if v54 then
    Option.bind (idx rb26 0) fun x462 =>
    Option.bind (idx rb26 1) fun x463 =>
    if decide (x462=0)then
     Fe N i104 rec29 (Ar4.mk x463 lanes18.a1 lanes18.a2 lanes18.a3) l21
    else
     if decide (x462=1)then
      Fe N i104 rec29 (Ar4.mk lanes18.a0 x463 lanes18.a2 lanes18.a3) l21
     else
      if decide (x462=2)then
       Fe N i104 rec29 (Ar4.mk lanes18.a0 lanes18.a1 x463 lanes18.a3) l21
      else
       if decide (x462=3)then
        Fe N i104 rec29 (Ar4.mk lanes18.a0 lanes18.a1 lanes18.a2 x463) l21
       else
        none
   else
    Option.bind (
     if decide (ra26=([99,108,111,115,101]:List UInt8))then
      Option.bind (idx rb26 0) fun x465 =>
      Option.bind (Gl N x465 0 3) fun r84 =>
      some r84
     else
      some false
    ) fun v56 =>
    if v56 then
     Option.bind (
      Option.bind (idx rb26 0) fun x467 =>
      if decide (x467=0)then
       some lanes18.a0
      else
       if decide (x467=1)then
        some lanes18.a1
       else
        if decide (x467=2)then
         some lanes18.a2
        else
         if decide (x467=3)then
          some lanes18.a3
         else
          none
     ) fun b28 =>
     Option.bind (Gl N b28 0 (w64 ((l21.length:Int)-1))) fun r86 =>
     if r86 then
      Option.bind (idx l21 b28) fun x468 =>
      Fe N i104 rec29 lanes18 ((List.set l21 (Int.toNat b28) (w64 (x468+1))))
     else
      Fe N i104 rec29 lanes18 l21
    else
     Fe N i104 rec29 lanes18 l21
 else
  FG N ra2 l21
def FL (N:Nat)(lines1:List (List UInt8)):Option (Bool) :=
 Option.bind (
  Option.bind (j0 N lines1) fun r9 =>
  if !r9 then
   some true
  else
   Option.bind (gz N lines1) fun r10 =>
   some (!r10)
 ) fun v4 =>
 if v4 then
  Option.bind (cL N) fun r12 =>
  some r12
 else
  Option.bind (yK N lines1) fun(ra2,rb2,rc2) =>
  Option.bind (
   if !rc2 then
    some true
   else
    some (!decide ((ra2.fKept.length:Int)=(ra2.fBowlers.length:Int)))
  ) fun v8 =>
  if v8 then
   some false
  else
   Option.bind (mkl N (ra2.fBowlers.length:Int) 0) fun l2 =>
   aj (fun rec29 x=>Ff N ra2 rb2 rec29 x.1 x.2.1 x.2.2) N ((0,(Ar4.mk 0 0 0 0),l2))
end
end Go.Proofs.YthbomkehodjepaaGreatDoor
