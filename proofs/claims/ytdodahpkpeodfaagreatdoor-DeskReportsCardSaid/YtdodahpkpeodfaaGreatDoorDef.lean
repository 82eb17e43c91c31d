/-
 The functions of the program and of the document, typed, by fuel; printed by a program off the translation. No program in sight.
-/
import Derived.Test.YtdodahpkpeodfaaGreatDoorPre
open Int renaming toNat→xY
open List renaming set→yK
open Option renaming bind→Ha
namespace Go.Proofs.YtdodahpkpeodfaaGreatDoor
open Go.Kp
set_option linter.all false
noncomputable section
structure cA where
 af:Int
 ar:List Int
 deriving DecidableEq
structure aH where
 bX:Int
 af:Int
 j2:Int
 bg:Ar3 Int
 deriving DecidableEq
structure ab where
 dA:Int
 bg:List Int
 lT:Bool
 deriving DecidableEq
structure aR where
 az:List Int
 ag:List cA
 iZ:List (List Int)
 aD:List aH
 ak:List Int
 aP:List ab
 deriving DecidableEq
structure aL where
 kZ:aR
 deriving DecidableEq
structure j1 where
 vD:Int
 fDo:Int
 deriving DecidableEq
structure da where
 fE:Int
 deriving DecidableEq
structure og where
 bv:Int
 gV:Int
 ar:Int
 sd:Int
 deriving DecidableEq
structure q7 where
 bv:List (List Int)
 vg:List Int
 cw:Int
 xk:Bool
 deriving DecidableEq
structure qZ where
 dI:Int
 lS:Int
 cw:Int
 qk:Bool
 vI:Int
 pc:Ar2 Int
 deriving DecidableEq
structure ii where
 fu:og
 fAt:qZ
 deriving DecidableEq
structure gu where
 sU:Int
 mn:Int
 bg:Int
 aP:List ab
 deriving DecidableEq
structure gN where
 bX:Int
 rx:Int
 yU:Int
 fWon:Int
 fLost:Int
 deriving DecidableEq
structure nS where
 mo:Int
 dA:Int
 deriving DecidableEq
structure bh where
 rx:nS
 yU:nS
 deriving DecidableEq
structure wW where
 fOf:Unit
 deriving DecidableEq
structure vG where
 fLo:Int
 fHi:Int
 deriving DecidableEq
structure wz where
 o8:Int
 jF:Int
 uq:Int
 ue:Int
 o9:Int
 deriving DecidableEq
structure mP where
 fu:wz
 az:List Int
 aD:List aH
 ak:List Int
 deriving DecidableEq
structure xV where
 af:Int
 j2:Int
 deriving DecidableEq
structure aC where
 dA:Int
 mo:Int
 deriving DecidableEq
structure aj where
 q8:Int
 vB:Int
 deriving DecidableEq
structure wC where
 fLong:Int
 fCheck:Int
 deriving DecidableEq
structure yE where
 af:Int
 ar:List Int
 deriving DecidableEq
structure xh where
 bX:Int
 af:Int
 j2:Int
 bg:Ar3 Int
 deriving DecidableEq
structure dt where
 dA:Int
 bg:List Int
 lT:Bool
 deriving DecidableEq
structure bZ where
 az:List Int
 ag:Ar4 yE
 iZ:List (List Int)
 aD:List xh
 ak:List Int
 aP:List dt
 deriving DecidableEq
structure bW where
 bv:Int
 gV:Int
 ar:Int
 sd:Int
 deriving DecidableEq
structure nT where
 dI:Int
 lS:Int
 cw:Int
 ww:Bool
 vz:Int
 deriving DecidableEq
structure pf where
 dI:Int
 vu:Int
 deriving DecidableEq
structure nW where
 sU:Int
 mn:Int
 bg:Int
 aP:List dt
 deriving DecidableEq
structure A7 where
 bX:Int
 rx:Int
 yU:Int
 fWon:Int
 fLost:Int
 deriving DecidableEq
structure sb where
 mo:Int
 dA:Int
 deriving DecidableEq
structure nR where
 rx:sb
 yU:sb
 deriving DecidableEq
structure wy where
 o8:Int
 jF:Int
 uq:Int
 ue:Int
 o9:Int
 deriving DecidableEq
structure ml where
 fu:wy
 az:List Int
 aD:List xh
 ak:List Int
 deriving DecidableEq
abbrev aM1:List (List UInt8×j1):=mput ([]:List (List UInt8×j1)) ([98,111,119,108,101,114]:List UInt8) (j1.mk 1 0)
abbrev aM2:List (List UInt8×j1):=mput aM1 ([111,112,101,110]:List UInt8) (j1.mk 2 1)
abbrev aM3:List (List UInt8×j1):=mput aM2 ([98,97,108,108]:List UInt8) (j1.mk 2 2)
abbrev aM4:List (List UInt8×j1):=mput aM3 ([98,97,99,107]:List UInt8) (j1.mk 1 3)
abbrev aM5:List (List UInt8×j1):=mput aM4 ([99,108,111,115,101]:List UInt8) (j1.mk 1 4)
abbrev aM6:List (List UInt8×j1):=mput aM5 ([115,104,101,101,116]:List UInt8) (j1.mk 2 5)
abbrev aM7:List (List UInt8×j1):=mput aM6 ([115,116,114,105,107,101]:List UInt8) (j1.mk 1 6)
abbrev aM8:List (List UInt8×j1):=mput aM7 ([100,117,101,108]:List UInt8) (j1.mk 1 7)
abbrev aM9:List (List UInt8×j1):=mput aM8 ([100,111,117,98,116]:List UInt8) (j1.mk 1 8)
def iN (N:Nat)(lines1:List (List UInt8))  : Option (Bool) :=
 some (decide ((lines1.length:Int)≤55))
def bK (N:Nat)(lines1:List (List UInt8))(rec3:(Int)→Option (Bool))(i8:Int):Option (Bool) :=
 Ha (
  if decide (i8<(lines1.length:Int))then
   some (decide (i8<56))
  else
   some false
 ) fun v24 =>
 if v24 then
  Ha (idx lines1 i8) fun x24 =>
  if decide (210<(x24.length:Int))then
   some false
  else
   rec3 (w64 (i8+1))
 else
  iN N lines1
def j0 (N:Nat)(lines1:List (List UInt8)):Option (Bool) :=
 loopN (fun rec3 x=>bK N lines1 rec3 x) N 0
def gl (N:Nat)  : Option ((List (List UInt8))) :=
 some ([([98,111,119,108,101,114,32,55,48]:List UInt8),([98,111,119,108,101,114,32,54,48]:List UInt8),([111,112,101,110,32,49,32,48]:List UInt8),([98,97,108,108,32,49,32,49,48]:List UInt8),([98,97,108,108,32,49,32,55]:List UInt8),([98,97,108,108,32,49,32,51]:List UInt8),([98,97,108,108,32,49,32,52]:List UInt8),([98,97,108,108,32,49,32,53]:List UInt8)])
def gA (N:Nat)(l1:Int)(s1:List UInt8):Option (Bool) :=
 some (decide ((s1.length:Int)≤l1))
def kV (N:Nat)(x1:List UInt8)(a1:Int):Option (Bool) :=
 Ha (gA N a1 x1) fun r2 =>
 some (!r2)
def dX (N:Nat)   : Option (Int) :=
 some (-1)
def bQ (N:Nat)(s1:List (List UInt8))(f1:Int)(rec3:(Int×Int)→Option (Int))(v17:Int)(v18:Int):Option (Int) :=
 if decide (v18<v17)then
  Ha (idx s1 v18) fun x24 =>
  Ha (kV N x24 f1) fun r24 =>
  if r24 then
   some v18
  else
   rec3 ((v17,w64 (v18+1)))
 else
  dX N
def fU (N:Nat)(s1:List (List UInt8))(f1:Int):Option (Int) :=
 loopN (fun rec3 x=>bQ N s1 f1 rec3 x.1 x.2) N (((s1.length:Int),0))
def dY (N:Nat)(s1:List (List UInt8))(f1:Int):Option (Bool) :=
 Ha (fU N s1 f1) fun r2 =>
 some (decide (0≤r2))
def mV (N:Nat)(l1:List (List UInt8))(right1:Int):Option (Bool) :=
 Ha (dY N l1 right1) fun r2 =>
 some (!r2)
def dw (N:Nat)(lines1:List (List UInt8)):Option (Int) :=
 Ha (
  if decide (50<(lines1.length:Int))then
   some true
  else
   Ha (mV N lines1 200) fun r4 =>
   some (!r4)
 ) fun v4 =>
 if v4 then
  some 3
 else
  some 0
def lG (N:Nat)  : Option (aL) :=
 Ha (app N ([]) ([(cA.mk (-1) ([]))])) fun l10 =>
 Ha (app N l10 ([(cA.mk (-1) ([]))])) fun l12 =>
 Ha (app N l12 ([(cA.mk (-1) ([]))])) fun l14 =>
 Ha (app N l14 ([(cA.mk (-1) ([]))])) fun l16 =>
 some ((aL.mk (aR.mk ([]) l16 ([]) ([]) ([]) ([]))))
def nD (N:Nat)  : Option ((List (List UInt8×j1))) :=
 some aM9
def Ih (N:Nat)(is1:Bool)(e1:Int):Option (da⊕Unit) :=
 if !is1 then
  some (.inl (da.mk e1))
 else
  some (.inr ())
def fe (N:Nat)(r3:Int)  : Option (Int⊕da) :=
 some (.inl r3)
def gY (N:Nat)(r4:Int)  : Option (Int⊕da) :=
 some (.inl r4)
def MI (N:Nat)(s1:List UInt8):Option (Int⊕da) :=
 Ha (nV N s1) fun z2 =>
 match z2 with
 | .inl r3 =>
  Ha (nU N r3) fun r9 =>
  if decide (r9=s1)then
   Ha (Pv N s1 ([45]:List UInt8)) fun r10 =>
   Ha (Ih N (decide ((r10.length:Int)≤9)) 4) fun z5 =>
   match z5 with
   | .inl r11 =>
    some (.inr r11)
   | .inr _ =>
    fe N r3
  else
   Ha (Ih N false 4) fun z6 =>
   match z6 with
   | .inl r12 =>
    some (.inr r12)
   | .inr _ =>
    fe N r3
 | .inr r4 =>
  Ha (Ih N false 4) fun z8 =>
  match z8 with
  | .inl r14 =>
   some (.inr r14)
  | .inr _ =>
   gY N r4
def cJ (N:Nat)(n1:Int)(low1:Int)(high1:Int):Option (Bool) :=
 Ha (
  if decide (low1≤n1)then
   some (decide (n1≤high1))
  else
   some false
 ) fun v2 =>
 some v2
def kX (N:Nat)  : Option (Unit) :=
 some ()
def gc (N:Nat)(s1:List Int):Option ((List Int)) :=
 Ha (app N ([]) s1) fun l2 =>
 some l2
def cG (N:Nat)(l:List Int):Option ((List Int)):=gc N l
def jw (N:Nat)(l1:List Int)(x1:Int):Option ((List Int)) :=
 Ha (cG N l1) fun r2 =>
 Ha (app N r2 ([x1])) fun l3 =>
 some l3
def j8 (N:Nat)  : Option (Unit) :=
 some ()
def ff (N:Nat)(s1:List (List Int)):Option ((List (List Int))) :=
 Ha (app N ([]) s1) fun l2 =>
 some l2
def gd (N:Nat)(l:List (List Int)):Option ((List (List Int))):=ff N l
def lH (N:Nat)(l1:List (List Int))(x1:List Int):Option ((List (List Int))) :=
 Ha (gd N l1) fun r2 =>
 Ha (app N r2 ([x1])) fun l3 =>
 some l3
def gB (N:Nat)(n1:List Int)(c1:aL):Option ((da×aL)⊕aL) :=
 Ha (idx n1 0) fun x2 =>
 Ha (cJ N x2 0 300) fun r3 =>
 Ha (Ih N r3 2) fun z2 =>
 match z2 with
 | .inl r4 =>
  some (.inl (r4,c1))
 | .inr _ =>
  Ha (Ih N (decide ((c1.kZ.az.length:Int)<8)) 3) fun z4 =>
  match z4 with
  | .inl r6 =>
   some (.inl (r6,c1))
  | .inr _ =>
   Ha (Ih N (decide ((c1.kZ.aP.length:Int)=0)) 8) fun z6 =>
   match z6 with
   | .inl r8 =>
    some (.inl (r8,c1))
   | .inr _ =>
    Ha (jw N c1.kZ.az x2) fun r9 =>
    Ha (lH N c1.kZ.iZ ([])) fun r10 =>
    some (.inr ((aL.mk (aR.mk r9 c1.kZ.ag r10 c1.kZ.aD c1.kZ.ak c1.kZ.aP))))
def ge (N:Nat)(n1:Int)(c1:aL):Option (da⊕cA) :=
 Ha (cJ N n1 0 (w64 ((c1.kZ.ag.length:Int)-1))) fun r3 =>
 Ha (Ih N r3 7) fun z2 =>
 match z2 with
 | .inl r4 =>
  some (.inl r4)
 | .inr _ =>
  Ha (idx c1.kZ.ag n1) fun x2 =>
  some (.inr x2)
def fg (N:Nat)(n1:Int)(c1:aL):Option (Bool) :=
 Ha (cJ N n1 0 (w64 ((c1.kZ.az.length:Int)-1))) fun r2 =>
 some r2
def gZ (N:Nat)(y1:cA)(a1:List Int):Option (Bool) :=
 Ha (idx a1 1) fun x2 =>
 some (decide (y1.af=x2))
def dC (N:Nat)   : Option (Int) :=
 some (-1)
def bI (N:Nat)(s1:List cA)(f1:List Int)(rec3:(Int×Int)→Option (Int))(v17:Int)(v18:Int):Option (Int) :=
 if decide (v18<v17)then
  Ha (idx s1 v18) fun x24 =>
  Ha (gZ N x24 f1) fun r24 =>
  if r24 then
   some v18
  else
   rec3 ((v17,w64 (v18+1)))
 else
  dC N
def eY (N:Nat)(s1:List cA)(f1:List Int):Option (Int) :=
 loopN (fun rec3 x=>bI N s1 f1 rec3 x.1 x.2) N (((s1.length:Int),0))
def dD (N:Nat)(s1:List cA)(f1:List Int):Option (Bool) :=
 Ha (eY N s1 f1) fun r2 =>
 some (decide (0≤r2))
def jx (N:Nat)  : Option (Unit) :=
 some ()
def eA (N:Nat)(s1:List cA):Option ((List cA)) :=
 Ha (app N ([]) s1) fun l2 =>
 some l2
def fh (N:Nat)(l:List cA):Option ((List cA)):=eA N l
def gU (N:Nat)(lane1:Int)(x1:cA)(c1:aL):Option (aL) :=
 Ha (fh N c1.kZ.ag) fun r2 =>
 Ha (idx r2 lane1) fun x2 =>
 some ((aL.mk (aR.mk c1.kZ.az (yK r2 (xY lane1) x1) c1.kZ.iZ c1.kZ.aD c1.kZ.ak c1.kZ.aP)))
def dP (N:Nat)(n1:List Int)(c1:aL)  : Option ((da×aL)⊕aL) :=
 Ha (idx n1 0) fun x5 =>
 Ha (idx n1 1) fun x6 =>
 Ha (gU N x5 ((cA.mk x6 ([]))) c1) fun r12 =>
 some (.inr r12)
def iO (N:Nat)(n1:List Int)(c1:aL):Option ((da×aL)⊕aL) :=
 Ha (idx n1 0) fun x2 =>
 Ha (ge N x2 c1) fun z2 =>
 match z2 with
 | .inl r3 =>
  some (.inl (r3,c1))
 | .inr r4 =>
  Ha (idx n1 1) fun x4 =>
  Ha (fg N x4 c1) fun r7 =>
  Ha (Ih N r7 7) fun z4 =>
  match z4 with
  | .inl r8 =>
   some (.inl (r8,c1))
  | .inr _ =>
   if decide (r4.af=(-1))then
    Ha (dD N c1.kZ.ag n1) fun r13 =>
    Ha (Ih N (!r13) 6) fun z7 =>
    match z7 with
    | .inl r14 =>
     some (.inl (r14,c1))
    | .inr _ =>
     dP N n1 c1
   else
    Ha (Ih N false 6) fun z8 =>
    match z8 with
    | .inl r15 =>
     some (.inl (r15,c1))
    | .inr _ =>
     dP N n1 c1
def gf (N:Nat)(n1:Int)(c1:aL):Option (da⊕cA) :=
 Ha (ge N n1 c1) fun z2 =>
 match z2 with
 | .inl r3 =>
  some (.inl r3)
 | .inr r4 =>
  Ha (Ih N (!decide (r4.af=(-1))) 8) fun z4 =>
  match z4 with
  | .inl r6 =>
   some (.inl r6)
  | .inr _ =>
   some (.inr r4)
def iP (N:Nat)  : Option (og) :=
 some (og.mk 3 10 2 10)
def db (N:Nat)(n1:Int)(low1:Int)(high1:Int):Option (Bool) :=
 Ha (
  if decide (low1≤n1)then
   some (decide (n1≤high1))
  else
   some false
 ) fun v2 =>
 some v2
def Lq (N:Nat)(l1:og):Option (Int) :=
 Ha (
  Ha (db N l1.bv 1 10) fun r13 =>
  if !r13 then
   some true
  else
   Ha (db N l1.gV 1 10) fun r14 =>
   if !r14 then
    some true
   else
    Ha (db N l1.ar 2 3) fun r15 =>
    if !r15 then
     some true
    else
     Ha (db N l1.sd 1 l1.gV) fun r16 =>
     some (!r16)
 ) fun v4 =>
 if v4 then
  some 1
 else
  some 0
def cS (N:Nat)(l1:og)(sheet1:List Int):Option (og×(List Int)) :=
 some (l1,sheet1)
def bL (N:Nat)(l1:og):Option (ii) :=
 some ((ii.mk l1 (qZ.mk 0 0 l1.gV true l1.ar (Ar2.mk 0 0))))
def cT (N:Nat)(p1:ii):Option (Bool) :=
 some (decide (p1.fAt.dI=p1.fu.bv))
def dx (N:Nat)(p1:ii)(ball1:Int):Option (Bool) :=
 Ha (
  Ha (cT N p1) fun r3 =>
  if !r3 then
   Ha (db N ball1 (-1) p1.fAt.cw) fun r4 =>
   some r4
  else
   some false
 ) fun v2 =>
 some v2
def bA (N:Nat)(p1:ii)(ball1:Int):Option (ii×Int×Int) :=
 Ha (
  Ha (
   if p1.fAt.qk then
    some ((max 0 ball1,decide (p1.fu.sd≤(max 0 ball1))))
   else
    some (max 0 ball1,false)
  ) fun(n6,v4) =>
  if v4 then
   some p1.fu.gV
  else
   some n6
 ) fun n4 =>
 Ha (
  Ha (
   if decide (p1.fAt.dI=(w64 (p1.fu.bv-1)))then
    if decide ((w64 (p1.fAt.cw-n4))=0)then
     some ((w64 (n4*(w64 (1+p1.fAt.pc.a0))),decide ((w64 (p1.fAt.cw-n4))=0),decide (p1.fAt.dI=(w64 (p1.fu.bv-1))),decide ((w64 (p1.fAt.lS+1))<3),(ii.mk p1.fu (qZ.mk p1.fAt.dI (w64 (p1.fAt.lS+1)) (w64 (p1.fAt.cw-n4)) false p1.fAt.vI (Ar2.mk p1.fAt.pc.a1 0)))))
    else
     some ((w64 (n4*(w64 (1+p1.fAt.pc.a0))),decide ((w64 (p1.fAt.cw-n4))=0),decide (p1.fAt.dI=(w64 (p1.fu.bv-1))),false,(ii.mk p1.fu (qZ.mk p1.fAt.dI (w64 (p1.fAt.lS+1)) (w64 (p1.fAt.cw-n4)) false p1.fAt.vI (Ar2.mk p1.fAt.pc.a1 0)))))
   else
    some ((w64 (n4*(w64 (1+p1.fAt.pc.a0))),decide ((w64 (p1.fAt.cw-n4))=0),decide (p1.fAt.dI=(w64 (p1.fu.bv-1))),false,(ii.mk p1.fu (qZ.mk p1.fAt.dI (w64 (p1.fAt.lS+1)) (w64 (p1.fAt.cw-n4)) false p1.fAt.vI (Ar2.mk p1.fAt.pc.a1 0)))))
  ) fun(worth6,down6,last6,v12,p7) =>
  if v12 then
   some ((worth6,down6,last6,(ii.mk p7.fu (qZ.mk p7.fAt.dI p7.fAt.lS p7.fu.gV true 3 p7.fAt.pc))))
  else
   Ha (
    if !last6 then
     if down6 then
      some (decide (p7.fAt.lS=1))
     else
      some false
    else
     some false
   ) fun v14 =>
   if v14 then
    some ((worth6,down6,last6,(ii.mk p7.fu (qZ.mk p7.fAt.dI p7.fAt.lS p7.fAt.cw p7.fAt.qk p7.fAt.vI (Ar2.mk (w64 (p7.fAt.pc.a0+1)) (w64 (p7.fAt.pc.a1+1)))))))
   else
    Ha (
     if !last6 then
      if down6 then
       some (decide (p7.fAt.lS=2))
      else
       some false
     else
      some false
    ) fun v16 =>
    if v16 then
     some ((worth6,down6,last6,(ii.mk p7.fu (qZ.mk p7.fAt.dI p7.fAt.lS p7.fAt.cw p7.fAt.qk p7.fAt.vI (Ar2.mk (w64 (p7.fAt.pc.a0+1)) p7.fAt.pc.a1)))))
    else
     some (worth6,down6,last6,p7)
 ) fun(worth4,down4,last4,p5) =>
 Ha (
  Ha (
   if decide (p5.fAt.lS=p5.fAt.vI)then
    some true
   else
    if !last4 then
     some down4
    else
     some false
  ) fun v20 =>
  if v20 then
   some ((ii.mk p5.fu (qZ.mk (w64 (p5.fAt.dI+1)) 0 p5.fu.gV true p5.fu.ar p5.fAt.pc)))
  else
   some p5
 ) fun p9 =>
 some (p9,n4,worth4)
def de (N:Nat)(rb16:List Int)(rec3:(Int×Int×ii×Int)→Option (Int))(v17:Int)(v18:Int)(c17:ii)(c18:Int):Option (Int) :=
 if decide (v18<v17)then
  Ha (idx rb16 v18) fun x24 =>
  Ha (dx N c17 x24) fun r52 =>
  if !r52 then
   some c18
  else
   Ha (bA N c17 x24) fun(ra28,rb28,rc26) =>
   rec3 ((v17,w64 (v18+1),ra28,w64 (v18+1)))
 else
  some c18
def jy (N:Nat)(l1:og)(sheet1:List Int):Option (Int) :=
 Ha (
  Ha (cS N l1 sheet1) fun(ra16,rb16) =>
  Ha (bL N ra16) fun r28 =>
  loopN (fun rec3 x=>de N rb16 rec3 x.1 x.2.1 x.2.2.1 x.2.2.2) N (((rb16.length:Int),0,r28,0))
 ) fun c10 =>
 some c10
def fj (N:Nat)(l1:og)(sheet1:List Int):Option (Int) :=
 Ha (Lq N l1) fun r6 =>
 if !decide (r6=0)then
  some r6
 else
  if decide (40<(sheet1.length:Int))then
   some 3
  else
   Ha (jy N l1 sheet1) fun r8 =>
   if decide (r8<(sheet1.length:Int))then
    some 10
   else
    some 0
def fK (N:Nat)(l1:List Int)(rec3:(Int×Int×Int)→Option (Int))(n10:Int)(v17:Int)(v18:Int):Option (Int) :=
 if decide (v18<v17)then
  Ha (idx l1 v18) fun x24 =>
  rec3 ((w64 (n10+x24),v17,w64 (v18+1)))
 else
  some n10
def fL (N:Nat)(l1:List Int):Option (Int) :=
 Ha (
  loopN (fun rec3 x=>fK N l1 rec3 x.1 x.2.1 x.2.2) N ((0,(l1.length:Int),0))
 ) fun n6 =>
 some n6
def ca (N:Nat)(l1:og)(rb16:List Int)(rec3:(Int×Int×ii×(List Int)×(List Int)×(List Int)×(List Int))→Option ((List Int)×(List Int)×(List Int)))(end10:Int)(n9:Int)(c8:ii)(l598:List Int)(l599:List Int)(l600:List Int)(l601:List Int):Option ((List Int)×(List Int)×(List Int)) :=
 if decide (n9<end10)then
  Ha (idx rb16 n9) fun x288 =>
  Ha (dx N c8 x288) fun r140 =>
  if !r140 then
   some (l598,l599,l600)
  else
   Ha (bA N c8 x288) fun(ra28,rb28,rc26) =>
   Ha (
    Ha (app N l598 ([rb28])) fun l705 =>
    Ha (idx l601 c8.fAt.dI) fun x308 =>
    if decide (c8.fAt.dI<ra28.fAt.dI)then
     Ha (app N l599 ([w64 (n9+1)])) fun l707 =>
     Ha (app N l600 ([0])) fun l709 =>
     Ha (idx ((yK l601 (xY c8.fAt.dI) (w64 (x308+1)))) c8.fAt.dI) fun x310 =>
     Ha (slc l705 (w64 ((w64 (n9+1))-x310)) (l705.length:Int)) fun l711 =>
     Ha (fL N l711) fun r148 =>
     Ha (
      if decide (c8.fAt.dI<(w64 (l1.bv-1)))then
       if decide (r148=l1.gV)then
        some ((decide (x310<3),(yK l601 (xY c8.fAt.dI) (w64 (x308+1)))))
       else
        some ((false,(yK l601 (xY c8.fAt.dI) (w64 (x308+1)))))
      else
       some ((false,(yK l601 (xY c8.fAt.dI) (w64 (x308+1)))))
     ) fun(v96,l713) =>
     if v96 then
      Ha (idx l713 c8.fAt.dI) fun x311 =>
      Ha (idx l709 c8.fAt.dI) fun x312 =>
      some ((l705,l707,(yK l709 (xY c8.fAt.dI) (w64 (3-x311))),l713))
     else
      some (l705,l707,l709,l713)
    else
     some ((l705,l599,l600,(yK l601 (xY c8.fAt.dI) (w64 (x308+1)))))
   ) fun(l700,l701,l702,l703) =>
   rec3 ((end10,w64 (n9+1),ra28,l700,l701,l702,l703))
 else
  some (l598,l599,l600)
def eB (N:Nat) (l742:List Int):Option ((List Int)) :=
 some l742
def KA (N:Nat)(l359:List Int)(l360:List Int)(l361:List Int)(rec5:(Int×Int×Int×(List Int))→Option ((List Int)))(from8:Int)(v113:Int)(v114:Int)(l762:List Int):Option ((List Int)) :=
 if decide (v114<v113)then
  Ha (idx l360 v114) fun x394 =>
  Ha (idx l361 v114) fun x398 =>
  if decide ((l359.length:Int)<(w64 (x394+x398)))then
   some l762
  else
   Ha (slc l359 from8 (w64 (x394+x398))) fun l768 =>
   Ha (fL N l768) fun r186 =>
   Ha (
    if decide (0<v114)then
     Ha (idx l762 (w64 (v114-1))) fun x400 =>
     Ha (fL N ([r186,x400])) fun r188 =>
     some r188
    else
     some r186
   ) fun n28 =>
   Ha (app N l762 ([n28])) fun l770 =>
   rec5 ((x394,v113,w64 (v114+1),l770))
 else
  eB N l762
def gC (N:Nat)(l1:og)(sheet1:List Int):Option ((List Int)) :=
 Ha (mkl N l1.bv 0) fun l3 =>
 Ha (
  Ha (cS N l1 sheet1) fun(ra16,rb16) =>
  Ha (bL N ra16) fun r76 =>
  loopN (fun rec3 x=>ca N l1 rb16 rec3 x.1 x.2.1 x.2.2.1 x.2.2.2.1 x.2.2.2.2.1 x.2.2.2.2.2.1 x.2.2.2.2.2.2) N (((rb16.length:Int),0,r76,[],[],[],l3))
 ) fun(l359,l360,l361) =>
 loopN (fun rec5 x=>KA N l359 l360 l361 rec5 x.1 x.2.1 x.2.2.1 x.2.2.2) N ((0,(l360.length:Int),0,[]))
def cd (N:Nat)(rb16:List Int)(rec3:(Int×Int×ii×ii)→Option (ii))(v17:Int)(v18:Int)(c8:ii)(p10:ii):Option (ii) :=
 if decide (v18<v17)then
  Ha (idx rb16 v18) fun x24 =>
  Ha (dx N c8 x24) fun r54 =>
  if !r54 then
   some p10
  else
   Ha (bA N c8 x24) fun(ra28,rb28,rc26) =>
   rec3 ((v17,w64 (v18+1),ra28,ra28))
 else
  some p10
def dg (N:Nat)(l1:og)(sheet1:List Int):Option (ii) :=
 Ha (bL N l1) fun r2 =>
 Ha (
  Ha (cS N l1 sheet1) fun(ra16,rb16) =>
  Ha (bL N ra16) fun r30 =>
  loopN (fun rec3 x=>cd N rb16 rec3 x.1 x.2.1 x.2.2.1 x.2.2.2) N (((rb16.length:Int),0,r30,r2))
 ) fun p6 =>
 some p6
def eC (N:Nat)(rb16:List Int)(rec3:(Int×Int×ii×(List (List Int)))→Option ((List (List Int))))(v17:Int)(v18:Int)(c8:ii)(l179:List (List Int)):Option ((List (List Int))) :=
 if decide (v18<v17)then
  Ha (idx rb16 v18) fun x68 =>
  Ha (dx N c8 x68) fun r58 =>
  if !r58 then
   some l179
  else
   Ha (bA N c8 x68) fun(ra28,rb28,rc26) =>
   Ha (
    if decide (c8.fAt.dI=(l179.length:Int))then
     Ha (app N l179 [[]]) fun l218 =>
     some l218
    else
     some l179
   ) fun l217 =>
   Ha (idx l217 c8.fAt.dI) fun x72 =>
   Ha (app N x72 ([x68])) fun l219 =>
   rec3 ((v17,w64 (v18+1),ra28,(yK l217 (xY c8.fAt.dI) l219)))
 else
  some l179
def gm (N:Nat)(l1:og)(balls1:List Int):Option (q7×Int) :=
 Ha (fj N l1 balls1) fun r4 =>
 if !decide (r4=0)then
  some (((q7.mk ([]) ([]) 0 false),r4))
 else
  Ha (gC N l1 balls1) fun r6 =>
  Ha (
   Ha (cS N l1 balls1) fun(ra16,rb16) =>
   Ha (bL N ra16) fun r34 =>
   loopN (fun rec3 x=>eC N rb16 rec3 x.1 x.2.1 x.2.2.1 x.2.2.2) N (((rb16.length:Int),0,r34,[]))
  ) fun l111 =>
  Ha (dg N l1 balls1) fun r60 =>
  Ha (
   Ha (cT N r60) fun r64 =>
   if !r64 then
    some (r60.fAt.cw,r64)
   else
    some (0,r64)
  ) fun(c11,c12) =>
  some (((q7.mk l111 r6 c11 c12),0))
def iQ (N:Nat)(n1:List Int)(c1:aL):Option ((da×aL)⊕aL) :=
 Ha (idx n1 0) fun x2 =>
 Ha (gf N x2 c1) fun z2 =>
 match z2 with
 | .inl r3 =>
  some (.inl (r3,c1))
 | .inr r4 =>
  Ha (idx n1 1) fun x4 =>
  Ha (jw N r4.ar x4) fun r6 =>
  Ha (
   Ha (iP N) fun r8 =>
   Ha (gm N r8 r6) fun(ra2,rb2) =>
   some rb2
  ) fun e2 =>
  Ha (Ih N (decide (e2=0)) 10) fun z4 =>
  match z4 with
  | .inl r10 =>
   some (.inl (r10,c1))
  | .inr _ =>
   Ha (idx n1 0) fun x5 =>
   Ha (gU N x5 (cA.mk r4.af r6) c1) fun r11 =>
   some (.inr r11)
def yO (N:Nat)(n1:List Int)(c1:aL):Option ((da×aL)⊕aL) :=
 Ha (idx n1 0) fun x2 =>
 Ha (gf N x2 c1) fun z2 =>
 match z2 with
 | .inl r3 =>
  some (.inl (r3,c1))
 | .inr r4 =>
  Ha (Ih N (decide (0<(r4.ar.length:Int))) 8) fun z4 =>
  match z4 with
  | .inl r6 =>
   some (.inl (r6,c1))
  | .inr _ =>
   Ha (slc r4.ar 0 (w64 ((r4.ar.length:Int)-1))) fun l2 =>
   Ha (cG N l2) fun r8 =>
   Ha (gU N x2 (cA.mk r4.af r8) c1) fun r9 =>
   some (.inr r9)
def iR (N:Nat)(lane1:Int)(x1:cA)(c1:List Int)(c2:List cA)(c3:List aH)(c4:List Int)(c5:List ab)(l1:List (List Int)):Option ((List Int)×(List cA)×(List (List Int))×(List aH)×(List Int)×(List ab)×(List (List Int))) :=
 Ha (fh N c2) fun r2 =>
 Ha (idx r2 lane1) fun x2 =>
 some ((c1,(yK r2 (xY lane1) x1),l1,c3,c4,c5,l1))
def g8 (N:Nat)(n1:List Int)(c1:aL):Option ((da×aL)⊕aL) :=
 Ha (idx n1 0) fun x2 =>
 Ha (gf N x2 c1) fun z2 =>
 match z2 with
 | .inl r3 =>
  some (.inl (r3,c1))
 | .inr r4 =>
  Ha (
   Ha (iP N) fun r6 =>
   Ha (gm N r6 r4.ar) fun(ra2,rb2) =>
   some ra2
  ) fun c3 =>
  Ha (Ih N c3.xk 8) fun z4 =>
  match z4 with
  | .inl r8 =>
   some (.inl (r8,c1))
  | .inr _ =>
   Ha (gd N c1.kZ.iZ) fun r10 =>
   Ha (idx r10 r4.af) fun x5 =>
   Ha (idx c3.vg (w64 ((c3.vg.length:Int)-1))) fun x6 =>
   Ha (jw N x5 x6) fun r12 =>
   Ha (idx n1 0) fun x7 =>
   Ha (iR N x7 ((cA.mk (-1) ([]))) c1.kZ.az c1.kZ.ag c1.kZ.aD c1.kZ.ak c1.kZ.aP ((yK r10 (xY r4.af) r12))) fun(ra3,rb3,rc1,rd1,re1,rf1,rg1) =>
   some (.inr ((aL.mk (aR.mk ra3 rb3 rc1 rd1 re1 rf1))))
def jl (N:Nat)  : Option (Unit) :=
 some ()
def dR (N:Nat)(s1:List aH):Option ((List aH)) :=
 Ha (app N ([]) s1) fun l2 =>
 some l2
def gD (N:Nat)(l:List aH):Option ((List aH)):=dR N l
def ze (N:Nat)(l1:List aH)(x1:aH):Option ((List aH)) :=
 Ha (
  Ha (gD N l1) fun r2 =>
  Ha (app N r2 ([x1])) fun l5 =>
  some l5
 ) fun l4 =>
 some l4
def yF (N:Nat)(n1:List Int)(c1:aL):Option ((da×aL)⊕aL) :=
 Ha (idx n1 0) fun x2 =>
 Ha (cJ N x2 1 30) fun r3 =>
 Ha (Ih N r3 2) fun z2 =>
 match z2 with
 | .inl r4 =>
  some (.inl (r4,c1))
 | .inr _ =>
  Ha (idx n1 1) fun x4 =>
  Ha (fg N x4 c1) fun r7 =>
  Ha (Ih N r7 7) fun z4 =>
  match z4 with
  | .inl r8 =>
   some (.inl (r8,c1))
  | .inr _ =>
   Ha (idx c1.kZ.iZ x4) fun x6 =>
   Ha (Ih N (decide (3≤(x6.length:Int))) 8) fun z6 =>
   match z6 with
   | .inl r10 =>
    some (.inl (r10,c1))
   | .inr _ =>
    Ha (Ih N (decide ((c1.kZ.aD.length:Int)<40)) 3) fun z8 =>
    match z8 with
    | .inl r12 =>
     some (.inl (r12,c1))
    | .inr _ =>
     Ha (
      some ((aH.mk (w64 ((c1.kZ.aD.length:Int)+1)) x4 x2 (Ar3.mk 0 0 0)))
     ) fun c3 =>
     Ha (
      Ha (slc x6 (w64 ((x6.length:Int)-3)) (x6.length:Int)) fun l2 =>
      Ha (idx l2 0) fun x10 =>
      Ha (idx l2 1) fun x11 =>
      Ha (idx l2 2) fun x12 =>
      some ((w64 ((x6.length:Int)-3),(aH.mk c3.bX c3.af c3.j2 (Ar3.mk x10 x11 x12))))
     ) fun(from2,c5) =>
     Ha (gd N c1.kZ.iZ) fun r14 =>
     Ha (idx n1 1) fun x15 =>
     Ha (slc x6 0 from2) fun l4 =>
     Ha (cG N l4) fun r16 =>
     Ha (idx r14 x15) fun x16 =>
     Ha (ze N c1.kZ.aD c5) fun r17 =>
     some (.inr ((aL.mk (aR.mk c1.kZ.az c1.kZ.ag (yK r14 (xY x15) r16) r17 c1.kZ.ak c1.kZ.aP))))
def zw (N:Nat)(x1:Int):Option (Bool) :=
 some (!decide (x1=x1))
def zK (N:Nat)(x1:Int)(y1:Int):Option (Bool) :=
 Ha (
  Ha (zw N x1) fun r3 =>
  if r3 then
   Ha (zw N y1) fun r4 =>
   if !r4 then
    some true
   else
    some (decide (x1<y1))
  else
   some (decide (x1<y1))
 ) fun v2 =>
 some v2
def yX (N:Nat)(x1:Int):Option (Bool) :=
 some (!decide (x1=x1))
def yi (N:Nat)(x1:List Int)(target1:Int)(n12:Int)(i9:Int)(j10:Int)(rec3:(Int×Int×Int)→Option (Int×Int))  : Option (Int×Int) :=
 Ha (idx x1 (w64 (Bs .u64 (Go.IntKind.wrap .u64 (w64 (i9+j10))) 1))) fun x13 =>
 Ha (zK N x13 target1) fun r12 =>
 if r12 then
  rec3 ((n12,w64 ((w64 (Bs .u64 (Go.IntKind.wrap .u64 (w64 (i9+j10))) 1))+1),j10))
 else
  rec3 ((n12,i9,w64 (Bs .u64 (Go.IntKind.wrap .u64 (w64 (i9+j10))) 1)))
def ls (N:Nat)(x1:List Int)(target1:Int)(rec3:(Int×Int×Int)→Option (Int×Int))(n12:Int)(i9:Int)(j10:Int):Option (Int×Int) :=
 if decide (i9<j10)then
  yi N x1 target1 n12 i9 j10 rec3
 else
  some (n12,i9)
def xX (N:Nat)(x1:List Int)(target1:Int):Option (Int×Bool) :=
 Ha (
  loopN (fun rec3 x=>ls N x1 target1 rec3 x.1 x.2.1 x.2.2) N (((x1.length:Int),0,(x1.length:Int)))
 ) fun(n7,i5) =>
 Ha (
  if decide (i5<n7)then
   Ha (idx x1 i5) fun x15 =>
   if decide (x15=target1)then
    some true
   else
    Ha (yX N x15) fun r15 =>
    if r15 then
     Ha (yX N target1) fun r16 =>
     some r16
    else
     some false
  else
   some false
 ) fun v2 =>
 some (i5,v2)
def yz (N:Nat)(n1:List Int)(c1:aL):Option ((da×aL)⊕aL) :=
 Ha (idx n1 0) fun x2 =>
 Ha (cJ N x2 1 (c1.kZ.aD.length:Int)) fun r3 =>
 Ha (Ih N r3 7) fun z2 =>
 match z2 with
 | .inl r4 =>
  some (.inl (r4,c1))
 | .inr _ =>
  Ha (xX N c1.kZ.ak x2) fun(ra2,rb2) =>
  Ha (Ih N (!rb2) 6) fun z4 =>
  match z4 with
  | .inl r6 =>
   some (.inl (r6,c1))
  | .inr _ =>
   Ha (cG N c1.kZ.ak) fun r7 =>
   Ha (BJ N ra2 r7 ([x2])) fun r8 =>
   some (.inr ((aL.mk (aR.mk c1.kZ.az c1.kZ.ag c1.kZ.iZ c1.kZ.aD r8 c1.kZ.aP))))
def jB (N:Nat)(c1:aL):Option (gu) :=
 some ((gu.mk 1 (c1.kZ.az.length:Int) 1 c1.kZ.aP))
def gI (N:Nat)(r1:ab):Option (Bool) :=
 some (decide ((r1.bg.length:Int)≤5))
def kD (N:Nat)(x1:ab):Option (Bool) :=
 Ha (gI N x1) fun r2 =>
 some (!r2)
def dh (N:Nat)   : Option (Int) :=
 some (-1)
def bD (N:Nat)(s1:List ab)(rec3:(Int×Int)→Option (Int))(v17:Int)(v18:Int):Option (Int) :=
 if decide (v18<v17)then
  Ha (idx s1 v18) fun x24 =>
  Ha (kD N x24) fun r24 =>
  if r24 then
   some v18
  else
   rec3 ((v17,w64 (v18+1)))
 else
  dh N
def eG (N:Nat)(s1:List ab):Option (Int) :=
 loopN (fun rec3 x=>bD N s1 rec3 x.1 x.2) N (((s1.length:Int),0))
def KG (N:Nat)(s1:List ab):Option (Bool) :=
 Ha (eG N s1) fun r2 =>
 some (decide (0≤r2))
def lM (N:Nat)(l1:List ab):Option (Bool) :=
 Ha (KG N l1) fun r2 =>
 some (!r2)
def eH (N:Nat)(n1:Int)(low1:Int)(high1:Int):Option (Bool) :=
 Ha (
  if decide (low1≤n1)then
   some (decide (n1≤high1))
  else
   some false
 ) fun v2 =>
 some v2
def gJ (N:Nat)(c1:gu):Option (Int) :=
 Ha (
  if decide (1<c1.sU)then
   some true
  else
   Ha (eH N c1.mn 2 16) fun r7 =>
   if !r7 then
    some true
   else
    Ha (eH N c1.bg 1 5) fun r8 =>
    if !r8 then
     some true
    else
     some (decide ((Int.tmod c1.bg 2)=0))
 ) fun v4 =>
 if v4 then
  some 1
 else
  some 0
def gK (N:Nat)(r1:ab)(a1:gu):Option (Bool) :=
 Ha (
  Ha (eH N r1.dA 0 (w64 (a1.mn-2))) fun r3 =>
  if r3 then
   some (decide (0<(r1.bg.length:Int)))
  else
   some false
 ) fun v2 =>
 some v2
def jC (N:Nat)(x1:ab)(a1:gu):Option (Bool) :=
 Ha (gK N x1 a1) fun r2 =>
 some (!r2)
def yx (N:Nat)   : Option (Int) :=
 some (-1)
def xW (N:Nat)(s1:List ab)(f1:gu)(rec3:(Int×Int)→Option (Int))(v17:Int)(v18:Int):Option (Int) :=
 if decide (v18<v17)then
  Ha (idx s1 v18) fun x24 =>
  Ha (jC N x24 f1) fun r24 =>
  if r24 then
   some v18
  else
   rec3 ((v17,w64 (v18+1)))
 else
  yx N
def d4 (N:Nat)(s1:List ab)(f1:gu):Option (Int) :=
 loopN (fun rec3 x=>xW N s1 f1 rec3 x.1 x.2) N (((s1.length:Int),0))
def cU (N:Nat)(s1:List ab)(f1:gu):Option (Bool) :=
 Ha (d4 N s1 f1) fun r2 =>
 some (decide (0≤r2))
def kE (N:Nat)(l1:List ab)(right1:gu):Option (Bool) :=
 Ha (cU N l1 right1) fun r2 =>
 some (!r2)
def gi (N:Nat)(n1:Int):Option (nS) :=
 some ((nS.mk n1 (-1)))
def y8 (N:Nat)(n1:Int):Option (nS) :=
 some ((nS.mk (-1) n1))
def bV (N:Nat) (rec3:(Int×Int×(List bh))→Option ((List bh)))(last10:Int)(n9:Int)(l21:List bh):Option ((List bh)) :=
 if decide (n9<last10)then
  Ha (gi N (w64 ((w64 (last10-1))-n9))) fun r27 =>
  Ha (y8 N (w64 (n9-1))) fun r28 =>
  Ha (app N l21 ([(bh.mk r27 r28)])) fun l23 =>
  rec3 ((last10,w64 (n9+1),l23))
 else
  some l21
def fX (N:Nat)(c1:gu):Option ((List bh)) :=
 Ha (gi N (w64 ((w64 (c1.mn-1))-1))) fun r3 =>
 Ha (gi N (w64 (c1.mn-1))) fun r4 =>
 Ha (
  loopN (fun rec3 x=>bV N rec3 x.1 x.2.1 x.2.2) N ((w64 (c1.mn-1),1,[(bh.mk r3 r4)]))
 ) fun l12 =>
 some l12
def ie (N:Nat)(c1:gu):Option ((List bh)) :=
 if decide (c1.sU=1)then
  Ha (fX N c1) fun r4 =>
  some r4
 else
  none
def jD (N:Nat)  : Option (Unit) :=
 some ()
def fY (N:Nat)(p1:bh):Option (nS) :=
 some p1.rx
def eJ (N:Nat)(l1:List Int)(rec3:(Int×Int×Int)→Option (Int))(n10:Int)(v17:Int)(v18:Int):Option (Int) :=
 if decide (v18<v17)then
  Ha (idx l1 v18) fun x24 =>
  rec3 ((w64 (n10+x24),v17,w64 (v18+1)))
 else
  some n10
def gq (N:Nat)(l1:List Int):Option (Int) :=
 Ha (
  loopN (fun rec3 x=>eJ N l1 rec3 x.1 x.2.1 x.2.2) N ((0,(l1.length:Int),0))
 ) fun n6 =>
 some n6
def KF (N:Nat)(p1:bh):Option (nS) :=
 some p1.yU
def zf (N:Nat)   : Option (Int) :=
 some (-1)
def yA (N:Nat)(s1:List Int)(v1:Int)(rec3:(Int×Int)→Option (Int))(v18:Int)(v19:Int):Option (Int) :=
 if decide (v19<v18)then
  Ha (idx s1 v19) fun x24 =>
  if decide (v1=x24)then
   some v19
  else
   rec3 ((v18,w64 (v19+1)))
 else
  zf N
def zx (N:Nat)(s1:List Int)(v1:Int):Option (Int) :=
 loopN (fun rec3 x=>yA N s1 v1 rec3 x.1 x.2) N (((s1.length:Int),0))
def yP (N:Nat)(s1:List Int)(v1:Int):Option (Bool) :=
 Ha (zx N s1 v1) fun r2 =>
 some (decide (0≤r2))
def eE (N:Nat)(games1:List Int)(x52:Ar2 Int)(rec7:(Int×Int×(Ar2 Int))→Option ((Ar2 Int)))(v53:Int)(v54:Int)(c66:Ar2 Int):Option ((Ar2 Int)) :=
 if decide (v54<v53)then
  Ha (
   Ha (idx games1 v54) fun x76 =>
   if decide (x76=x52.a0)then
    Ha (gq N ([c66.a0,1])) fun r36 =>
    some (Ar2.mk r36 c66.a1)
   else
    some c66
  ) fun c68 =>
  rec7 ((v53,w64 (v54+1),c68))
 else
  some c66
def eS (N:Nat)(games1:List Int)(x52:Ar2 Int)(rec9:(Int×Int×(Ar2 Int))→Option ((Ar2 Int)))(v71:Int)(v72:Int)(c87:Ar2 Int):Option ((Ar2 Int)) :=
 if decide (v72<v71)then
  Ha (
   Ha (idx games1 v72) fun x100 =>
   if decide (x100=x52.a1)then
    Ha (gq N ([c87.a1,1])) fun r48 =>
    some (Ar2.mk c87.a0 r48)
   else
    some c87
  ) fun c89 =>
  rec9 ((v71,w64 (v72+1),c89))
 else
  some c87
def xS (N:Nat)(match1:Int)(games1:List Int)(c1:Int)(c2:Int)(c3:Int)(c4:List ab)(c5:List bh)(m1:List (Int×ab))(l1:List (Ar2 Int)):Option ((Ar2 Int)) :=
 Ha (idx l1 match1) fun x52 =>
 Ha (
  loopN (fun rec7 x=>eE N games1 x52 rec7 x.1 x.2.1 x.2.2) N (((games1.length:Int),0,(Ar2.mk 0 0)))
 ) fun c58 =>
 Ha (
  loopN (fun rec9 x=>eS N games1 x52 rec9 x.1 x.2.1 x.2.2) N (((games1.length:Int),0,c58))
 ) fun c79 =>
 some c79
def xP (N:Nat)(match1:Int)(games1:List Int)(c1:Int)(c2:Int)(c3:Int)(c4:List ab)(c5:List bh)(m1:List (Int×ab))(l1:List (Ar2 Int)):Option (Int) :=
 Ha (xS N match1 games1 c1 c2 c3 c4 c5 m1 l1) fun r4 =>
 if decide (c3<(w64 (2*r4.a0)))then
  Ha (idx l1 match1) fun x12 =>
  some x12.a0
 else
  if decide (c3<(w64 (2*r4.a1)))then
   Ha (idx l1 match1) fun x16 =>
   some x16.a1
  else
   some (-1)
def fw (N:Nat)(r1:ab)(c1:Int)(c2:Int)(c3:Int)(c4:List ab)(c5:List bh)(m1:List (Int×ab))(l1:List (Ar2 Int))(x2:Ar2 Int)(rec3:(Int×Int)→Option (Bool))(v41:Int)(v42:Int):Option (Bool) :=
 if decide (v42<v41)then
  Ha (idx r1.bg v42) fun x26 =>
  Ha (
   Ha (yP N ([x2.a0,x2.a1]:List Int) x26) fun r48 =>
   if !r48 then
    some true
   else
    Ha (slc r1.bg 0 v42) fun l25 =>
    Ha (xP N r1.dA l25 c1 c2 c3 c4 c5 m1 l1) fun r49 =>
    some (!decide (r49=(-1)))
  ) fun v46 =>
  if v46 then
   some false
  else
   rec3 ((v41,w64 (v42+1)))
 else
  some true
def yg (N:Nat)(r1:ab)(c1:Int)(c2:Int)(c3:Int)(c4:List ab)(c5:List bh)(m1:List (Int×ab))(l1:List (Ar2 Int)):Option (Bool) :=
 Ha (idx l1 r1.dA) fun x2 =>
 Ha (
  if decide (x2.a0=(-1))then
   some true
  else
   some (decide (x2.a1=(-1)))
 ) fun v4 =>
 if v4 then
  some false
 else
  Ha (
   loopN (fun rec3 x=>fw N r1 c1 c2 c3 c4 c5 m1 l1 x2 rec3 x.1 x.2) N (((r1.bg.length:Int),0))
  ) fun fair2 =>
  some fair2
def dq (N:Nat)(match1:Int)(c1:Int)(c2:Int)(c3:Int)(c4:List ab)(c5:List bh)(m1:List (Int×ab))(l1:List (Ar2 Int)):Option (Int) :=
 Ha (mgt m1 match1 ((ab.mk 0 ([]) false))) fun(v2,is2) =>
 if !is2 then
  some (-1)
 else
  Ha (xP N match1 v2.bg c1 c2 c3 c4 c5 m1 l1) fun r2 =>
  some r2
def yJ (N:Nat)(c1:Int)(c2:Int)(c3:Int)(c4:List ab)(c5:List bh)(l17:List (Ar2 Int)):Option (Bool×Int×Int×Int×(List ab)×(List bh)×(List (Ar2 Int))) :=
 some (true,c1,c2,c3,c4,c5,l17)
def Kb (N:Nat)(c1:Int)(c2:Int)(c3:Int)(c4:List ab)(c5:List bh)(m1:List (Int×ab))(rec3:(Int×Int×(List (Ar2 Int)))→Option (Bool×Int×Int×Int×(List ab)×(List bh)×(List (Ar2 Int))))(v57:Int)(v58:Int)(l29:List (Ar2 Int)):Option (Bool×Int×Int×Int×(List ab)×(List bh)×(List (Ar2 Int))) :=
 if decide (v58<v57)then
  Ha (idx c5 v58) fun x24 =>
  Ha (jD N) fun _ =>
  Ha (
   Ha (fY N x24) fun r303 =>
   if decide (r303.dA=(-1))then
    some ((Ar2.mk r303.mo (-1)))
   else
    Ha (dq N r303.dA c1 c2 c3 c4 c5 m1 l29) fun r304 =>
    some ((Ar2.mk r304 (-1)))
  ) fun c99 =>
  Ha (
   Ha (KF N x24) fun r309 =>
   if decide (r309.dA=(-1))then
    some (Ar2.mk c99.a0 r309.mo)
   else
    Ha (dq N r309.dA c1 c2 c3 c4 c5 m1 l29) fun r310 =>
    some (Ar2.mk c99.a0 r310)
  ) fun c101 =>
  Ha (app N l29 ([c101])) fun l33 =>
  Ha (mgt m1 v58 ((ab.mk 0 ([]) false))) fun(v64,is24) =>
  Ha (
   if is24 then
    Ha (yg N v64 c1 c2 c3 c4 c5 m1 l33) fun r312 =>
    some (!r312)
   else
    some false
  ) fun v66 =>
  if v66 then
   some (false,c1,c2,c3,c4,c5,l33)
  else
   rec3 ((v57,w64 (v58+1),l33))
 else
  yJ N c1 c2 c3 c4 c5 l29
def fZ (N:Nat)(c1:Int)(c2:Int)(c3:Int)(c4:List ab)(c5:List bh)(m1:List (Int×ab)):Option (Bool×Int×Int×Int×(List ab)×(List bh)×(List (Ar2 Int))) :=
 loopN (fun rec3 x=>Kb N c1 c2 c3 c4 c5 m1 rec3 x.1 x.2.1 x.2.2) N (((c5.length:Int),0,[]))
def yC (N:Nat)(c1:gu)(r14:List bh)(m5:List (Int×ab)):Option (Int⊕(Int×Int×Int×Int×(List ab)×(List bh)×(List (Int×ab))×(List (Ar2 Int)))) :=
 Ha (fZ N c1.sU c1.mn c1.bg c1.aP r14 m5) fun(ra4,rb4,rc4,rd4,re4,rf4,rg4) =>
 if !ra4 then
  some (.inl 10)
 else
  some (.inr (0,rb4,rc4,rd4,re4,rf4,m5,rg4))
def dy (N:Nat)(c1:gu)(r14:List bh)(rec3:(Int×Int×(List (Int×ab)))→Option (Int⊕(Int×Int×Int×Int×(List ab)×(List bh)×(List (Int×ab))×(List (Ar2 Int)))))(v65:Int)(v66:Int)(m9:List (Int×ab)):Option (Int⊕(Int×Int×Int×Int×(List ab)×(List bh)×(List (Int×ab))×(List (Ar2 Int)))) :=
 if decide (v66<v65)then
  Ha (idx c1.aP v66) fun x24 =>
  Ha (
   Ha (mgt m9 x24.dA ((ab.mk 0 ([]) false))) fun(v74,is96) =>
   some is96
  ) fun is95 =>
  if is95 then
   some (.inl 6)
  else
   rec3 ((v65,w64 (v66+1),(mput m9 x24.dA x24)))
 else
  yC N c1 r14 m9
def yT (N:Nat)(c1:gu)(r14:List bh)(m14:List (Int×ab)):Option (Int⊕(Int×Int×Int×Int×(List ab)×(List bh)×(List (Int×ab))×(List (Ar2 Int)))) :=
 Ha (fZ N c1.sU c1.mn c1.bg c1.aP r14 m14) fun(ra8,rb8,rc8,rd8,re8,rf8,rg8) =>
 if !ra8 then
  some (.inl 10)
 else
  some (.inr (0,rb8,rc8,rd8,re8,rf8,m14,rg8))
def yD (N:Nat)(c1:gu)(r14:List bh)(rec5:(Int×Int×(List (Int×ab)))→Option (Int⊕(Int×Int×Int×Int×(List ab)×(List bh)×(List (Int×ab))×(List (Ar2 Int)))))(v131:Int)(v132:Int)(m18:List (Int×ab)):Option (Int⊕(Int×Int×Int×Int×(List ab)×(List bh)×(List (Int×ab))×(List (Ar2 Int)))) :=
 if decide (v132<v131)then
  Ha (idx c1.aP v132) fun x48 =>
  Ha (
   Ha (mgt m18 x48.dA ((ab.mk 0 ([]) false))) fun(v140,is192) =>
   some is192
  ) fun is191 =>
  if is191 then
   some (.inl 6)
  else
   rec5 ((v131,w64 (v132+1),(mput m18 x48.dA x48)))
 else
  yT N c1 r14 m18
def ig (N:Nat)(c1:gu):Option (Int⊕(Int×Int×Int×Int×(List ab)×(List bh)×(List (Int×ab))×(List (Ar2 Int)))) :=
 Ha (
  if decide (15<(c1.aP.length:Int))then
   some true
  else
   Ha (lM N c1.aP) fun r8 =>
   some (!r8)
 ) fun v6 =>
 if v6 then
  some (.inl 3)
 else
  Ha (
   Ha (gJ N c1) fun r11 =>
   if !decide (r11=0)then
    some true
   else
    Ha (kE N c1.aP c1) fun r12 =>
    some (!r12)
  ) fun v8 =>
  if v8 then
   some (.inl 1)
  else
   Ha (ie N c1) fun r14 =>
   loopN (fun rec3 x=>dy N c1 r14 rec3 x.1 x.2.1 x.2.2) N (((c1.aP.length:Int),0,([]:List (Int×ab))))
def yQ (N:Nat)(c1:Int)(c2:Int)(c3:Int)(c4:List ab)(c5:List bh)(m1:List (Int×ab))(l1:List (Ar2 Int)):Option (Unit) :=
 some ()
def rc (N:Nat)(c1:Int)(c2:Int)(c3:Int)(c4:List ab)(c5:List bh)(m1:List (Int×ab))(l1:List (Ar2 Int))(rec3:(Int×Int×(List gN))→Option ((List gN)))(v77:Int)(v78:Int)(l40:List gN):Option ((List gN)) :=
 if decide (v78<v77)then
  Ha (
   Ha (idx l1 v78) fun x24 =>
   Ha (
    if decide (x24.a0=(-1))then
     some true
    else
     if decide (x24.a1=(-1))then
      some true
     else
      Ha (dq N v78 c1 c2 c3 c4 c5 m1 l1) fun r70 =>
      some (!decide (r70=(-1)))
   ) fun v88 =>
   if v88 then
    some l40
   else
    Ha (
     Ha (mgt m1 v78 ((ab.mk 0 ([]) false))) fun(v90,is24) =>
     Ha (xS N v78 v90.bg c1 c2 c3 c4 c5 m1 l1) fun r72 =>
     some r72
    ) fun c29 =>
    Ha (app N l40 ([(gN.mk v78 x24.a0 x24.a1 c29.a0 c29.a1)])) fun l46 =>
    some l46
  ) fun l44 =>
  rec3 ((v77,w64 (v78+1),l44))
 else
  some l40
def yI (N:Nat)(c1:Int)(c2:Int)(c3:Int)(c4:List ab)(c5:List bh)(m1:List (Int×ab))(l1:List (Ar2 Int)):Option ((List gN)) :=
 Ha (
  loopN (fun rec3 x=>rc N c1 c2 c3 c4 c5 m1 l1 rec3 x.1 x.2.1 x.2.2) N (((l1.length:Int),0,[]))
 ) fun l24 =>
 some l24
def yG (N:Nat)(c1:Int)(c2:Int)(c3:Int)(c4:List ab)(c5:List bh)(m1:List (Int×ab))(l1:List (Ar2 Int)):Option ((List gN)) :=
 Ha (yI N c1 c2 c3 c4 c5 m1 l1) fun r2 =>
 some r2
def yh (N:Nat)(c1:gu):Option ((List gN)×Int) :=
 Ha (ig N c1) fun z2 =>
 match z2 with
 | .inl r2 =>
  if !decide (r2=0)then
   some ([],r2)
  else
   none
 | .inr (ra2,rb2,rc2,rd2,re2,rf2,rg2,rh2) =>
  if !decide (ra2=0)then
   some ([],ra2)
  else
   Ha (yQ N rb2 rc2 rd2 re2 rf2 rg2 rh2) fun _ =>
   Ha (yG N rb2 rc2 rd2 re2 rf2 rg2 rh2) fun r4 =>
   some (r4,0)
def zm (N:Nat)  : Option (Unit) :=
 some ()
def yp (N:Nat)(s1:List ab):Option ((List ab)) :=
 Ha (app N ([]) s1) fun l2 =>
 some l2
def yk (N:Nat)(l:List ab):Option ((List ab)):=yp N l
def yY (N:Nat)(l1:List ab)(x1:ab):Option ((List ab)) :=
 Ha (
  Ha (yk N l1) fun r2 =>
  Ha (app N r2 ([x1])) fun l5 =>
  some l5
 ) fun l4 =>
 some l4
def yw (N:Nat)(n1:List Int)(c1:aL)(ra2:List gN)  : Option ((da×aL)⊕aL) :=
 Ha (idx ra2 0) fun x3 =>
 Ha (idx n1 0) fun x4 =>
 Ha (yY N c1.kZ.aP ((ab.mk x3.bX ([x4]) false))) fun r7 =>
 some (.inr ((aL.mk (aR.mk c1.kZ.az c1.kZ.ag c1.kZ.iZ c1.kZ.aD c1.kZ.ak r7))))
def yR (N:Nat)(n1:List Int)(c1:aL):Option ((da×aL)⊕aL) :=
 Ha (jB N c1) fun r2 =>
 Ha (yh N r2) fun(ra2,rb2) =>
 Ha (Ih N (decide (0<(ra2.length:Int))) 8) fun z2 =>
 match z2 with
 | .inl r4 =>
  some (.inl (r4,c1))
 | .inr _ =>
  Ha (idx n1 0) fun x5 =>
  Ha (idx ra2 0) fun x6 =>
  if decide (x5=x6.rx)then
   Ha (Ih N true 10) fun z5 =>
   match z5 with
   | .inl r8 =>
    some (.inl (r8,c1))
   | .inr _ =>
    yw N n1 c1 ra2
  else
   Ha (Ih N (decide (x5=x6.yU)) 10) fun z6 =>
   match z6 with
   | .inl r9 =>
    some (.inl (r9,c1))
   | .inr _ =>
    yw N n1 c1 ra2
def yB (N:Nat)(r1:ab)(a1:List Int):Option (Bool) :=
 Ha (idx a1 0) fun x2 =>
 some (decide (r1.dA=x2))
def yr (N:Nat)   : Option (Int) :=
 some (-1)
def xU (N:Nat)(s1:List ab)(f1:List Int)(rec3:(Int×Int)→Option (Int))(v17:Int)(v18:Int):Option (Int) :=
 if decide (v18<v17)then
  Ha (idx s1 v18) fun x24 =>
  Ha (yB N x24 f1) fun r24 =>
  if r24 then
   some v18
  else
   rec3 ((v17,w64 (v18+1)))
 else
  yr N
def dE (N:Nat)(s1:List ab)(f1:List Int):Option (Int) :=
 loopN (fun rec3 x=>xU N s1 f1 rec3 x.1 x.2) N (((s1.length:Int),0))
def yH (N:Nat)(n1:List Int)(c1:aL):Option ((da×aL)⊕aL) :=
 Ha (dE N c1.kZ.aP n1) fun r2 =>
 Ha (Ih N (decide (0≤r2)) 7) fun z2 =>
 match z2 with
 | .inl r4 =>
  some (.inl (r4,c1))
 | .inr _ =>
  Ha (idx c1.kZ.aP r2) fun x2 =>
  Ha (Ih N (!x2.lT) 6) fun z4 =>
  match z4 with
  | .inl r6 =>
   some (.inl (r6,c1))
  | .inr _ =>
   Ha (yk N c1.kZ.aP) fun r8 =>
   Ha (idx r8 r2) fun x3 =>
   some (.inr ((aL.mk (aR.mk c1.kZ.az c1.kZ.ag c1.kZ.iZ c1.kZ.aD c1.kZ.ak (yK r8 (xY r2) (ab.mk x3.dA x3.bg true))))))
def fV (N:Nat)(c1:aL)(c3:j1)(l13:List Int):Option ((da×aL)⊕aL) :=
 if decide (c3.fDo=0)then
  Ha (gB N l13 c1) fun z9 =>
  match z9 with
  | .inl (ra1,rb1) =>
   some (.inl (ra1,rb1))
  | .inr r19 =>
   some (.inr r19)
 else
  if decide (c3.fDo=1)then
   Ha (iO N l13 c1) fun z10 =>
   match z10 with
   | .inl (ra2,rb2) =>
    some (.inl (ra2,rb2))
   | .inr r20 =>
    some (.inr r20)
  else
   if decide (c3.fDo=2)then
    Ha (iQ N l13 c1) fun z11 =>
    match z11 with
    | .inl (ra3,rb3) =>
     some (.inl (ra3,rb3))
    | .inr r21 =>
     some (.inr r21)
   else
    if decide (c3.fDo=3)then
     Ha (yO N l13 c1) fun z12 =>
     match z12 with
     | .inl (ra4,rb4) =>
      some (.inl (ra4,rb4))
     | .inr r22 =>
      some (.inr r22)
    else
     if decide (c3.fDo=4)then
      Ha (g8 N l13 c1) fun z13 =>
      match z13 with
      | .inl (ra5,rb5) =>
       some (.inl (ra5,rb5))
      | .inr r23 =>
       some (.inr r23)
     else
      if decide (c3.fDo=5)then
       Ha (yF N l13 c1) fun z14 =>
       match z14 with
       | .inl (ra6,rb6) =>
        some (.inl (ra6,rb6))
       | .inr r24 =>
        some (.inr r24)
      else
       if decide (c3.fDo=6)then
        Ha (yz N l13 c1) fun z15 =>
        match z15 with
        | .inl (ra7,rb7) =>
         some (.inl (ra7,rb7))
        | .inr r25 =>
         some (.inr r25)
       else
        if decide (c3.fDo=7)then
         Ha (yR N l13 c1) fun z16 =>
         match z16 with
         | .inl (ra8,rb8) =>
          some (.inl (ra8,rb8))
         | .inr r26 =>
          some (.inr r26)
        else
         if decide (c3.fDo=8)then
          Ha (yH N l13 c1) fun z17 =>
          match z17 with
          | .inl (ra9,rb9) =>
           some (.inl (ra9,rb9))
          | .inr r27 =>
           some (.inr r27)
         else
          none
def cN (N:Nat)(c1:aL)(c3:j1)(l15:List (List UInt8))(rec3:(Int×Int×(List Int))→Option ((da×aL)⊕aL))(v19:Int)(v20:Int)(l23:List Int):Option ((da×aL)⊕aL) :=
 if decide (v20<v19)then
  Ha (idx l15 v20) fun x26 =>
  Ha (MI N x26) fun z23 =>
  match z23 with
  | .inl r38 =>
   Ha (app N l23 ([r38])) fun l25 =>
   rec3 ((v19,w64 (v20+1),l25))
  | .inr r39 =>
   some (.inl (r39,c1))
 else
  fV N c1 c3 l23
def dQ (N:Nat)(c1:aL)(r2:List (List UInt8))(c3:j1)  : Option ((da×aL)⊕aL) :=
 Ha (slc r2 1 (r2.length:Int)) fun l15 =>
 loopN (fun rec3 x=>cN N c1 c3 l15 rec3 x.1 x.2.1 x.2.2) N (((l15.length:Int),0,[]))
def iS (N:Nat)(s1:List UInt8)(c1:aL):Option ((da×aL)⊕aL) :=
 Ha (wA N s1 ([32]:List UInt8)) fun r2 =>
 Ha (
  Ha (idx r2 0) fun x2 =>
  Ha (nD N) fun r4 =>
  Ha (mgt r4 x2 ((j1.mk 0 (-1)))) fun(v2,is4) =>
  some (is4,v2)
 ) fun(is3,c3) =>
 if is3 then
  Ha (Ih N (decide ((r2.length:Int)=(w64 (c3.vD+1)))) 4) fun z24 =>
  match z24 with
  | .inl r40 =>
   some (.inl (r40,c1))
  | .inr _ =>
   dQ N c1 r2 c3
 else
  Ha (Ih N false 4) fun z25 =>
  match z25 with
  | .inl r41 =>
   some (.inl (r41,c1))
  | .inr _ =>
   dQ N c1 r2 c3
def iT (N:Nat)(s1:List UInt8)(c1:aL):Option (Int×aL) :=
 match iS N s1 c1 with
 | none=>none
 | some (.inl r)=>some (r.1.fE,c1)
 | some (.inr r)=>some (0,r)
def eD (N:Nat)(lines1:List (List UInt8))(rec3:(Int×Int×aL×(List Int))→Option (aL×(List Int)))(v17:Int)(v18:Int)(c9:aL)(l19:List Int):Option (aL×(List Int)) :=
 if decide (v18<v17)then
  Ha (idx lines1 v18) fun x24 =>
  Ha (iT N x24 c9) fun(ra12,rb12) =>
  Ha (app N l19 ([ra12])) fun l21 =>
  rec3 ((v17,w64 (v18+1),rb12,l21))
 else
  some (c9,l19)
def gn (N:Nat)(lines1:List (List UInt8)):Option ((List Int)×aL) :=
 Ha (lG N) fun r2 =>
 Ha (
  loopN (fun rec3 x=>eD N lines1 rec3 x.1 x.2.1 x.2.2.1 x.2.2.2) N (((lines1.length:Int),0,r2,[]))
 ) fun(c5,l11) =>
 some (l11,c5)
def bR (N:Nat)(s1:aR)(rec3:(Int×Int×(List cA))→Option ((List cA)))(v17:Int)(v18:Int)(l19:List cA):Option ((List cA)) :=
 if decide (v18<v17)then
  Ha (idx s1.ag v18) fun x24 =>
  Ha (cG N x24.ar) fun r18 =>
  Ha (app N l19 ([(cA.mk x24.af r18)])) fun l21 =>
  rec3 ((v17,w64 (v18+1),l21))
 else
  some l19
def bS (N:Nat)(s1:aR)(rec5:(Int×Int×(List (List Int)))→Option ((List (List Int))))(v35:Int)(v36:Int)(l40:List (List Int)):Option ((List (List Int))) :=
 if decide (v36<v35)then
  Ha (idx s1.iZ v36) fun x48 =>
  Ha (cG N x48) fun r30 =>
  Ha (app N l40 ([r30])) fun l42 =>
  rec5 ((v35,w64 (v36+1),l42))
 else
  some l40
def bT (N:Nat)(s1:aR)(rec7:(Int×Int×(List ab))→Option ((List ab)))(v53:Int)(v54:Int)(l61:List ab):Option ((List ab)) :=
 if decide (v54<v53)then
  Ha (idx s1.aP v54) fun x72 =>
  Ha (cG N x72.bg) fun r42 =>
  Ha (app N l61 ([(ab.mk x72.dA r42 x72.lT)])) fun l63 =>
  rec7 ((v53,w64 (v54+1),l63))
 else
  some l61
def fW (N:Nat)(s1:aR):Option (aR) :=
 Ha (
  Ha (cG N s1.az) fun r4 =>
  Ha (gD N s1.aD) fun r5 =>
  Ha (cG N s1.ak) fun r6 =>
  some (r4,r5,r6)
 ) fun(c4,c5,c6) =>
 Ha (
  loopN (fun rec3 x=>bR N s1 rec3 x.1 x.2.1 x.2.2) N (((s1.ag.length:Int),0,[]))
 ) fun l11 =>
 Ha (
  loopN (fun rec5 x=>bS N s1 rec5 x.1 x.2.1 x.2.2) N (((s1.iZ.length:Int),0,[]))
 ) fun l32 =>
 Ha (
  loopN (fun rec7 x=>bT N s1 rec7 x.1 x.2.1 x.2.2) N (((s1.aP.length:Int),0,[]))
 ) fun l53 =>
 some (aR.mk c4 l11 l32 c5 c6 l53)
def nE (N:Nat)(lines1:List (List UInt8)):Option (aR×(List Int)×Int) :=
 Ha (dw N lines1) fun r4 =>
 if !decide (r4=0)then
  some (((aR.mk ([]) ([]) ([]) ([]) ([]) ([])),[],r4))
 else
  Ha (gn N lines1) fun(ra2,rb2) =>
  Ha (fW N rb2.kZ) fun r6 =>
  some (r6,ra2,0)
def ct (N:Nat)(sheet1:List Int)(rec3:(Int×Int×Int×ii)→Option (Int))(n10:Int)(v17:Int)(v18:Int)(p8:ii):Option (Int) :=
 if decide (v18<v17)then
  Ha (idx sheet1 v18) fun x24 =>
  Ha (bA N p8 x24) fun(ra24,rb24,rc24) =>
  Ha (fL N ([n10,rc24])) fun r14 =>
  rec3 ((r14,v17,w64 (v18+1),ra24))
 else
  some n10
def fk (N:Nat)(l1:og)(sheet1:List Int):Option (Int) :=
 Ha (bL N l1) fun r2 =>
 Ha (
  loopN (fun rec3 x=>ct N sheet1 rec3 x.1 x.2.1 x.2.2.1 x.2.2.2) N ((0,(sheet1.length:Int),0,r2))
 ) fun n6 =>
 some n6
def gE (N:Nat)(p1:ii):Option (Int) :=
 some 0
def cu (N:Nat) (rec3:(Int×ii)→Option (Int))(n10:Int)(p8:ii):Option (Int) :=
 Ha (cT N p8) fun r62 =>
 if !r62 then
  Ha (
   Ha (gE N p8) fun r67 =>
   Ha (bA N p8 r67) fun(ra24,rb24,rc24) =>
   some (rc24,ra24)
  ) fun(worth24,now24) =>
  Ha (fL N ([n10,worth24])) fun r68 =>
  rec3 (r68,now24)
 else
  some n10
def g9 (N:Nat)(l1:og)(sheet1:List Int):Option (Int) :=
 Ha (fk N l1 sheet1) fun r2 =>
 Ha (
  Ha (dg N l1 sheet1) fun r37 =>
  loopN (fun rec3 x=>cu N rec3 x.1 x.2) N (r2,r37)
 ) fun n6 =>
 some n6
def ML (N:Nat)(p1:ii):Option (Int) :=
 some p1.fAt.cw
def ce (N:Nat) (rec3:(Int×ii)→Option (Int))(n10:Int)(p8:ii):Option (Int) :=
 Ha (cT N p8) fun r62 =>
 if !r62 then
  Ha (
   Ha (ML N p8) fun r67 =>
   Ha (bA N p8 r67) fun(ra24,rb24,rc24) =>
   some (rc24,ra24)
  ) fun(worth24,now24) =>
  Ha (fL N ([n10,worth24])) fun r68 =>
  rec3 (r68,now24)
 else
  some n10
def gF (N:Nat)(l1:og)(sheet1:List Int):Option (Int) :=
 Ha (fk N l1 sheet1) fun r2 =>
 Ha (
  Ha (dg N l1 sheet1) fun r37 =>
  loopN (fun rec3 x=>ce N rec3 x.1 x.2) N (r2,r37)
 ) fun n6 =>
 some n6
def iU (N:Nat)(l1:og)(sheet1:List Int):Option (vG) :=
 Ha (
  Ha (g9 N l1 sheet1) fun r3 =>
  Ha (gF N l1 sheet1) fun r4 =>
  some (vG.mk r3 r4)
 ) fun c2 =>
 some c2
def lI (N:Nat)(l1:og)(balls1:List Int):Option (vG×Int) :=
 Ha (fj N l1 balls1) fun r4 =>
 if !decide (r4=0)then
  none
 else
  Ha (iU N l1 balls1) fun r6 =>
  some (r6,0)
def lJ (N:Nat)(lines1:List (List UInt8))(lane1:Int):Option ((List Int)×Int×Int×Int) :=
 Ha (dw N lines1) fun r4 =>
 if !decide (r4=0)then
  none
 else
  Ha (gn N lines1) fun(ra2,rb2) =>
  Ha (
   Ha (cJ N lane1 0 (w64 ((rb2.kZ.ag.length:Int)-1))) fun r8 =>
   if !r8 then
    some true
   else
    Ha (idx rb2.kZ.ag lane1) fun x4 =>
    some (decide (x4.af=(-1)))
  ) fun v4 =>
  if v4 then
   none
  else
   Ha (idx rb2.kZ.ag lane1) fun x6 =>
   Ha (iP N) fun r10 =>
   Ha (gm N r10 x6.ar) fun(ra4,rb4) =>
   Ha (iP N) fun r12 =>
   Ha (lI N r12 x6.ar) fun(ra6,rb6) =>
   some (ra4.vg,ra6.fLo,ra6.fHi,0)
def eF (N:Nat)(c1:aL):Option (mP) :=
 some ((mP.mk (wz.mk 90 80 40 3 5) c1.kZ.az c1.kZ.aD c1.kZ.ak))
def dZ (N:Nat)(n1:Int)(low1:Int)(high1:Int):Option (Bool) :=
 Ha (
  if decide (low1≤n1)then
   some (decide (n1≤high1))
  else
   some false
 ) fun v2 =>
 some v2
def gp (N:Nat)(n1:Int):Option (Bool) :=
 Ha (dZ N n1 0 300) fun r2 =>
 some r2
def iV (N:Nat)(l1:wz):Option (Bool) :=
 Ha (
  Ha (gp N l1.o8) fun r6 =>
  if r6 then
   Ha (dZ N l1.jF 0 100) fun r7 =>
   if r7 then
    Ha (gp N l1.uq) fun r8 =>
    if r8 then
     Ha (dZ N l1.ue 1 30) fun r9 =>
     if r9 then
      Ha (gp N l1.o9) fun r10 =>
      some r10
     else
      some false
    else
     some false
   else
    some false
  else
   some false
 ) fun v2 =>
 some v2
def nF (N:Nat)(x1:Int):Option (Bool) :=
 Ha (gp N x1) fun r2 =>
 some (!r2)
def cy (N:Nat)   : Option (Int) :=
 some (-1)
def bc (N:Nat)(s1:List Int)(rec3:(Int×Int)→Option (Int))(v17:Int)(v18:Int):Option (Int) :=
 if decide (v18<v17)then
  Ha (idx s1 v18) fun x24 =>
  Ha (nF N x24) fun r24 =>
  if r24 then
   some v18
  else
   rec3 ((v17,w64 (v18+1)))
 else
  cy N
def dl (N:Nat)(s1:List Int):Option (Int) :=
 loopN (fun rec3 x=>bc N s1 rec3 x.1 x.2) N (((s1.length:Int),0))
def cK (N:Nat)(s1:List Int):Option (Bool) :=
 Ha (dl N s1) fun r2 =>
 some (decide (0≤r2))
def pW (N:Nat)(l1:List Int):Option (Bool) :=
 Ha (cK N l1) fun r2 =>
 some (!r2)
def F1 (N:Nat)(n1:Int):Option (Bool) :=
 Ha (dZ N n1 1 999) fun r2 =>
 some r2
def gG (N:Nat)(b1:mP)(n1:Int):Option (Bool) :=
 Ha (dZ N n1 0 (w64 ((b1.az.length:Int)-1))) fun r2 =>
 some r2
def nH (N:Nat)(n1:Int):Option (Bool) :=
 Ha (dZ N n1 1 30) fun r2 =>
 some r2
def EF (N:Nat)(b1:mP)(s1:aH):Option (Bool) :=
 Ha (
  Ha (F1 N s1.bX) fun r5 =>
  if r5 then
   Ha (gG N b1 s1.af) fun r6 =>
   if r6 then
    Ha (nH N s1.j2) fun r7 =>
    if r7 then
     Ha (pW N ([s1.bg.a0,s1.bg.a1,s1.bg.a2]:List Int)) fun r8 =>
     some r8
    else
     some false
   else
    some false
  else
   some false
 ) fun v2 =>
 some v2
def Ju (N:Nat)(x1:aH)(a1:mP):Option (Bool) :=
 Ha (EF N a1 x1) fun r2 =>
 some (!r2)
def ci (N:Nat)   : Option (Int) :=
 some (-1)
def aW (N:Nat)(s1:List aH)(f1:mP)(rec3:(Int×Int)→Option (Int))(v17:Int)(v18:Int):Option (Int) :=
 if decide (v18<v17)then
  Ha (idx s1 v18) fun x24 =>
  Ha (Ju N x24 f1) fun r24 =>
  if r24 then
   some v18
  else
   rec3 ((v17,w64 (v18+1)))
 else
  ci N
def cV (N:Nat)(s1:List aH)(f1:mP):Option (Int) :=
 loopN (fun rec3 x=>aW N s1 f1 rec3 x.1 x.2) N (((s1.length:Int),0))
def cz (N:Nat)(s1:List aH)(f1:mP):Option (Bool) :=
 Ha (cV N s1 f1) fun r2 =>
 some (decide (0≤r2))
def nG (N:Nat)(l1:List aH)(right1:mP):Option (Bool) :=
 Ha (cz N l1 right1) fun r2 =>
 some (!r2)
def Ii (N:Nat)(x1:Int):Option (Bool) :=
 Ha (F1 N x1) fun r2 =>
 some (!r2)
def Cr (N:Nat)   : Option (Int) :=
 some (-1)
def Ew (N:Nat)(s1:List Int)(rec3:(Int×Int)→Option (Int))(v17:Int)(v18:Int):Option (Int) :=
 if decide (v18<v17)then
  Ha (idx s1 v18) fun x24 =>
  Ha (Ii N x24) fun r24 =>
  if r24 then
   some v18
  else
   rec3 ((v17,w64 (v18+1)))
 else
  Cr N
def yu (N:Nat)(s1:List Int):Option (Int) :=
 loopN (fun rec3 x=>Ew N s1 rec3 x.1 x.2) N (((s1.length:Int),0))
def ck (N:Nat)(s1:List Int):Option (Bool) :=
 Ha (yu N s1) fun r2 =>
 some (decide (0≤r2))
def lK (N:Nat)(l1:List Int):Option (Bool) :=
 Ha (ck N l1) fun r2 =>
 some (!r2)
def Jt (N:Nat)   : Option (Bool) :=
 some true
def JO (N:Nat)(l1:List Int)(rec3:(Int×Int)→Option (Bool))(v29:Int)(v30:Int):Option (Bool) :=
 if decide (v30<v29)then
  Ha (
   if decide (0<v30)then
    Ha (idx l1 v30) fun x31 =>
    Ha (idx l1 (w64 (v30-1))) fun x32 =>
    some (decide (x31≤x32))
   else
    some false
  ) fun v34 =>
  if v34 then
   some false
  else
   rec3 ((v29,w64 (v30+1)))
 else
  Jt N
def MJ (N:Nat)(l1:List Int):Option (Bool) :=
 loopN (fun rec3 x=>JO N l1 rec3 x.1 x.2) N (((l1.length:Int),0))
def Ek (N:Nat)   : Option (Int) :=
 some 0
def Eu (N:Nat)(v235:Int)(v236:Int)(rec13:(Int×Int)→Option (Int))  : Option (Int) :=
 rec13 ((v235,w64 (v236+1)))
def Ai (N:Nat)(v235:Int)(v236:Int)(rec13:(Int×Int)→Option (Int))(x156:aH)(l24:List aH)(rec15:(Int×Int)→Option (Int))(v273:Int)(v274:Int):Option (Int) :=
 if decide (v274<v273)then
  Ha (idx l24 v274) fun x168 =>
  Ha (
   if decide (x156.bX=x168.bX)then
    if !decide (x156.af=x168.af)then
     some true
    else
     if !decide (x156.j2=x168.j2)then
      some true
     else
      some (!decide (x156.bg=x168.bg))
   else
    some false
  ) fun v278 =>
  if v278 then
   some 6
  else
   rec15 ((v273,w64 (v274+1)))
 else
  Eu N v235 v236 rec13
def zH (N:Nat)(b1:mP)(rec13:(Int×Int)→Option (Int))(v235:Int)(v236:Int):Option (Int) :=
 if decide (v236<v235)then
  Ha (idx b1.aD v236) fun x156 =>
  Ha (slc b1.aD 0 v236) fun l24 =>
  loopN (fun rec15 x=>Ai N v235 v236 rec13 x156 l24 rec15 x.1 x.2) N (((l24.length:Int),0))
 else
  Ek N
def ic (N:Nat)(b1:mP):Option (Int) :=
 Ha (
  if decide (8<(b1.az.length:Int))then
   some true
  else
   if decide (40<(b1.aD.length:Int))then
    some true
   else
    some (decide (40<(b1.ak.length:Int)))
 ) fun v6 =>
 if v6 then
  some 3
 else
  Ha (
   Ha (iV N b1.fu) fun r16 =>
   if !r16 then
    some true
   else
    Ha (pW N b1.az) fun r17 =>
    if !r17 then
     some true
    else
     Ha (nG N b1.aD b1) fun r18 =>
     if !r18 then
      some true
     else
      Ha (lK N b1.ak) fun r19 =>
      if !r19 then
       some true
      else
       Ha (MJ N b1.ak) fun r20 =>
       some (!r20)
  ) fun v8 =>
  if v8 then
   some 1
  else
   loopN (fun rec13 x=>zH N b1 rec13 x.1 x.2) N (((b1.aD.length:Int),0))
def cO (N:Nat)(b1:mP)(rec3:(Int×Int×(List (xV×aH)))→Option ((List (xV×aH))))(v57:Int)(v58:Int)(m19:List (xV×aH)):Option ((List (xV×aH))) :=
 if decide (v58<v57)then
  Ha (
   Ha (idx b1.aD v58) fun x24 =>
   Ha (
    Ha (mgt m19 (xV.mk x24.af x24.j2) ((aH.mk 0 0 0 (Ar3.mk 0 0 0)))) fun(v64,is48) =>
    some (is48,v64)
   ) fun(is47,c24) =>
   Ha (
    Ha (yP N b1.ak x24.bX) fun r28 =>
    if !r28 then
     if !is47 then
      some true
     else
      some (decide (c24.bX<x24.bX))
    else
     some false
   ) fun v66 =>
   if v66 then
    some ((mput m19 (xV.mk x24.af x24.j2) x24))
   else
    some m19
  ) fun m21 =>
  rec3 ((v57,w64 (v58+1),m21))
 else
  some m19
def gg (N:Nat)(b1:mP):Option (Int⊕(Int×Int×Int×Int×Int×Int×(List Int)×(List aH)×(List Int)×(List (xV×aH)))) :=
 Ha (ic N b1) fun r4 =>
 if !decide (r4=0)then
  some (.inl r4)
 else
  Ha (
   loopN (fun rec3 x=>cO N b1 rec3 x.1 x.2.1 x.2.2) N (((b1.aD.length:Int),0,([]:List (xV×aH))))
  ) fun m11 =>
  some (.inr (0,b1.fu.o8,b1.fu.jF,b1.fu.uq,b1.fu.ue,b1.fu.o9,b1.az,b1.aD,b1.ak,m11))
def fm (N:Nat)(b1:mP)(bowler1:Int)(w1:Int):Option (Int⊕(Int×Int×Int×Int×Int×Int×(List Int)×(List aH)×(List Int)×(List (xV×aH)))) :=
 Ha (gg N b1) fun z2 =>
 match z2 with
 | .inl r2 =>
  Ha (
   Ha (
    if decide (r2=0)then
     Ha (gG N b1 bowler1) fun r9 =>
     if !r9 then
      some true
     else
      Ha (nH N w1) fun r10 =>
      some (!r10)
    else
     some false
   ) fun v4 =>
   if v4 then
    some 2
   else
    some r2
  ) fun e2 =>
  some (.inl e2)
 | .inr (ra2,rb2,rc2,rd2,re2,rf2,rg2,rh2,ri2,rj2) =>
  Ha (
   Ha (
    if decide (ra2=0)then
     Ha (gG N b1 bowler1) fun r17 =>
     if !r17 then
      some true
     else
      Ha (nH N w1) fun r18 =>
      some (!r18)
    else
     some false
   ) fun v8 =>
   if v8 then
    some 2
   else
    some ra2
  ) fun e4 =>
  some (.inr (e4,rb2,rc2,rd2,re2,rf2,rg2,rh2,ri2,rj2))
def gH (N:Nat)(l1:List Int)(rec3:(Int×Int×Int)→Option (Int))(n10:Int)(v17:Int)(v18:Int):Option (Int) :=
 if decide (v18<v17)then
  Ha (idx l1 v18) fun x24 =>
  rec3 ((w64 (n10+x24),v17,w64 (v18+1)))
 else
  some n10
def pX (N:Nat)(l1:List Int):Option (Int) :=
 Ha (
  loopN (fun rec3 x=>gH N l1 rec3 x.1 x.2.1 x.2.2) N ((0,(l1.length:Int),0))
 ) fun n6 =>
 some n6
def eZ (N:Nat)(bowler1:Int)(before1:Int)(c1:Int)(c2:Int)(c3:Int)(c4:Int)(c5:Int)(c6:List Int)(c7:List aH)(c8:List Int)(m1:List (xV×aH)):Option (Int×Int) :=
 some (before1,bowler1)
def bU (N:Nat)(m1:List (xV×aH))(ra4:Int)(rb4:Int)(rec3:(Int×Int×Int)→Option (Int×Int))(games8:Int)(c87:Int)(c88:Int):Option (Int×Int) :=
 if decide (games8<ra4)then
  Ha (
   Ha (mgt m1 (xV.mk rb4 games8) ((aH.mk 0 0 0 (Ar3.mk 0 0 0)))) fun(v24,is24) =>
   some (is24,v24)
  ) fun(besides25,c96) =>
  Ha (
   if besides25 then
    Ha (pX N ([c96.bg.a0,c96.bg.a1,c96.bg.a2]:List Int)) fun r49 =>
    Ha (pX N ([c88,r49])) fun r50 =>
    some ((w64 (c87+3),r50))
   else
    some (c87,c88)
  ) fun(c99,c100) =>
  rec3 ((w64 (games8+1),c99,c100))
 else
  some (c87,c88)
def dS (N:Nat)(bowler1:Int)(before1:Int)(besides1:List Int)(c1:Int)(c2:Int)(c3:Int)(c4:Int)(c5:Int)(c6:List Int)(c7:List aH)(c8:List Int)(m1:List (xV×aH)):Option (Int) :=
 Ha (pX N besides1) fun r2 =>
 Ha (
  Ha (eZ N bowler1 before1 c1 c2 c3 c4 c5 c6 c7 c8 m1) fun(ra4,rb4) =>
  loopN (fun rec3 x=>bU N m1 ra4 rb4 rec3 x.1 x.2.1 x.2.2) N ((0,(besides1.length:Int),r2))
 ) fun(c54,c55) =>
 if decide (c54<c4)then
  Ha (idx c6 bowler1) fun x4 =>
  some x4
 else
  Ha (nz c54) fun _ =>
  some (w64 (Int.tdiv c55 c54))
def jz (N:Nat)(b1:mP)(bowler1:Int)(week1:Int):Option (Int×Int) :=
 Ha (fm N b1 bowler1 week1) fun z2 =>
 match z2 with
 | .inl r2 =>
  if !decide (r2=0)then
   some (0,r2)
  else
   none
 | .inr (ra2,rb2,rc2,rd2,re2,rf2,rg2,rh2,ri2,rj2) =>
  if !decide (ra2=0)then
   some (0,ra2)
  else
   Ha (dS N bowler1 week1 ([]) rb2 rc2 rd2 re2 rf2 rg2 rh2 ri2 rj2) fun r4 =>
   some (r4,0)
def LP (N:Nat)(bowler1:Int)(before1:Int)(c1:Int)(c2:Int)(c3:Int)(c4:Int)(c5:Int)(c6:List Int)(c7:List aH)(c8:List Int)(m1:List (xV×aH)):Option (Int) :=
 Ha (dS N bowler1 before1 ([]) c1 c2 c3 c4 c5 c6 c7 c8 m1) fun r2 =>
 some (min (max 0 (w64 (Int.tdiv (w64 ((w64 (c1-r2))*c2)) 100))) c3)
def iW (N:Nat)(b1:mP)(bowler1:Int)(week1:Int):Option (Int×Int) :=
 Ha (fm N b1 bowler1 week1) fun z2 =>
 match z2 with
 | .inl r2 =>
  if !decide (r2=0)then
   some (0,r2)
  else
   none
 | .inr (ra2,rb2,rc2,rd2,re2,rf2,rg2,rh2,ri2,rj2) =>
  if !decide (ra2=0)then
   some (0,ra2)
  else
   Ha (LP N bowler1 week1 rb2 rc2 rd2 re2 rf2 rg2 rh2 ri2 rj2) fun r4 =>
   some (r4,0)
def lL (N:Nat)(lines1:List (List UInt8))(bowler1:Int)(week1:Int):Option (Int×Int×Int) :=
 Ha (dw N lines1) fun r4 =>
 if !decide (r4=0)then
  none
 else
  Ha (gn N lines1) fun(ra2,rb2) =>
  Ha (fg N bowler1 rb2) fun r8 =>
  if !r8 then
   none
  else
   Ha (eF N rb2) fun r10 =>
   Ha (jz N r10 bowler1 week1) fun(ra4,rb4) =>
   if !decide (rb4=0)then
    none
   else
    Ha (eF N rb2) fun r12 =>
    Ha (iW N r12 bowler1 week1) fun(ra6,rb6) =>
    some (ra4,ra6,rb6)
def dJ (N:Nat)(words6:List Int)(rec5:(Int×Int×(List (List UInt8)))→Option ((List (List UInt8))))(v35:Int)(v36:Int)(l70:List (List UInt8)):Option ((List (List UInt8))) :=
 if decide (v36<v35)then
  Ha (idx words6 v36) fun x48 =>
  Ha (nU N x48) fun r32 =>
  Ha (app N l70 ([r32])) fun l72 =>
  rec5 ((v35,w64 (v36+1),l72))
 else
  some l70
def kC (N:Nat)(words1:List UInt8)(words2:Int)(words3:List UInt8)(words4:Int)(words5:List UInt8)(words6:List Int):Option ((List UInt8)) :=
 Ha (
  Ha (app N ([]) ([words1])) fun l39 =>
  some l39
 ) fun l38 =>
 Ha (
  Ha (nU N words2) fun r18 =>
  Ha (app N l38 ([r18])) fun l42 =>
  some l42
 ) fun l41 =>
 Ha (
  Ha (app N l41 ([words3])) fun l45 =>
  some l45
 ) fun l44 =>
 Ha (
  Ha (nU N words4) fun r20 =>
  Ha (app N l44 ([r20])) fun l48 =>
  some l48
 ) fun l47 =>
 Ha (
  Ha (app N l47 ([words5])) fun l51 =>
  some l51
 ) fun l50 =>
 Ha (
  loopN (fun rec5 x=>dJ N words6 rec5 x.1 x.2.1 x.2.2) N (((words6.length:Int),0,l50))
 ) fun l62 =>
 Ha (pg N l62 ([32]:List UInt8)) fun r34 =>
 some r34
def fM (N:Nat)(s1:List UInt8)(bs1:List UInt8):Option ((List UInt8)) :=
 Ha (cat N s1 ([10]:List UInt8)) fun s2 =>
 Ha (wrS N ((s1++([10]:List UInt8))) bs1) fun(ra1,rb1) =>
 some rb1
def J4 (N:Nat) (l8:List Int):WP ((List Int)×Int) :=
 dO (sortI N l8) fun r4 =>
 ug (r4,0)
def bx (N:Nat) (rec3:((List Int)×(List (xV×aH)))→WP ((List Int)×Int))(l14:List Int)(rem18:List (xV×aH)):WP ((List Int)×Int) :=
 mq rem18 (
  J4 N l14
 ) fun(k12,v18) rem20 =>
 dO (app N l14 ([v18.bX])) fun l15 =>
 rec3 (l15,rem20)
def fp (N:Nat)(b1:mP):WP ((List Int)×Int) :=
 dO (gg N b1) fun z2 =>
 match z2 with
 | .inl r2 =>
  if !decide (r2=0)then
   ug ([],r2)
  else
   wI
 | .inr (ra2,rb2,rc2,rd2,re2,rf2,rg2,rh2,ri2,rj2) =>
  if !decide (ra2=0)then
   ug ([],ra2)
  else
   aG (fun rec3 x=>bx N rec3 x.1 x.2) N ([],rj2)
def gh (N:Nat)(b1:mP):Option ((List Int)×Int):=det (fp N b1)
def jA (N:Nat)(words1:List UInt8)(words2:Int)(words3:List UInt8)(words4:Int)(words5:List UInt8)(words6:Int):Option ((List UInt8)) :=
 Ha (
  Ha (app N ([]) ([words1])) fun l21 =>
  some l21
 ) fun l20 =>
 Ha (
  Ha (nU N words2) fun r8 =>
  Ha (app N l20 ([r8])) fun l24 =>
  some l24
 ) fun l23 =>
 Ha (
  Ha (app N l23 ([words3])) fun l27 =>
  some l27
 ) fun l26 =>
 Ha (
  Ha (nU N words4) fun r10 =>
  Ha (app N l26 ([r10])) fun l30 =>
  some l30
 ) fun l29 =>
 Ha (
  Ha (app N l29 ([words5])) fun l33 =>
  some l33
 ) fun l32 =>
 Ha (
  Ha (nU N words6) fun r12 =>
  Ha (app N l32 ([r12])) fun l36 =>
  some l36
 ) fun l35 =>
 Ha (pg N l35 ([32]:List UInt8)) fun r14 =>
 some r14
def eI (N:Nat)(match1:Int)(first1:Int)(second1:Int)(c1:Int)(c2:Int)(c3:Int)(c4:List ab)(c5:List bh)(m1:List (Int×ab))(l1:List (Ar2 Int)):Option (Int) :=
 Ha (
  Ha (idx l1 match1) fun x4 =>
  if !decide (x4=(Ar2.mk first1 second1))then
   some true
  else
   Ha (mgt m1 match1 ((ab.mk 0 ([]) false))) fun(v8,is4) =>
   some v8.lT
 ) fun v7 =>
 if v7 then
  some (-1)
 else
  Ha (dq N match1 c1 c2 c3 c4 c5 m1 l1) fun r2 =>
  some r2
def C4 (N:Nat)(s1:nS)(c2:Int)(m1:List (aC×aj))(rec3:(Int×(List (Int×Int)))→Option ((List (Int×Int))))(v28:Int)(m21:List (Int×Int)):Option ((List (Int×Int))) :=
 if decide (v28<c2)then
  Ha (
   Ha (mgt m1 (aC.mk s1.dA v28) (aj.mk 0 0)) fun(v32,is24) =>
   if is24 then
    some (mput m21 v28 v32.q8)
   else
    some m21
  ) fun m23 =>
  rec3 ((w64 (v28+1),m23))
 else
  some m21
def dU (N:Nat)(s1:nS)(c1:Int)(c2:Int)(c3:Int)(c4:List ab)(c5:List bh)(m1:List (aC×aj))(m2:List (Int×ab))(l1:List (Ar2 Int)):Option ((List (Int×Int))) :=
 if decide (s1.dA=(-1))then
  some ((mput (([]:List (Int×Int))) s1.mo 0))
 else
  Ha (
   loopN (fun rec3 x=>C4 N s1 c2 m1 rec3 x.1 x.2) N ((0,([]:List (Int×Int))))
  ) fun m13 =>
  some m13
def J5 (N:Nat) (m321:List (aC×aj)):WP ((List (aC×aj))) :=
 ug m321
def cY (N:Nat)(v4697:Int)(v4698:Int)(rec43:(Int×Int×(List (aC×aj)))→WP ((List (aC×aj))))(m588:List (aC×aj)):WP ((List (aC×aj))) :=
 rec43 ((v4697,w64 (v4698+1),m588))
def bi (N:Nat)(rec51:((List (aC×aj))×(List (Int×Int)))→WP ((List (aC×aj))))(rem480:List (Int×Int))(m640:List (aC×aj)):WP ((List (aC×aj))) :=
 rec51 (m640,rem480)
def bj (N:Nat)(v4698:Int)(rec51:((List (aC×aj))×(List (Int×Int)))→WP ((List (aC×aj))))(rem480:List (Int×Int))(m638:List (aC×aj))(x886:Ar2 Int)(cost862:Int)(v5620:Bool):WP ((List (aC×aj))) :=
 if v5620 then
  bi N rec51 rem480 ((mput m638 (aC.mk v4698 x886.a0) (aj.mk cost862 x886.a1)))
 else
  bi N rec51 rem480 m638
def Gp (N:Nat)(v4698:Int)(rec51:((List (aC×aj))×(List (Int×Int)))→WP ((List (aC×aj))))(rem480:List (Int×Int))(m638:List (aC×aj))(x886:Ar2 Int)(cost862:Int):WP ((List (aC×aj))) :=
 dO (mgt m638 (aC.mk v4698 x886.a0) (aj.mk 0 0)) fun(v5618,is862) =>
 if !is862 then
  bj N v4698 rec51 rem480 m638 x886 cost862 true
 else
  bj N v4698 rec51 rem480 m638 x886 cost862 (decide (cost862<v5618.q8))
def bn (N:Nat)(v4698:Int)(rec51:((List (aC×aj))×(List (Int×Int)))→WP ((List (aC×aj))))(rem480:List (Int×Int))(m638:List (aC×aj))(x886:Ar2 Int)(r2034:Int)(v5622:Bool):WP ((List (aC×aj))) :=
 if v5622 then
  dO (gq N ([r2034,1])) fun r2036 =>
  Gp N v4698 rec51 rem480 m638 x886 r2036
 else
  Gp N v4698 rec51 rem480 m638 x886 r2034
def bp (N:Nat)(v4698:Int)(v5481:Int)(rec51:((List (aC×aj))×(List (Int×Int)))→WP ((List (aC×aj))))(v5586:Int)(rem480:List (Int×Int))(r2024:Int)(m638:List (aC×aj))(x886:Ar2 Int)(v5614:Bool):WP ((List (aC×aj))) :=
 if v5614 then
  bi N rec51 rem480 m638
 else
  dO (gq N ([v5481,v5586])) fun r2034 =>
  if decide (r2024=(-1))then
   bn N v4698 rec51 rem480 m638 x886 r2034 (decide (x886.a1<x886.a0))
  else
   bn N v4698 rec51 rem480 m638 x886 r2034 false
def aV (N:Nat)(v4698:Int)(v5481:Int)(rec51:((List (aC×aj))×(List (Int×Int)))→WP ((List (aC×aj))))(v5586:Int)(rem480:List (Int×Int))(r2024:Int)(m638:List (aC×aj))(l1077:List (Ar2 Int)):WP ((List (aC×aj))) :=
 dO (idx l1077 1) fun x886 =>
 if !decide (r2024=(-1))then
  bp N v4698 v5481 rec51 v5586 rem480 r2024 m638 x886 (!decide (r2024=x886.a0))
 else
  bp N v4698 v5481 rec51 v5586 rem480 r2024 m638 x886 false
def bq (N:Nat)(v4698:Int)(v5481:Int)(m636:List (aC×aj))(rec51:((List (aC×aj))×(List (Int×Int)))→WP ((List (aC×aj))))(v5586:Int)(rem480:List (Int×Int))(r2024:Int)(x888:Ar2 Int)(l1081:List (Ar2 Int))(cost864:Int)(v5632:Bool):WP ((List (aC×aj))) :=
 if v5632 then
  aV N v4698 v5481 rec51 v5586 rem480 r2024 ((mput m636 (aC.mk v4698 x888.a0) (aj.mk cost864 x888.a1))) l1081
 else
  aV N v4698 v5481 rec51 v5586 rem480 r2024 m636 l1081
def aY (N:Nat)(v4698:Int)(v5481:Int)(m636:List (aC×aj))(rec51:((List (aC×aj))×(List (Int×Int)))→WP ((List (aC×aj))))(v5586:Int)(rem480:List (Int×Int))(r2024:Int)(x888:Ar2 Int)(l1081:List (Ar2 Int))(cost864:Int):WP ((List (aC×aj))) :=
 dO (mgt m636 (aC.mk v4698 x888.a0) (aj.mk 0 0)) fun(v5630,is864) =>
 if !is864 then
  bq N v4698 v5481 m636 rec51 v5586 rem480 r2024 x888 l1081 cost864 true
 else
  bq N v4698 v5481 m636 rec51 v5586 rem480 r2024 x888 l1081 cost864 (decide (cost864<v5630.q8))
def aZ (N:Nat)(v4698:Int)(v5481:Int)(m636:List (aC×aj))(rec51:((List (aC×aj))×(List (Int×Int)))→WP ((List (aC×aj))))(v5586:Int)(rem480:List (Int×Int))(r2024:Int)(x888:Ar2 Int)(l1081:List (Ar2 Int))(r2038:Int)(v5634:Bool):WP ((List (aC×aj))) :=
 if v5634 then
  dO (gq N ([r2038,1])) fun r2040 =>
  aY N v4698 v5481 m636 rec51 v5586 rem480 r2024 x888 l1081 r2040
 else
  aY N v4698 v5481 m636 rec51 v5586 rem480 r2024 x888 l1081 r2038
def Fa (N:Nat)(v4698:Int)(v5481:Int)(m636:List (aC×aj))(rec51:((List (aC×aj))×(List (Int×Int)))→WP ((List (aC×aj))))(v5586:Int)(rem480:List (Int×Int))(r2024:Int)(x888:Ar2 Int)(v5626:Bool)(l1081:List (Ar2 Int)):WP ((List (aC×aj))) :=
 if v5626 then
  aV N v4698 v5481 rec51 v5586 rem480 r2024 m636 l1081
 else
  dO (gq N ([v5481,v5586])) fun r2038 =>
  if decide (r2024=(-1))then
   aZ N v4698 v5481 m636 rec51 v5586 rem480 r2024 x888 l1081 r2038 (decide (x888.a1<x888.a0))
  else
   aZ N v4698 v5481 m636 rec51 v5586 rem480 r2024 x888 l1081 r2038 false
def aw (N:Nat)(c1:Int)(c2:Int)(c3:Int)(c4:List ab)(c5:List bh)(m1:List (Int×ab))(l1:List (Ar2 Int))(v4698:Int)(rec50:((List (aC×aj))×(List (Int×Int)))→WP ((List (aC×aj))))(k282:Int)(v5481:Int)(rem470:List (Int×Int))(rec51:((List (aC×aj))×(List (Int×Int)))→WP ((List (aC×aj))))(m636:List (aC×aj))(rem478:List (Int×Int)):WP ((List (aC×aj))) :=
 mq rem478 (
  rec50 (m636,rem470)
 ) fun(k288,v5586) rem480 =>
 dO (eI N v4698 k282 k288 c1 c2 c3 c4 c5 m1 l1) fun r2024 =>
 dO (idx ([(Ar2.mk k282 k288),(Ar2.mk k288 k282)]) 0) fun x888 =>
 if !decide (r2024=(-1))then
  Fa N v4698 v5481 m636 rec51 v5586 rem480 r2024 x888 (!decide (r2024=x888.a0)) ([(Ar2.mk k282 k288),(Ar2.mk k288 k282)])
 else
  Fa N v4698 v5481 m636 rec51 v5586 rem480 r2024 x888 false ([(Ar2.mk k282 k288),(Ar2.mk k288 k282)])
def au (N:Nat)(c1:Int)(c2:Int)(c3:Int)(c4:List ab)(c5:List bh)(m1:List (Int×ab))(l1:List (Ar2 Int))(v4697:Int)(v4698:Int)(rec43:(Int×Int×(List (aC×aj)))→WP ((List (aC×aj))))(x816:bh)(rec50:((List (aC×aj))×(List (Int×Int)))→WP ((List (aC×aj))))(m624:List (aC×aj))(rem468:List (Int×Int)):WP ((List (aC×aj))) :=
 mq rem468 (
  cY N v4697 v4698 rec43 m624
 ) fun(k282,v5481) rem470 =>
 dO (dU N x816.yU c1 c2 c3 c4 c5 m624 m1 l1) fun r1986 =>
 aG (fun rec51 x=>aw N c1 c2 c3 c4 c5 m1 l1 v4698 rec50 k282 v5481 rem470 rec51 x.1 x.2) N (m624,r1986)
def Ej (N:Nat)(c1:Int)(c2:Int)(c3:Int)(c4:List ab)(c5:List bh)(m1:List (Int×ab))(l1:List (Ar2 Int))(rec43:(Int×Int×(List (aC×aj)))→WP ((List (aC×aj))))(v4697:Int)(v4698:Int)(m535:List (aC×aj)):WP ((List (aC×aj))) :=
 if decide (v4698<v4697)then
  dO (idx c5 v4698) fun x816 =>
  dO (dU N x816.rx c1 c2 c3 c4 c5 m535 m1 l1) fun r1872 =>
  aG (fun rec50 x=>au N c1 c2 c3 c4 c5 m1 l1 v4697 v4698 rec43 x816 rec50 x.1 x.2) N (m535,r1872)
 else
  J5 N m535
def cB (N:Nat)(c1:Int)(c2:Int)(c3:Int)(c4:List ab)(c5:List bh)(m1:List (Int×ab))(l1:List (Ar2 Int)):WP ((List (aC×aj))) :=
 aG (fun rec43 x=>Ej N c1 c2 c3 c4 c5 m1 l1 rec43 x.1 x.2.1 x.2.2) N (((c5.length:Int),0,([]:List (aC×aj))))
def gL (N:Nat)(c1:Int)(c2:Int)(c3:Int)(c4:List ab)(c5:List bh)(m1:List (Int×ab))(l1:List (Ar2 Int)):Option (Int) :=
 some (w64 ((c5.length:Int)-1))
def cg (N:Nat) (l18:List Int):WP ((List Int)) :=
 ug l18
def bG (N:Nat)(v28:Int)(rec3:(Int×(List Int))→WP ((List Int)))(l33:List Int):WP ((List Int)) :=
 rec3 ((w64 (v28+1),l33))
def aO (N:Nat)(c1:Int)(c2:Int)(c3:Int)(c4:List ab)(c5:List bh)(m1:List (Int×ab))(l1:List (Ar2 Int))(r2:List (aC×aj))(rec3:(Int×(List Int))→WP ((List Int)))(v28:Int)(l30:List Int):WP ((List Int)) :=
 if decide (v28<c2)then
  dO (gL N c1 c2 c3 c4 c5 m1 l1) fun r26 =>
  dO (mgt r2 (aC.mk r26 v28) (aj.mk 0 0)) fun(v32,is24) =>
  if is24 then
   dO (app N l30 ([v28])) fun l34 =>
   bG N v28 rec3 l34
  else
   bG N v28 rec3 l30
 else
  cg N l30
def cC (N:Nat)(c1:Int)(c2:Int)(c3:Int)(c4:List ab)(c5:List bh)(m1:List (Int×ab))(l1:List (Ar2 Int)):WP ((List Int)) :=
 bindW (cB N c1 c2 c3 c4 c5 m1 l1) fun r2 =>
 aG (fun rec3 x=>aO N c1 c2 c3 c4 c5 m1 l1 r2 rec3 x.1 x.2) N (0,[])
def fq (N:Nat)(c1:Int)(c2:Int)(c3:Int)(c4:List ab)(c5:List bh)(m1:List (Int×ab))(l1:List (Ar2 Int)):Option ((List Int)):=det (cC N c1 c2 c3 c4 c5 m1 l1)
def eM (N:Nat)(c1:gu):Option ((List Int)×Int) :=
 Ha (ig N c1) fun z2 =>
 match z2 with
 | .inl r2 =>
  if !decide (r2=0)then
   some ([],r2)
  else
   none
 | .inr (ra2,rb2,rc2,rd2,re2,rf2,rg2,rh2) =>
  if !decide (ra2=0)then
   some ([],ra2)
  else
   Ha (fq N rb2 rc2 rd2 re2 rf2 rg2 rh2) fun r4 =>
   some (r4,0)
def cP (N:Nat)(words2:List Int)(rec5:(Int×Int×(List (List UInt8)))→Option ((List (List UInt8))))(v35:Int)(v36:Int)(l46:List (List UInt8)):Option ((List (List UInt8))) :=
 if decide (v36<v35)then
  Ha (idx words2 v36) fun x48 =>
  Ha (nU N x48) fun r24 =>
  Ha (app N l46 ([r24])) fun l48 =>
  rec5 ((v35,w64 (v36+1),l48))
 else
  some l46
def iX (N:Nat)(words1:List UInt8)(words2:List Int):Option ((List UInt8)) :=
 Ha (
  Ha (app N ([]) ([words1])) fun l27 =>
  some l27
 ) fun l26 =>
 Ha (
  loopN (fun rec5 x=>cP N words2 rec5 x.1 x.2.1 x.2.2) N (((words2.length:Int),0,l26))
 ) fun l38 =>
 Ha (pg N l38 ([32]:List UInt8)) fun r26 =>
 some r26
def dK (N:Nat)(rb2:aL)(rec3:(Int×Int×(List UInt8))→Option ((List UInt8)))(v17:Int)(v18:Int)(bs19:List UInt8):Option ((List UInt8)) :=
 if decide (v18<v17)then
  Ha (
   Ha (idx rb2.kZ.ag v18) fun x24 =>
   if !decide (x24.af=(-1))then
    Ha (
     Ha (iP N) fun r50 =>
     Ha (gm N r50 x24.ar) fun(ra26,rb26) =>
     some ra26
    ) fun g24 =>
    Ha (kC N ([108,97,110,101]:List UInt8) v18 ([98,111,119,108,101,114]:List UInt8) x24.af ([99,111,117,110,116,115]:List UInt8) g24.vg) fun r51 =>
    Ha (fM N r51 bs19) fun r52 =>
    some r52
   else
    some bs19
  ) fun bs21 =>
  rec3 ((v17,w64 (v18+1),bs21))
 else
  some bs19
def dL (N:Nat)(rb2:aL)(ra28:List Int)(v216:Int)(rec29:(Int×Int×Int)→Option (Int))(many250:Int)(v251:Int)(v252:Int):Option (Int) :=
 if decide (v252<v251)then
  Ha (
   Ha (idx ra28 v252) fun x622 =>
   Ha (idx rb2.kZ.aD (w64 (x622-1))) fun x624 =>
   if decide (x624.af=v216)then
    some (w64 (many250+1))
   else
    some many250
  ) fun many252 =>
  rec29 ((many252,v251,w64 (v252+1)))
 else
  some many250
def dM (N:Nat)(rb2:aL)(ra28:List Int)(rec25:(Int×Int×(List UInt8))→Option ((List UInt8)))(v215:Int)(v216:Int)(bs35:List UInt8):Option ((List UInt8)) :=
 if decide (v216<v215)then
  Ha (
   Ha (idx rb2.kZ.iZ v216) fun x576 =>
   Ha (
    loopN (fun rec29 x=>dL N rb2 ra28 v216 rec29 x.1 x.2.1 x.2.2) N ((0,(ra28.length:Int),0))
   ) fun many242 =>
   Ha (jA N ([98,111,119,108,101,114]:List UInt8) v216 ([107,101,112,116]:List UInt8) (x576.length:Int) ([115,104,101,101,116,115]:List UInt8) many242) fun r77 =>
   Ha (fM N r77 bs35) fun r78 =>
   some r78
  ) fun bs36 =>
  rec25 ((v215,w64 (v216+1),bs36))
 else
  some bs35
def gM (N:Nat)(lines1:List (List UInt8)):Option ((List UInt8)×Int) :=
 Ha (dw N lines1) fun r4 =>
 if !decide (r4=0)then
  some ((([]:List UInt8),r4))
 else
  Ha (gn N lines1) fun(ra2,rb2) =>
  Ha (
   loopN (fun rec3 x=>dK N rb2 rec3 x.1 x.2.1 x.2.2) N (((rb2.kZ.ag.length:Int),0,([]:List UInt8)))
  ) fun bs11 =>
  Ha (eF N rb2) fun r54 =>
  Ha (gh N r54) fun(ra28,rb28) =>
  Ha (
   loopN (fun rec25 x=>dM N rb2 ra28 rec25 x.1 x.2.1 x.2.2) N (((rb2.kZ.iZ.length:Int),0,bs11))
  ) fun bs29 =>
  Ha (
   if decide (1<(rb2.kZ.az.length:Int))then
    Ha (jB N rb2) fun r84 =>
    Ha (eM N r84) fun(ra32,rb32) =>
    Ha (iX N ([100,117,101,108,115]:List UInt8) ra32) fun r85 =>
    Ha (fM N r85 bs29) fun r86 =>
    some r86
   else
    some bs29
  ) fun bs38 =>
  Ha (w8 N bs38) fun r88 =>
  some (r88,0)
def bM (N:Nat) (rec3:(Int×(List Int)×Int×Int)→Option (Int))(check11:Int)(v26:List Int)(v27:Int)(v28:Int):Option (Int) :=
 if decide (v28<v27)then
  Ha (idx v26 v28) fun x24 =>
  rec3 ((w64 (check11+(w64 ((w64 (v28+2))*(w64 ((w64 x24)+1))))),v26,v27,w64 (v28+1)))
 else
  some check11
def MZ (N:Nat)(s1:List UInt8)(index1:Int):Option (wC) :=
 Ha (
  loopN (fun rec3 x=>bM N rec3 x.1 x.2.1 x.2.2.1 x.2.2.2) N ((w64 (13*(w64 (index1+1))),bytesI s1,((bytesI s1).length:Int),0))
 ) fun check6 =>
 some ((wC.mk (s1.length:Int) (Int.tmod check6 99989)))
def aF (N:Nat) (rec3:(Int×Int×(Ar5 Int))→Option ((Ar5 Int)))(n10:Int)(i10:Int)(b31:Ar5 Int):Option ((Ar5 Int)) :=
 if decide (0≤i10)then
  Ha (
   if decide (i10=0)then
    some ((Ar5.mk (Go.IntKind.wrap .u8 (w64 (48+(Int.tmod n10 10)))) b31.a1 b31.a2 b31.a3 b31.a4))
   else
    if decide (i10=1)then
     some ((Ar5.mk b31.a0 (Go.IntKind.wrap .u8 (w64 (48+(Int.tmod n10 10)))) b31.a2 b31.a3 b31.a4))
    else
     if decide (i10=2)then
      some ((Ar5.mk b31.a0 b31.a1 (Go.IntKind.wrap .u8 (w64 (48+(Int.tmod n10 10)))) b31.a3 b31.a4))
     else
      if decide (i10=3)then
       some ((Ar5.mk b31.a0 b31.a1 b31.a2 (Go.IntKind.wrap .u8 (w64 (48+(Int.tmod n10 10)))) b31.a4))
      else
       if decide (i10=4)then
        some ((Ar5.mk b31.a0 b31.a1 b31.a2 b31.a3 (Go.IntKind.wrap .u8 (w64 (48+(Int.tmod n10 10))))))
       else
        none
  ) fun b35 =>
  rec3 ((w64 (Int.tdiv n10 10),w64 (i10-1),b35))
 else
  some b31
def dm (N:Nat)(n1:Int)(many1:Int):Option ((List UInt8)) :=
 Ha (
  loopN (fun rec3 x=>aF N rec3 x.1 x.2.1 x.2.2) N ((n1,w64 (many1-1),(Ar5.mk 0 0 0 0 0)))
 ) fun b19 =>
 Ha (slc ([b19.a0,b19.a1,b19.a2,b19.a3,b19.a4]:List Int) 0 many1) fun l2 =>
 some (mC l2)
def MM (N:Nat)(hv1:wC):Option ((List UInt8)) :=
 Ha (dm N hv1.fLong 3) fun r3 =>
 Ha (cat N ([60]:List UInt8) r3) fun s5 =>
 Ha (cat N ((([60]:List UInt8)++r3)) ([124]:List UInt8)) fun s6 =>
 Ha (dm N hv1.fCheck 5) fun r4 =>
 Ha (cat N ((((([60]:List UInt8)++r3))++([124]:List UInt8))) r4) fun s7 =>
 Ha (cat N ((((((([60]:List UInt8)++r3))++([124]:List UInt8)))++r4)) ([62]:List UInt8)) fun s8 =>
 some ((((((((([60]:List UInt8)++r3))++([124]:List UInt8)))++r4))++([62]:List UInt8)))
def cH (N:Nat)(lines1:List (List UInt8))(rec3:(Int×Int×(List Int))→Option ((List Int)))(v17:Int)(v18:Int)(l19:List Int):Option ((List Int)) :=
 if decide (v18<v17)then
  Ha (idx lines1 v18) fun x24 =>
  Ha (MZ N x24 v18) fun r23 =>
  Ha (MM N r23) fun r24 =>
  Ha (cat N r24 x24) fun s23 =>
  Ha (cat N (r24++x24) ([10]:List UInt8)) fun s24 =>
  Ha (app N l19 (bytesI (((r24++x24)++([10]:List UInt8))))) fun l21 =>
  rec3 ((v17,w64 (v18+1),l21))
 else
  some l19
def jE (N:Nat)(lines1:List (List UInt8)):Option ((List Int)) :=
 Ha (
  loopN (fun rec3 x=>cH N lines1 rec3 x.1 x.2.1 x.2.2) N (((lines1.length:Int),0,[]))
 ) fun l11 =>
 some l11
def gr (N:Nat)(lines1:List (List UInt8)):Option ((List Int)×Int) :=
 Ha (dw N lines1) fun r4 =>
 if !decide (r4=0)then
  none
 else
  Ha (jE N lines1) fun r6 =>
  some (r6,0)
def iY (N:Nat)   : Option (Bool) :=
 some true
def eN (N:Nat)(a1:List Int)(b1:List Int)(rec3:(Int)→Option (Bool))(i8:Int):Option (Bool) :=
 if decide (i8<(a1.length:Int))then
  Ha (idx a1 i8) fun x47 =>
  Ha (idx b1 i8) fun x48 =>
  if !decide (x47=x48)then
   some false
  else
   rec3 (w64 (i8+1))
 else
  iY N
def lN (N:Nat)(a1:List Int)(b1:List Int):Option (Bool) :=
 if !decide ((a1.length:Int)=(b1.length:Int))then
  some false
 else
  loopN (fun rec3 x=>eN N a1 b1 rec3 x) N 0
def cL (N:Nat)  : Option (Bool) :=
 Ha (gl N) fun r2 =>
 Ha (app N r2 ([([98,97,108,108,32,49,32,50]:List UInt8),([111,112,101,110,32,49,32,49]:List UInt8),([99,108,111,115,101,32,49]:List UInt8),([99,108,111,115,101,32,49]:List UInt8)])) fun l2 =>
 Ha (nE N l2) fun(ra2,rb2,rc2) =>
 Ha (gl N) fun r4 =>
 Ha (slc r4 0 7) fun l4 =>
 Ha (lJ N l4 1) fun(ra4,rb4,rc4,rd2) =>
 Ha (gl N) fun r6 =>
 Ha (lL N r6 0 1) fun(ra6,rb6,rc6) =>
 Ha (gl N) fun r8 =>
 Ha (slc r8 0 7) fun l6 =>
 Ha (gM N l6) fun(ra8,rb8) =>
 Ha (gr N ([([97]:List UInt8)])) fun(ra10,rb10) =>
 Ha (
  if decide (rc2=0)then
   if decide ((rb2.length:Int)=12)then
    Ha (idx rb2 7) fun x6 =>
    if decide (x6=0)then
     Ha (idx rb2 8) fun x7 =>
     if decide (x7=10)then
      Ha (idx rb2 9) fun x8 =>
      if decide (x8=6)then
       Ha (idx rb2 10) fun x9 =>
       if decide (x9=0)then
        Ha (idx rb2 11) fun x10 =>
        if decide (x10=8)then
         if decide (rd2=0)then
          Ha (lN N ra4 ([20,34])) fun r10 =>
          if r10 then
           if decide (rb4=38)then
            if decide (rc4=54)then
             if decide (rc6=0)then
              if decide (ra6=70)then
               if decide (rb6=16)then
                if decide (rb8=0)then
                 if decide (ra8=([108,97,110,101,32,49,32,98,111,119,108,101,114,32,48,32,99,111,117,110,116,115,32,50,48,32,51,52,10,98,111,119,108,101,114,32,48,32,107,101,112,116,32,48,32,115,104,101,101,116,115,32,48,10,98,111,119,108,101,114,32,49,32,107,101,112,116,32,48,32,115,104,101,101,116,115,32,48,10,100,117,101,108,115,32,48,32,49,10]:List UInt8))then
                  if decide (rb10=0)then
                   some (decide ((mC ra10)=([60,48,48,49,124,48,48,50,48,57,62,97,10]:List UInt8)))
                  else
                   some false
                 else
                  some false
                else
                 some false
               else
                some false
              else
               some false
             else
              some false
            else
             some false
           else
            some false
          else
           some false
         else
          some false
        else
         some false
       else
        some false
      else
       some false
     else
      some false
    else
     some false
   else
    some false
  else
   some false
 ) fun v2 =>
 some v2
def iw (N:Nat)(l1:List (List UInt8)):Option ((List (List UInt8))) :=
 Ha (app N ([]) l1) fun l3 =>
 some l3
def fc (N:Nat)(lines1:List (List UInt8))  : Option (Bool) :=
 some (decide ((lines1.length:Int)≤50))
def bf (N:Nat)(lines1:List (List UInt8))(rec3:(Int)→Option (Bool))(i8:Int):Option (Bool) :=
 if decide (i8<(lines1.length:Int))then
  Ha (idx lines1 i8) fun x24 =>
  if decide (200<(x24.length:Int))then
   some false
  else
   rec3 (w64 (i8+1))
 else
  fc N lines1
def gz (N:Nat)(lines1:List (List UInt8)):Option (Bool) :=
 loopN (fun rec3 x=>bf N lines1 rec3 x) N 0
def Dg (N:Nat)(lines1:List (List UInt8)):Option (Int) :=
 Ha (gz N lines1) fun r4 =>
 if !r4 then
  some 3
 else
  some 0
def DJ (N:Nat)  : Option (bZ) :=
 some ((bZ.mk ([]) (Ar4.mk (yE.mk (-1) ([])) (yE.mk (-1) ([])) (yE.mk (-1) ([])) (yE.mk (-1) ([]))) ([]) ([]) ([]) ([])))
def CF (N:Nat)(less2:Bool)(n6:Int):Option (Int×Bool) :=
 Ha (
  if less2 then
   some (w64 (-n6))
  else
   some n6
 ) fun n8 =>
 some (n8,true)
def Cm (N:Nat)(s1:List UInt8)(at10:Int)(n12:Int)(rec3:(Int×Int)→Option (Int×Bool))  : Option (Int×Bool) :=
 Ha (
  Ha (idx s1 at10) fun c67 =>
  if decide ((c67.toNat:Int)<48)then
   some true
  else
   some (decide (57<(c67.toNat:Int)))
 ) fun v56 =>
 if v56 then
  some (0,false)
 else
  Ha (idx s1 at10) fun c68 =>
  rec3 ((w64 (at10+1),w64 ((w64 (10*n12))+(w64 (Go.IntKind.wrap .u8 ((c68.toNat:Int)-48))))))
def kW (N:Nat)(s1:List UInt8)(less2:Bool)(rec3:(Int×Int)→Option (Int×Bool))(at10:Int)(n12:Int):Option (Int×Bool) :=
 if decide (at10<(s1.length:Int))then
  Cm N s1 at10 n12 rec3
 else
  CF N less2 n12
def yW (N:Nat)(s1:List UInt8):Option (Int×Bool) :=
 Ha (
  Ha (
   if decide (0<(s1.length:Int))then
    Ha (idx s1 0) fun c4 =>
    some (decide ((c4.toNat:Int)=45))
   else
    some false
  ) fun v4 =>
  if v4 then
   some (true,1)
  else
   some (false,0)
 ) fun(less2,at2) =>
 Ha (
  if decide ((s1.length:Int)=at2)then
   some true
  else
   if decide (9<(w64 ((s1.length:Int)-at2)))then
    some true
   else
    Ha (idx s1 at2) fun c8 =>
    if decide ((c8.toNat:Int)=48)then
     some (decide (1<(s1.length:Int)))
    else
     some false
 ) fun v8 =>
 if v8 then
  some (0,false)
 else
  loopN (fun rec3 x=>kW N s1 less2 rec3 x.1 x.2) N (at2,0)
def y7 (N:Nat)(line1:List UInt8)(rec3:(Int×Int×(List (List UInt8)))→Option ((List (List UInt8))))(from18:Int)(i8:Int)(l39:List (List UInt8)):Option ((List (List UInt8))) :=
 if decide (i8≤(line1.length:Int))then
  Ha (
   Ha (
    if decide (i8=(line1.length:Int))then
     some true
    else
     Ha (idx line1 i8) fun c24 =>
     some (decide ((c24.toNat:Int)=32))
   ) fun v24 =>
   if v24 then
    Ha (Ib line1 from18 i8) fun _ =>
    Ha (app N l39 ([IY line1 from18 i8])) fun l45 =>
    some ((w64 (i8+1),l45))
   else
    some (from18,l39)
  ) fun(from20,l43) =>
  rec3 ((from20,w64 (i8+1),l43))
 else
  some l39
def CW (N:Nat)(l23:List (List UInt8))(l56:List Int):Option ((List UInt8)×(List Int)×Bool) :=
 Ha (idx l23 0) fun x18 =>
 some (x18,l56,true)
def xT (N:Nat)(l23:List (List UInt8))(rec5:(Int×(List Int))→Option ((List UInt8)×(List Int)×Bool))(i16:Int)(l64:List Int):Option ((List UInt8)×(List Int)×Bool) :=
 if decide (i16<(l23.length:Int))then
  Ha (idx l23 i16) fun x30 =>
  Ha (yW N x30) fun(ra24,rb24) =>
  if !rb24 then
   some ((([]:List UInt8),[],false))
  else
   Ha (app N l64 ([ra24])) fun l66 =>
   rec5 ((w64 (i16+1),l66))
 else
  CW N l23 l64
def Cz (N:Nat)(line1:List UInt8):Option ((List UInt8)×(List Int)×Bool) :=
 Ha (
  loopN (fun rec3 x=>y7 N line1 rec3 x.1 x.2.1 x.2.2) N (0,0,[])
 ) fun l23 =>
 Ha (
  Ha (idx l23 0) fun x4 =>
  Ha (
   if decide (x4=([98,111,119,108,101,114]:List UInt8))then
    some (decide (x4=([98,111,119,108,101,114]:List UInt8)))
   else
    if decide (x4=([98,97,99,107]:List UInt8))then
     some (decide (x4=([98,97,99,107]:List UInt8)))
    else
     if decide (x4=([99,108,111,115,101]:List UInt8))then
      some (decide (x4=([99,108,111,115,101]:List UInt8)))
     else
      if decide (x4=([115,116,114,105,107,101]:List UInt8))then
       some (decide (x4=([115,116,114,105,107,101]:List UInt8)))
      else
       if decide (x4=([100,117,101,108]:List UInt8))then
        some (decide (x4=([100,117,101,108]:List UInt8)))
       else
        some (decide (x4=([100,111,117,98,116]:List UInt8)))
  ) fun v30 =>
  if v30 then
   some 1
  else
   Ha (
    if decide (x4=([111,112,101,110]:List UInt8))then
     some (decide (x4=([111,112,101,110]:List UInt8)))
    else
     if decide (x4=([98,97,108,108]:List UInt8))then
      some (decide (x4=([98,97,108,108]:List UInt8)))
     else
      some (decide (x4=([115,104,101,101,116]:List UInt8)))
   ) fun v32 =>
   if v32 then
    some 2
   else
    some (-1)
 ) fun many2 =>
 if !decide ((l23.length:Int)=(w64 (many2+1)))then
  some ((([]:List UInt8),[],false))
 else
  loopN (fun rec5 x=>xT N l23 rec5 x.1 x.2) N (1,[])
def Bw (N:Nat)(n1:Int)(low1:Int)(high1:Int):Option (Bool) :=
 Ha (
  if decide (low1≤n1)then
   some (decide (n1≤high1))
  else
   some false
 ) fun v2 =>
 some v2
def CZ (N:Nat)(s1:bZ)(average1:Int):Option (bZ×Int) :=
 Ha (Bw N average1 0 300) fun r4 =>
 if !r4 then
  some (s1,2)
 else
  if decide (8≤(s1.az.length:Int))then
   some (s1,3)
  else
   if decide (0<(s1.aP.length:Int))then
    some (s1,8)
   else
    Ha (app N ([]) s1.az) fun l3 =>
    Ha (app N l3 ([average1])) fun l4 =>
    Ha (app N ([]) s1.iZ) fun l7 =>
    Ha (app N l7 ([[]])) fun l8 =>
    some (((bZ.mk l4 s1.ag l8 s1.aD s1.ak s1.aP),0))
def Du (N:Nat)(s1:bZ)(lane1:Int)(bowler1:Int):Option (bZ×Int) :=
 Ha (
  Ha (Bw N lane1 0 3) fun r7 =>
  if !r7 then
   some true
  else
   Ha (Bw N bowler1 0 (w64 ((s1.az.length:Int)-1))) fun r8 =>
   some (!r8)
 ) fun v4 =>
 if v4 then
  some (s1,7)
 else
  Ha (
   if decide (s1.ag.a0.af=bowler1)then
    some true
   else
    if decide (0=lane1)then
     some (decide (0≤s1.ag.a0.af))
    else
     some false
  ) fun v24 =>
  if v24 then
   some (s1,6)
  else
   Ha (
    if decide (s1.ag.a1.af=bowler1)then
     some true
    else
     if decide (1=lane1)then
      some (decide (0≤s1.ag.a1.af))
     else
      some false
   ) fun v28 =>
   if v28 then
    some (s1,6)
   else
    Ha (
     if decide (s1.ag.a2.af=bowler1)then
      some true
     else
      if decide (2=lane1)then
       some (decide (0≤s1.ag.a2.af))
      else
       some false
    ) fun v32 =>
    if v32 then
     some (s1,6)
    else
     Ha (
      if decide (s1.ag.a3.af=bowler1)then
       some true
      else
       if decide (3=lane1)then
        some (decide (0≤s1.ag.a3.af))
       else
        some false
     ) fun v36 =>
     if v36 then
      some (s1,6)
     else
      Ha (
       if decide (lane1=0)then
        some (bowler1,[],s1.ag.a1.af,s1.ag.a1.ar,s1.ag.a2.af,s1.ag.a2.ar,s1.ag.a3.af,s1.ag.a3.ar)
       else
        if decide (lane1=1)then
         some (s1.ag.a0.af,s1.ag.a0.ar,bowler1,[],s1.ag.a2.af,s1.ag.a2.ar,s1.ag.a3.af,s1.ag.a3.ar)
        else
         if decide (lane1=2)then
          some (s1.ag.a0.af,s1.ag.a0.ar,s1.ag.a1.af,s1.ag.a1.ar,bowler1,[],s1.ag.a3.af,s1.ag.a3.ar)
         else
          if decide (lane1=3)then
           some (s1.ag.a0.af,s1.ag.a0.ar,s1.ag.a1.af,s1.ag.a1.ar,s1.ag.a2.af,s1.ag.a2.ar,bowler1,[])
          else
           none
      ) fun(c9,c10,c11,c12,c13,c14,c15,c16) =>
      some (((bZ.mk s1.az (Ar4.mk (yE.mk c9 c10) (yE.mk c11 c12) (yE.mk c13 c14) (yE.mk c15 c16)) s1.iZ s1.aD s1.ak s1.aP),0))
def Dh (N:Nat)  : Option (bW) :=
 some (bW.mk 3 10 2 10)
def DK (N:Nat)(l1:bW):Option (nT) :=
 some (nT.mk 0 0 l1.gV true l1.ar)
def Ef (N:Nat)(n1:Int)(low1:Int)(high1:Int):Option (Bool) :=
 Ha (
  if decide (low1≤n1)then
   some (decide (n1≤high1))
  else
   some false
 ) fun v2 =>
 some v2
def Dv (N:Nat)(l1:bW)(s1:nT)(ball1:Int):Option (Bool) :=
 Ha (
  if decide (s1.dI<l1.bv)then
   Ha (Ef N ball1 (-1) s1.cw) fun r2 =>
   some r2
  else
   some false
 ) fun v2 =>
 some v2
def Di (N:Nat)(l1:bW)(s1:nT)(ball1:Int):Option (nT×Int) :=
 Ha (
  if decide (ball1<0)then
   some 0
  else
   some ball1
 ) fun n2 =>
 Ha (
  Ha (
   if s1.ww then
    some (decide (l1.sd≤n2))
   else
    some false
  ) fun v4 =>
  if v4 then
   some l1.gV
  else
   some n2
 ) fun n4 =>
 if decide (s1.dI<(w64 (l1.bv-1)))then
  Ha (
   Ha (
    if decide ((w64 (s1.cw-n4))=0)then
     some ((true,(nT.mk s1.dI (w64 (s1.lS+1)) (w64 (s1.cw-n4)) false s1.vz)))
    else
     some ((decide ((w64 (s1.lS+1))=l1.ar),(nT.mk s1.dI (w64 (s1.lS+1)) (w64 (s1.cw-n4)) false s1.vz)))
   ) fun(v12,out12) =>
   if v12 then
    some ((nT.mk (w64 (s1.dI+1)) 0 l1.gV true l1.ar))
   else
    some out12
  ) fun out10 =>
  some (out10,n4)
 else
  Ha (
   Ha (
    if decide ((w64 (s1.cw-n4))=0)then
     some ((decide ((w64 (s1.lS+1))<3),(nT.mk s1.dI (w64 (s1.lS+1)) (w64 (s1.cw-n4)) false s1.vz)))
    else
     some ((false,(nT.mk s1.dI (w64 (s1.lS+1)) (w64 (s1.cw-n4)) false s1.vz)))
   ) fun(v16,out18) =>
   if v16 then
    some (nT.mk out18.dI out18.lS out18.cw out18.ww 3)
   else
    some out18
  ) fun out16 =>
  if decide (out16.lS=out16.vz)then
   some (((nT.mk l1.bv 0 l1.gV true l1.ar),n4))
  else
   Ha (
    if decide (out16.cw=0)then
     some (nT.mk out16.dI out16.lS l1.gV true out16.vz)
    else
     some out16
   ) fun out20 =>
   some (out20,n4)
def CG (N:Nat)(l1:bW)(sheet1:List Int)(rec3:(Int×nT×(List pf))→Option (nT×(List pf)))(i8:Int)(s9:nT)(l30:List pf):Option (nT×(List pf)) :=
 Ha (
  if decide (i8<(sheet1.length:Int))then
   Ha (idx sheet1 i8) fun x44 =>
   Ha (Dv N l1 s9 x44) fun r26 =>
   some r26
  else
   some false
 ) fun v24 =>
 if v24 then
  Ha (
   Ha (idx sheet1 i8) fun x48 =>
   Ha (Di N l1 s9 x48) fun(ra24,rb24) =>
   some (rb24,ra24)
  ) fun(n26,next24) =>
  Ha (app N l30 ([(pf.mk s9.dI n26)])) fun l34 =>
  rec3 ((w64 (i8+1),next24,l34))
 else
  some (s9,l30)
def Ct (N:Nat)(l1:bW)(sheet1:List Int):Option (nT×(List pf)) :=
 Ha (DK N l1) fun r2 =>
 Ha (
  loopN (fun rec3 x=>CG N l1 sheet1 rec3 x.1 x.2.1 x.2.2) N (0,r2,[])
 ) fun(s5,l18) =>
 some (s5,l18)
def DX (N:Nat)(l1:bW)(sheet1:List Int):Option (Bool) :=
 Ha (Ct N l1 sheet1) fun(ra2,rb2) =>
 some (decide ((rb2.length:Int)=(sheet1.length:Int)))
def Dw (N:Nat)(s1:bZ)(lane1:Int)(pins1:Int):Option (bZ×Int) :=
 Ha (Bw N lane1 0 3) fun r4 =>
 if !r4 then
  some (s1,7)
 else
  Ha (
   if decide (lane1=0)then
    some (decide (s1.ag.a0.af<0))
   else
    if decide (lane1=1)then
     some (decide (s1.ag.a1.af<0))
    else
     if decide (lane1=2)then
      some (decide (s1.ag.a2.af<0))
     else
      if decide (lane1=3)then
       some (decide (s1.ag.a3.af<0))
      else
       none
  ) fun v4 =>
  if v4 then
   some (s1,8)
  else
   Ha (
    if decide (lane1=0)then
     Ha (app N ([]) s1.ag.a0.ar) fun l11 =>
     Ha (app N l11 ([pins1])) fun l12 =>
     some l12
    else
     if decide (lane1=1)then
      Ha (app N ([]) s1.ag.a1.ar) fun l13 =>
      Ha (app N l13 ([pins1])) fun l14 =>
      some l14
     else
      if decide (lane1=2)then
       Ha (app N ([]) s1.ag.a2.ar) fun l15 =>
       Ha (app N l15 ([pins1])) fun l16 =>
       some l16
      else
       if decide (lane1=3)then
        Ha (app N ([]) s1.ag.a3.ar) fun l17 =>
        Ha (app N l17 ([pins1])) fun l18 =>
        some l18
       else
        none
   ) fun l10 =>
   Ha (Dh N) fun r11 =>
   Ha (DX N r11 l10) fun r12 =>
   if !r12 then
    some (s1,10)
   else
    if decide (lane1=0)then
     some (((bZ.mk s1.az (Ar4.mk (yE.mk s1.ag.a0.af l10) s1.ag.a1 s1.ag.a2 s1.ag.a3) s1.iZ s1.aD s1.ak s1.aP),0))
    else
     if decide (lane1=1)then
      some (((bZ.mk s1.az (Ar4.mk s1.ag.a0 (yE.mk s1.ag.a1.af l10) s1.ag.a2 s1.ag.a3) s1.iZ s1.aD s1.ak s1.aP),0))
     else
      if decide (lane1=2)then
       some (((bZ.mk s1.az (Ar4.mk s1.ag.a0 s1.ag.a1 (yE.mk s1.ag.a2.af l10) s1.ag.a3) s1.iZ s1.aD s1.ak s1.aP),0))
      else
       if decide (lane1=3)then
        some (((bZ.mk s1.az (Ar4.mk s1.ag.a0 s1.ag.a1 s1.ag.a2 (yE.mk s1.ag.a3.af l10)) s1.iZ s1.aD s1.ak s1.aP),0))
       else
        none
def Dx (N:Nat)(s1:bZ)(lane1:Int):Option (bZ×Int) :=
 Ha (Bw N lane1 0 3) fun r4 =>
 if !r4 then
  some (s1,7)
 else
  Ha (
   if decide (lane1=0)then
    some (s1.ag.a0.ar.length:Int)
   else
    if decide (lane1=1)then
     some (s1.ag.a1.ar.length:Int)
    else
     if decide (lane1=2)then
      some (s1.ag.a2.ar.length:Int)
     else
      if decide (lane1=3)then
       some (s1.ag.a3.ar.length:Int)
      else
       none
  ) fun n2 =>
  Ha (
   if decide (lane1=0)then
    if decide (s1.ag.a0.af<0)then
     some true
    else
     some (decide (n2=0))
   else
    if decide (lane1=1)then
     if decide (s1.ag.a1.af<0)then
      some true
     else
      some (decide (n2=0))
    else
     if decide (lane1=2)then
      if decide (s1.ag.a2.af<0)then
       some true
      else
       some (decide (n2=0))
     else
      if decide (lane1=3)then
       if decide (s1.ag.a3.af<0)then
        some true
       else
        some (decide (n2=0))
      else
       none
  ) fun v4 =>
  if v4 then
   some (s1,8)
  else
   if decide (lane1=0)then
    Ha (slc s1.ag.a0.ar 0 (w64 (n2-1))) fun l9 =>
    Ha (app N ([]) l9) fun l10 =>
    some (((bZ.mk s1.az (Ar4.mk (yE.mk s1.ag.a0.af l10) s1.ag.a1 s1.ag.a2 s1.ag.a3) s1.iZ s1.aD s1.ak s1.aP),0))
   else
    if decide (lane1=1)then
     Ha (slc s1.ag.a1.ar 0 (w64 (n2-1))) fun l11 =>
     Ha (app N ([]) l11) fun l12 =>
     some (((bZ.mk s1.az (Ar4.mk s1.ag.a0 (yE.mk s1.ag.a1.af l12) s1.ag.a2 s1.ag.a3) s1.iZ s1.aD s1.ak s1.aP),0))
    else
     if decide (lane1=2)then
      Ha (slc s1.ag.a2.ar 0 (w64 (n2-1))) fun l13 =>
      Ha (app N ([]) l13) fun l14 =>
      some (((bZ.mk s1.az (Ar4.mk s1.ag.a0 s1.ag.a1 (yE.mk s1.ag.a2.af l14) s1.ag.a3) s1.iZ s1.aD s1.ak s1.aP),0))
     else
      if decide (lane1=3)then
       Ha (slc s1.ag.a3.ar 0 (w64 (n2-1))) fun l15 =>
       Ha (app N ([]) l15) fun l16 =>
       some (((bZ.mk s1.az (Ar4.mk s1.ag.a0 s1.ag.a1 s1.ag.a2 (yE.mk s1.ag.a3.af l16)) s1.iZ s1.aD s1.ak s1.aP),0))
      else
       none
def CH (N:Nat) (l15:List Int):Option ((List Int)) :=
 some l15
def CJ (N:Nat)(f8:Int)(rec43:(Int×Int×(List Int))→Option ((List Int)))(up14:Int)(l27:List Int):Option ((List Int)) :=
 rec43 ((up14,w64 (f8+1),l27))
def Cn (N:Nat)(rb2:List pf)(f8:Int)(rec49:(Int×Int×Int×Int)→Option (Int×Int×Int))(own445:Int)(balls346:Int)(last250:Int)(i254:Int):Option (Int×Int×Int) :=
 if decide (i254<(rb2.length:Int))then
  Ha (
   Ha (idx rb2 i254) fun x516 =>
   if decide (x516.dI=f8)then
    some ((w64 (own445+x516.vu),w64 (balls346+1),i254))
   else
    some (own445,balls346,last250)
  ) fun(own447,balls348,last252) =>
  rec49 ((own447,balls348,last252,w64 (i254+1)))
 else
  some (own445,balls346,last250)
def Co (N:Nat)(rb2:List pf)(last242:Int)(more48:Int)(rec51:(Int×Int)→Option (Int))(own456:Int)(i264:Int):Option (Int) :=
 if decide (i264≤(w64 (last242+more48)))then
  Ha (idx rb2 i264) fun x528 =>
  rec51 ((w64 (own456+x528.vu),w64 (i264+1)))
 else
  some own456
def Cp (N:Nat)(l1:bW)(ra2:nT)(rb2:List pf)(rec43:(Int×Int×(List Int))→Option ((List Int)))(up13:Int)(f8:Int)(l25:List Int):Option ((List Int)) :=
 if decide (f8<ra2.dI)then
  Ha (
   loopN (fun rec49 x=>Cn N rb2 f8 rec49 x.1 x.2.1 x.2.2.1 x.2.2.2) N (0,0,0,0)
  ) fun(own433,balls334,last242) =>
  Ha (
   Ha (
    if decide (f8<(w64 (l1.bv-1)))then
     if decide (own433=l1.gV)then
      some (decide (balls334=1))
     else
      some false
    else
     some false
   ) fun v92 =>
   if v92 then
    some 2
   else
    some 0
  ) fun more46 =>
  Ha (
   Ha (
    if decide (f8<(w64 (l1.bv-1)))then
     if decide (own433=l1.gV)then
      some (decide (balls334=2))
     else
      some false
    else
     some false
   ) fun v96 =>
   if v96 then
    some 1
   else
    some more46
  ) fun more48 =>
  if decide ((rb2.length:Int)≤(w64 (last242+more48)))then
   some l25
  else
   Ha (
    loopN (fun rec51 x=>Co N rb2 last242 more48 rec51 x.1 x.2) N ((own433,w64 (last242+1)))
   ) fun own452 =>
   Ha (app N l25 ([w64 (up13+own452)])) fun l28 =>
   CJ N f8 rec43 (w64 (up13+own452)) l28
 else
  CH N l25
def C0 (N:Nat)(l1:bW)(sheet1:List Int):Option ((List Int)) :=
 Ha (Ct N l1 sheet1) fun(ra2,rb2) =>
 loopN (fun rec43 x=>Cp N l1 ra2 rb2 rec43 x.1 x.2.1 x.2.2) N (0,0,[])
def Cq (N:Nat)(l1:bW)(sheet1:List Int):Option (Int) :=
 Ha (Ct N l1 sheet1) fun(ra4,rb4) =>
 Ha (
  if decide (ra4.dI<l1.bv)then
   some true
  else
   some (decide ((rb4.length:Int)<(sheet1.length:Int)))
 ) fun v4 =>
 if v4 then
  some (-1)
 else
  Ha (C0 N l1 sheet1) fun r2 =>
  Ha (idx r2 (w64 (l1.bv-1))) fun x2 =>
  some x2
def Dj (N:Nat)(s1:bZ)(lane1:Int):Option (bZ×Int) :=
 Ha (Bw N lane1 0 3) fun r4 =>
 if !r4 then
  some (s1,7)
 else
  Ha (
   if decide (lane1=0)then
    some s1.ag.a0
   else
    if decide (lane1=1)then
     some s1.ag.a1
    else
     if decide (lane1=2)then
      some s1.ag.a2
     else
      if decide (lane1=3)then
       some s1.ag.a3
      else
       none
  ) fun x2 =>
  Ha (
   if decide (x2.af<0)then
    some true
   else
    Ha (Dh N) fun r11 =>
    Ha (Cq N r11 x2.ar) fun r12 =>
    some (decide (r12<0))
  ) fun v4 =>
  if v4 then
   some (s1,8)
  else
   Ha (app N ([]) s1.iZ) fun l2 =>
   Ha (idx l2 x2.af) fun x4 =>
   Ha (app N ([]) x4) fun l5 =>
   Ha (Dh N) fun r15 =>
   Ha (Cq N r15 x2.ar) fun r16 =>
   Ha (app N l5 ([r16])) fun l6 =>
   Ha (
    if decide (lane1=0)then
     some (((-1),[],s1.ag.a1.af,s1.ag.a1.ar,s1.ag.a2.af,s1.ag.a2.ar,s1.ag.a3.af,s1.ag.a3.ar,(yK l2 (xY x2.af) l6)))
    else
     if decide (lane1=1)then
      some ((s1.ag.a0.af,s1.ag.a0.ar,(-1),[],s1.ag.a2.af,s1.ag.a2.ar,s1.ag.a3.af,s1.ag.a3.ar,(yK l2 (xY x2.af) l6)))
     else
      if decide (lane1=2)then
       some ((s1.ag.a0.af,s1.ag.a0.ar,s1.ag.a1.af,s1.ag.a1.ar,(-1),[],s1.ag.a3.af,s1.ag.a3.ar,(yK l2 (xY x2.af) l6)))
      else
       if decide (lane1=3)then
        some ((s1.ag.a0.af,s1.ag.a0.ar,s1.ag.a1.af,s1.ag.a1.ar,s1.ag.a2.af,s1.ag.a2.ar,(-1),[],(yK l2 (xY x2.af) l6)))
       else
        none
   ) fun(c9,c10,c11,c12,c13,c14,c15,c16,l8) =>
   some (((bZ.mk s1.az (Ar4.mk (yE.mk c9 c10) (yE.mk c11 c12) (yE.mk c13 c14) (yE.mk c15 c16)) l8 s1.aD s1.ak s1.aP),0))
def Dk (N:Nat)(s1:bZ)(week1:Int)(bowler1:Int):Option (bZ×Int) :=
 Ha (Bw N week1 1 30) fun r4 =>
 if !r4 then
  some (s1,2)
 else
  Ha (Bw N bowler1 0 (w64 ((s1.az.length:Int)-1))) fun r8 =>
  if !r8 then
   some (s1,7)
  else
   Ha (idx s1.iZ bowler1) fun x2 =>
   if decide ((x2.length:Int)<3)then
    some (s1,8)
   else
    if decide (40≤(s1.aD.length:Int))then
     some (s1,3)
    else
     Ha (app N ([]) s1.iZ) fun l2 =>
     Ha (
      Ha (slc x2 0 (w64 ((x2.length:Int)-3))) fun l7 =>
      Ha (app N ([]) l7) fun l8 =>
      Ha (idx l2 bowler1) fun x4 =>
      some (((x2.length:Int),(yK l2 (xY bowler1) l8)))
     ) fun(n2,l6) =>
     Ha (
      Ha (idx x2 (w64 (n2-3))) fun x8 =>
      Ha (idx x2 (w64 (n2-2))) fun x9 =>
      Ha (idx x2 (w64 (n2-1))) fun x10 =>
      Ha (app N ([]) s1.aD) fun l13 =>
      Ha (app N l13 ([(xh.mk (w64 (1+(s1.aD.length:Int))) bowler1 week1 (Ar3.mk x8 x9 x10))])) fun l14 =>
      some l14
     ) fun l12 =>
     some (((bZ.mk s1.az s1.ag l6 l12 s1.ak s1.aP),0))
def DO (N:Nat)   : Option (Bool) :=
 some false
def Ex (N:Nat)(l1:List Int)(n1:Int)(rec3:(Int)→Option (Bool))(i8:Int):Option (Bool) :=
 if decide (i8<(l1.length:Int))then
  Ha (idx l1 i8) fun x24 =>
  if decide (x24=n1)then
   some true
  else
   rec3 (w64 (i8+1))
 else
  DO N
def DP (N:Nat)(l1:List Int)(n1:Int):Option (Bool) :=
 loopN (fun rec3 x=>Ex N l1 n1 rec3 x) N 0
def CK (N:Nat)(s1:bZ)(number1:Int)(rec3:(Int×(List Int))→Option ((List Int)))(n9:Int)(l29:List Int):Option ((List Int)) :=
 if decide (n9≤(s1.aD.length:Int))then
  Ha (
   Ha (
    if decide (n9=number1)then
     some true
    else
     Ha (DP N s1.ak n9) fun r32 =>
     some r32
   ) fun v24 =>
   if v24 then
    Ha (app N l29 ([n9])) fun l33 =>
    some l33
   else
    some l29
  ) fun l32 =>
  rec3 ((w64 (n9+1),l32))
 else
  some l29
def C1 (N:Nat)(s1:bZ)(number1:Int):Option (bZ×Int) :=
 Ha (Bw N number1 1 (s1.aD.length:Int)) fun r4 =>
 if !r4 then
  some (s1,7)
 else
  Ha (DP N s1.ak number1) fun r8 =>
  if r8 then
   some (s1,6)
  else
   Ha (
    loopN (fun rec3 x=>CK N s1 number1 rec3 x.1 x.2) N (1,[])
   ) fun l17 =>
   some (((bZ.mk s1.az s1.ag s1.iZ s1.aD l17 s1.aP),0))
def Eg (N:Nat)(s1:bZ):Option (nW) :=
 some ((nW.mk 1 (s1.az.length:Int) 1 s1.aP))
def DL (N:Nat)   : Option ((List nR)) :=
 none
def C8 (N:Nat)(c1:nW)(rec5:(Int×(List nR))→Option ((List nR)))(n19:Int)(l40:List nR):Option ((List nR)) :=
 if decide (n19<(w64 (c1.mn-1)))then
  Ha (
   if decide (n19=0)then
    some ((sb.mk (w64 (c1.mn-1)) (-1)))
   else
    some ((sb.mk (-1) (w64 (n19-1))))
  ) fun second40 =>
  Ha (app N l40 ([(nR.mk (sb.mk (w64 ((w64 (c1.mn-2))-n19)) (-1)) second40)])) fun l42 =>
  rec5 ((w64 (n19+1),l42))
 else
  some l40
def Dy (N:Nat)(c1:nW):Option ((List nR)) :=
 if decide (c1.sU=1)then
  Ha (
   loopN (fun rec5 x=>C8 N c1 rec5 x.1 x.2) N (0,[])
  ) fun l32 =>
  some l32
 else
  DL N
def C9 (N:Nat)   : Option (Int) :=
 some (-1)
def CL (N:Nat)(c1:nW)(match1:Int)(rec3:(Int)→Option (Int))(i8:Int):Option (Int) :=
 if decide (i8<(c1.aP.length:Int))then
  Ha (idx c1.aP i8) fun x24 =>
  if decide (x24.dA=match1)then
   some i8
  else
   rec3 (w64 (i8+1))
 else
  C9 N
def Dd (N:Nat)(c1:nW)(match1:Int):Option (Int) :=
 loopN (fun rec3 x=>CL N c1 match1 rec3 x) N 0
def zG (N:Nat)(games1:List Int)(player1:Int)(rec3:(Int×Int)→Option (Int))(n20:Int)(i8:Int):Option (Int) :=
 if decide (i8<(games1.length:Int))then
  Ha (
   Ha (idx games1 i8) fun x24 =>
   if decide (x24=player1)then
    some (w64 (n20+1))
   else
    some n20
  ) fun n23 =>
  rec3 ((n23,w64 (i8+1)))
 else
  some n20
def CU (N:Nat)(games1:List Int)(player1:Int):Option (Int) :=
 Ha (
  loopN (fun rec3 x=>zG N games1 player1 rec3 x.1 x.2) N (0,0)
 ) fun n12 =>
 some n12
def C3 (N:Nat)   : Option (Int) :=
 some (-1)
def zc (N:Nat)(c1:nW)(games1:List Int)(rec3:(Int)→Option (Int))(i8:Int):Option (Int) :=
 if decide (i8<(games1.length:Int))then
  Ha (idx games1 i8) fun x24 =>
  Ha (CU N games1 x24) fun r24 =>
  if decide (c1.bg<(w64 (2*r24)))then
   some x24
  else
   rec3 (w64 (i8+1))
 else
  C3 N
def CM (N:Nat)(c1:nW)(games1:List Int):Option (Int) :=
 loopN (fun rec3 x=>zc N c1 games1 rec3 x) N 0
def Dz (N:Nat)(c1:nW)(match1:Int):Option (Int) :=
 Ha (Dd N c1 match1) fun r2 =>
 if decide (r2<0)then
  some (-1)
 else
  Ha (idx c1.aP r2) fun x2 =>
  Ha (CM N c1 x2.bg) fun r4 =>
  some r4
def CA (N:Nat)(c1:nW)(s1:sb):Option (Int) :=
 if decide (s1.dA<0)then
  some s1.mo
 else
  Ha (Dz N c1 s1.dA) fun r2 =>
  some r2
def CN (N:Nat)(c1:nW)(r2:List nR)(rec3:(Int×(List A7))→Option ((List A7)))(n9:Int)(l29:List A7):Option ((List A7)) :=
 if decide (n9<(r2.length:Int))then
  Ha (
   Ha (idx r2 n9) fun x46 =>
   Ha (CA N c1 x46.rx) fun r181 =>
   Ha (CA N c1 x46.yU) fun r182 =>
   Ha (
    if decide (r181<0)then
     some true
    else
     if decide (r182<0)then
      some true
     else
      Ha (Dz N c1 n9) fun r186 =>
      some (decide (0≤r186))
   ) fun v48 =>
   if v48 then
    some l29
   else
    Ha (
     Ha (Dd N c1 n9) fun r192 =>
     if decide (0≤r192)then
      Ha (idx c1.aP r192) fun x48 =>
      Ha (CU N x48.bg r181) fun r193 =>
      Ha (CU N x48.bg r182) fun r194 =>
      some (A7.mk n9 r181 r182 r193 r194)
     else
      some (A7.mk n9 r181 r182 0 0)
    ) fun m24 =>
    Ha (app N l29 ([m24])) fun l33 =>
    some l33
  ) fun l32 =>
  rec3 ((w64 (n9+1),l32))
 else
  some l29
def DA (N:Nat)(c1:nW):Option ((List A7)) :=
 Ha (Dy N c1) fun r2 =>
 Ha (
  loopN (fun rec3 x=>CN N c1 r2 rec3 x.1 x.2) N (0,[])
 ) fun l17 =>
 some l17
def DB (N:Nat)(s1:bZ)(bowler1:Int):Option (bZ×Int) :=
 if decide ((s1.az.length:Int)<2)then
  some (s1,8)
 else
  Ha (Eg N s1) fun r3 =>
  Ha (DA N r3) fun r4 =>
  if decide ((r4.length:Int)=0)then
   some (s1,8)
  else
   Ha (
    Ha (idx r4 0) fun x4 =>
    if !decide (x4.rx=bowler1)then
     some (!decide (x4.yU=bowler1))
    else
     some false
   ) fun v4 =>
   if v4 then
    some (s1,10)
   else
    Ha (
     Ha (idx r4 0) fun x6 =>
     Ha (app N ([]) s1.aP) fun l5 =>
     Ha (app N l5 ([(dt.mk x6.bX ([bowler1]) false)])) fun l6 =>
     some l6
    ) fun l4 =>
    some (((bZ.mk s1.az s1.ag s1.iZ s1.aD s1.ak l4),0))
def Dq (N:Nat)(s1:bZ)  : Option (bZ×Int) :=
 some (s1,7)
def Cy (N:Nat)(s1:bZ)(match1:Int)(rec3:(Int)→Option (bZ×Int))(i8:Int):Option (bZ×Int) :=
 if decide (i8<(s1.aP.length:Int))then
  Ha (idx s1.aP i8) fun x70 =>
  if !decide (x70.dA=match1)then
   rec3 (w64 (i8+1))
  else
   if x70.lT then
    some (s1,6)
   else
    Ha (app N ([]) s1.aP) fun l24 =>
    Ha (idx l24 i8) fun x72 =>
    some (((bZ.mk s1.az s1.ag s1.iZ s1.aD s1.ak (yK l24 (xY i8) (dt.mk x72.dA x72.bg true))),0))
 else
  Dq N s1
def Dl (N:Nat)(s1:bZ)(match1:Int):Option (bZ×Int) :=
 loopN (fun rec3 x=>Cy N s1 match1 rec3 x) N 0
def Eh (N:Nat)(s1:bZ)(line1:List UInt8):Option (bZ×Int) :=
 Ha (Cz N line1) fun(ra2,rb2,rc2) =>
 if !rc2 then
  some (s1,4)
 else
  if decide (ra2=([98,111,119,108,101,114]:List UInt8))then
   Ha (idx rb2 0) fun x24 =>
   Ha (CZ N s1 x24) fun(ra20,rb20) =>
   some (ra20,rb20)
  else
   if decide (ra2=([111,112,101,110]:List UInt8))then
    Ha (idx rb2 0) fun x27 =>
    Ha (idx rb2 1) fun x28 =>
    Ha (Du N s1 x27 x28) fun(ra22,rb22) =>
    some (ra22,rb22)
   else
    if decide (ra2=([98,97,108,108]:List UInt8))then
     Ha (idx rb2 0) fun x31 =>
     Ha (idx rb2 1) fun x32 =>
     Ha (Dw N s1 x31 x32) fun(ra24,rb24) =>
     some (ra24,rb24)
    else
     if decide (ra2=([98,97,99,107]:List UInt8))then
      Ha (idx rb2 0) fun x34 =>
      Ha (Dx N s1 x34) fun(ra26,rb26) =>
      some (ra26,rb26)
     else
      if decide (ra2=([99,108,111,115,101]:List UInt8))then
       Ha (idx rb2 0) fun x36 =>
       Ha (Dj N s1 x36) fun(ra28,rb28) =>
       some (ra28,rb28)
      else
       if decide (ra2=([115,104,101,101,116]:List UInt8))then
        Ha (idx rb2 0) fun x39 =>
        Ha (idx rb2 1) fun x40 =>
        Ha (Dk N s1 x39 x40) fun(ra30,rb30) =>
        some (ra30,rb30)
       else
        if decide (ra2=([115,116,114,105,107,101]:List UInt8))then
         Ha (idx rb2 0) fun x42 =>
         Ha (C1 N s1 x42) fun(ra32,rb32) =>
         some (ra32,rb32)
        else
         if decide (ra2=([100,117,101,108]:List UInt8))then
          Ha (idx rb2 0) fun x44 =>
          Ha (DB N s1 x44) fun(ra34,rb34) =>
          some (ra34,rb34)
         else
          Ha (idx rb2 0) fun x46 =>
          Ha (Dl N s1 x46) fun(ra36,rb36) =>
          some (ra36,rb36)
def CO (N:Nat)(lines1:List (List UInt8))(rec3:(Int×bZ×(List Int))→Option (bZ×(List Int)))(i8:Int)(s9:bZ)(l19:List Int):Option (bZ×(List Int)) :=
 if decide (i8<(lines1.length:Int))then
  Ha (
   Ha (idx lines1 i8) fun x24 =>
   Ha (Eh N s9 x24) fun(ra24,rb24) =>
   some (rb24,ra24)
  ) fun(e24,t24) =>
  Ha (app N l19 ([e24])) fun l21 =>
  rec3 ((w64 (i8+1),t24,l21))
 else
  some (s9,l19)
def DC (N:Nat)(lines1:List (List UInt8)):Option (bZ×(List Int)) :=
 Ha (DJ N) fun r2 =>
 Ha (
  loopN (fun rec3 x=>CO N lines1 rec3 x.1 x.2.1 x.2.2) N (0,r2,[])
 ) fun(s5,l11) =>
 some (s5,l11)
def CV (N:Nat)(rec1:(Int)→Option ((List UInt8)))(n1:Int):Option ((List UInt8)) :=
 if decide (n1<0)then
  Ha (rec1 (w64 (-n1))) fun r4 =>
  Ha (cat N ([45]:List UInt8) r4) fun s4 =>
  some ((([45]:List UInt8)++r4))
 else
  if decide (n1<10)then
   some (mC ([Go.IntKind.wrap .u8 (w64 (48+n1))]))
  else
   Ha (rec1 (w64 (Int.tdiv n1 10))) fun r7 =>
   Ha (rec1 (Int.tmod n1 10)) fun r8 =>
   Ha (cat N r7 r8) fun s6 =>
   some (r7++r8)
def DV (N:Nat)(n1:Int):Option ((List UInt8)) :=
 loopN (fun rr x=>CV N rr x) N n1
def Gn (N:Nat)(l1:List Int)(rec3:((List UInt8)×Int)→Option ((List UInt8)))(out11:List UInt8)(i8:Int):Option ((List UInt8)) :=
 if decide (i8<(l1.length:Int))then
  Ha (idx l1 i8) fun x12 =>
  Ha (DV N x12) fun r12 =>
  Ha (cat N ([32]:List UInt8) r12) fun s23 =>
  Ha (cat N out11 ((([32]:List UInt8)++r12))) fun s24 =>
  rec3 (((out11++((([32]:List UInt8)++r12))),w64 (i8+1)))
 else
  some out11
def Hu (N:Nat)(l1:List Int):Option ((List UInt8)) :=
 Ha (
  loopN (fun rec3 x=>Gn N l1 rec3 x.1 x.2) N ((([]:List UInt8),0))
 ) fun out6 =>
 some out6
def JG (N:Nat)(s1:bZ):Option (ml) :=
 some ((ml.mk (wy.mk 90 80 40 3 5) s1.az s1.aD s1.ak))
def FO (N:Nat)   : Option (Bool) :=
 some true
def zQ (N:Nat)(b1:ml)(s1:xh)(rec3:(Int)→Option (Bool))(i8:Int):Option (Bool) :=
 if decide (i8<(b1.aD.length:Int))then
  Ha (idx b1.aD i8) fun x24 =>
  Ha (
   if decide (x24.af=s1.af)then
    if decide (x24.j2=s1.j2)then
     if decide (s1.bX<x24.bX)then
      Ha (DP N b1.ak x24.bX) fun r28 =>
      some (!r28)
     else
      some false
    else
     some false
   else
    some false
  ) fun v24 =>
  if v24 then
   some false
  else
   rec3 (w64 (i8+1))
 else
  FO N
def GP (N:Nat)(b1:ml)(s1:xh):Option (Bool) :=
 Ha (DP N b1.ak s1.bX) fun r4 =>
 if r4 then
  some false
 else
  loopN (fun rec3 x=>zQ N b1 s1 rec3 x) N 0
def GQ (N:Nat)(s1:sb)(winners1:List Int):Option (Int) :=
 if decide (s1.dA<0)then
  some s1.mo
 else
  Ha (idx winners1 s1.dA) fun x2 =>
  some x2
def Lx (N:Nat)(c1:nW)(tree1:List nR)(match1:Int)(winners1:List Int):Option (Bool) :=
 Ha (Dd N c1 match1) fun r4 =>
 if decide (r4<0)then
  some false
 else
  Ha (
   Ha (idx tree1 match1) fun x2 =>
   Ha (CA N c1 x2.rx) fun r9 =>
   Ha (GQ N x2.rx winners1) fun r10 =>
   if decide (r9=r10)then
    Ha (CA N c1 x2.yU) fun r11 =>
    Ha (GQ N x2.yU winners1) fun r12 =>
    some (decide (r11=r12))
   else
    some false
  ) fun v2 =>
  some v2
def Ka (N:Nat)(c1:nW)(tree1:List nR)(match1:Int)(winners1:List Int):Option (Int) :=
 Ha (Dd N c1 match1) fun r2 =>
 Ha (
  if decide (r2<0)then
   some true
  else
   Ha (idx c1.aP r2) fun x4 =>
   if x4.lT then
    some true
   else
    Ha (Lx N c1 tree1 match1 winners1) fun r6 =>
    some (!r6)
 ) fun v4 =>
 if v4 then
  some (-1)
 else
  Ha (Dz N c1 match1) fun r8 =>
  some r8
def CD (N:Nat)(rec1:(nW×(List nR)×(List Int))→Option ((List (List Int))))(c1:nW)(tree1:List nR)(begins1:List Int):Option ((List (List Int))) :=
 if decide ((begins1.length:Int)=(tree1.length:Int))then
  some ([begins1])
 else
  Ha (
   Ha (idx tree1 (begins1.length:Int)) fun x2 =>
   Ha (GQ N x2.rx begins1) fun r3 =>
   Ha (GQ N x2.yU begins1) fun r4 =>
   some (((begins1.length:Int),(Ar2.mk r3 r4)))
  ) fun(n2,both2) =>
  Ha (Ka N c1 tree1 n2 begins1) fun r6 =>
  Ha (
   Ha (
    if decide (r6<0)then
     some true
    else
     some (decide (r6=both2.a0))
   ) fun v12 =>
   if v12 then
    Ha (app N ([]) begins1) fun l22 =>
    Ha (app N l22 ([both2.a0])) fun l23 =>
    Ha (rec1 (c1,tree1,l23)) fun r12 =>
    Ha (app N ([]) r12) fun l24 =>
    some l24
   else
    some ([])
  ) fun l21 =>
  Ha (
   Ha (
    if decide (r6<0)then
     some true
    else
     some (decide (r6=both2.a1))
   ) fun v16 =>
   if v16 then
    Ha (app N ([]) begins1) fun l30 =>
    Ha (app N l30 ([both2.a1])) fun l31 =>
    Ha (rec1 (c1,tree1,l31)) fun r14 =>
    Ha (app N l21 r14) fun l32 =>
    some l32
   else
    some l21
  ) fun l29 =>
  some l29
def LH (N:Nat)(c1:nW)(tree1:List nR)(begins1:List Int):Option ((List (List Int))) :=
 loopN (fun rr x=>CD N rr x.1 x.2.1 x.2.2) N (c1,tree1,begins1)
def JV (N:Nat)(c1:nW)(winners1:List Int)(r2:List nR)(rec3:(Int×Int)→Option (Int))(many19:Int)(n9:Int):Option (Int) :=
 if decide (n9<(r2.length:Int))then
  Ha (
   Ha (idx r2 n9) fun x46 =>
   Ha (GQ N x46.rx winners1) fun r71 =>
   Ha (GQ N x46.yU winners1) fun r72 =>
   Ha (
    Ha (Ka N c1 r2 n9 winners1) fun r74 =>
    if decide (r74<0)then
     Ha (idx winners1 n9) fun x48 =>
     some (decide (x48=(max r71 r72)))
    else
     some false
   ) fun v24 =>
   if v24 then
    some (w64 (many19+1))
   else
    some many19
  ) fun many21 =>
  rec3 ((many21,w64 (n9+1)))
 else
  some many19
def KJ (N:Nat)(c1:nW)(winners1:List Int):Option (Int) :=
 Ha (Dy N c1) fun r2 =>
 Ha (
  loopN (fun rec3 x=>JV N c1 winners1 r2 rec3 x.1 x.2) N (0,0)
 ) fun many11 =>
 some many11
def Kd (N:Nat)(c1:nW)(rec3:(Int×(List Int))→Option ((List Int)))(p8:Int)(l19:List Int):Option ((List Int)) :=
 if decide (p8<c1.mn)then
  Ha (app N l19 ([(-1)])) fun l21 =>
  rec3 ((w64 (p8+1),l21))
 else
  some l19
def Kl (N:Nat)(c1:nW)(r4:List (List Int))(rec5:(Int×(List Int))→Option ((List Int)))(i8:Int)(l40:List Int):Option ((List Int)) :=
 if decide (i8<(r4.length:Int))then
  Ha (
   Ha (idx r4 i8) fun x80 =>
   Ha (idx x80 (w64 ((x80.length:Int)-1))) fun x81 =>
   Ha (KJ N c1 x80) fun r28 =>
   Ha (
    Ha (idx l40 x81) fun x83 =>
    if decide (x83<0)then
     some true
    else
     some (decide (r28<x83))
   ) fun v24 =>
   if v24 then
    Ha (idx l40 x81) fun x84 =>
    some ((yK l40 (xY x81) r28))
   else
    some l40
  ) fun l42 =>
  rec5 ((w64 (i8+1),l42))
 else
  some l40
def Ly (N:Nat)(c1:nW):Option ((List Int)) :=
 Ha (
  loopN (fun rec3 x=>Kd N c1 rec3 x.1 x.2) N (0,[])
 ) fun l11 =>
 Ha (Dy N c1) fun r3 =>
 Ha (LH N c1 r3 ([])) fun r4 =>
 Ha (
  loopN (fun rec5 x=>Kl N c1 r4 rec5 x.1 x.2) N (0,l11)
 ) fun l32 =>
 some l32
def J1 (N:Nat)(r4:List Int)(rec3:(Int×(List Int))→Option ((List Int)))(p8:Int)(l29:List Int):Option ((List Int)) :=
 if decide (p8<(r4.length:Int))then
  Ha (
   Ha (idx r4 p8) fun x24 =>
   if decide (0≤x24)then
    Ha (app N l29 ([p8])) fun l33 =>
    some l33
   else
    some l29
  ) fun l32 =>
  rec3 ((w64 (p8+1),l32))
 else
  some l29
def KN (N:Nat)(s1:bZ):Option ((List Int)) :=
 if decide ((s1.az.length:Int)<2)then
  some ([])
 else
  Ha (Eg N s1) fun r3 =>
  Ha (Ly N r3) fun r4 =>
  Ha (
   loopN (fun rec3 x=>J1 N r4 rec3 x.1 x.2) N (0,[])
  ) fun l17 =>
  some l17
def C6 (N:Nat)(ra2:bZ)(b42:Int)(rec27:(Int×Int)→Option (Int))(many250:Int)(i96:Int):Option (Int) :=
 if decide (i96<(ra2.aD.length:Int))then
  Ha (
   Ha (
    Ha (idx ra2.aD i96) fun x299 =>
    if decide (x299.af=b42)then
     Ha (JG N ra2) fun r688 =>
     Ha (GP N r688 x299) fun r689 =>
     some r689
    else
     some false
   ) fun v288 =>
   if v288 then
    some (w64 (many250+1))
   else
    some many250
  ) fun many252 =>
  rec27 ((many252,w64 (i96+1)))
 else
  some many250
def Dp (N:Nat)(ra2:bZ)(rec23:((List UInt8)×Int)→Option ((List UInt8)))(out30:List UInt8)(b42:Int):Option ((List UInt8)) :=
 if decide (b42<(ra2.az.length:Int))then
  Ha (
   Ha (
    loopN (fun rec27 x=>C6 N ra2 b42 rec27 x.1 x.2) N (0,0)
   ) fun many242 =>
   Ha (idx ra2.iZ b42) fun x300 =>
   Ha (DV N b42) fun r690 =>
   Ha (cat N ([98,111,119,108,101,114,32]:List UInt8) r690) fun s190 =>
   Ha (cat N ((([98,111,119,108,101,114,32]:List UInt8)++r690)) ([32,107,101,112,116,32]:List UInt8)) fun s191 =>
   Ha (DV N (x300.length:Int)) fun r691 =>
   Ha (cat N ((((([98,111,119,108,101,114,32]:List UInt8)++r690))++([32,107,101,112,116,32]:List UInt8))) r691) fun s192 =>
   Ha (cat N ((((((([98,111,119,108,101,114,32]:List UInt8)++r690))++([32,107,101,112,116,32]:List UInt8)))++r691)) ([32,115,104,101,101,116,115,32]:List UInt8)) fun s193 =>
   Ha (DV N many242) fun r692 =>
   Ha (cat N ((((((((([98,111,119,108,101,114,32]:List UInt8)++r690))++([32,107,101,112,116,32]:List UInt8)))++r691))++([32,115,104,101,101,116,115,32]:List UInt8))) r692) fun s194 =>
   Ha (cat N ((((((((((([98,111,119,108,101,114,32]:List UInt8)++r690))++([32,107,101,112,116,32]:List UInt8)))++r691))++([32,115,104,101,101,116,115,32]:List UInt8)))++r692)) ([10]:List UInt8)) fun s195 =>
   Ha (cat N out30 ((((((((((((([98,111,119,108,101,114,32]:List UInt8)++r690))++([32,107,101,112,116,32]:List UInt8)))++r691))++([32,115,104,101,101,116,115,32]:List UInt8)))++r692))++([10]:List UInt8)))) fun s196 =>
   some ((out30++((((((((((((([98,111,119,108,101,114,32]:List UInt8)++r690))++([32,107,101,112,116,32]:List UInt8)))++r691))++([32,115,104,101,101,116,115,32]:List UInt8)))++r692))++([10]:List UInt8)))))
  ) fun out31 =>
  rec23 ((out31,w64 (b42+1)))
 else
  some out30
def KO (N:Nat)(lines1:List (List UInt8)):Option ((List UInt8)) :=
 Ha (DC N lines1) fun(ra2,rb2) =>
 Ha (
  if decide (0≤ra2.ag.a0.af)then
   Ha (DV N 0) fun r46 =>
   Ha (cat N ([108,97,110,101,32]:List UInt8) r46) fun s64 =>
   Ha (cat N ((([108,97,110,101,32]:List UInt8)++r46)) ([32,98,111,119,108,101,114,32]:List UInt8)) fun s65 =>
   Ha (DV N ra2.ag.a0.af) fun r47 =>
   Ha (cat N ((((([108,97,110,101,32]:List UInt8)++r46))++([32,98,111,119,108,101,114,32]:List UInt8))) r47) fun s66 =>
   Ha (cat N ((((((([108,97,110,101,32]:List UInt8)++r46))++([32,98,111,119,108,101,114,32]:List UInt8)))++r47)) ([32,99,111,117,110,116,115]:List UInt8)) fun s67 =>
   Ha (Dh N) fun r48 =>
   Ha (C0 N r48 ra2.ag.a0.ar) fun r49 =>
   Ha (Hu N r49) fun r50 =>
   Ha (cat N ((((((((([108,97,110,101,32]:List UInt8)++r46))++([32,98,111,119,108,101,114,32]:List UInt8)))++r47))++([32,99,111,117,110,116,115]:List UInt8))) r50) fun s68 =>
   Ha (cat N ((((((((((([108,97,110,101,32]:List UInt8)++r46))++([32,98,111,119,108,101,114,32]:List UInt8)))++r47))++([32,99,111,117,110,116,115]:List UInt8)))++r50)) ([10]:List UInt8)) fun s69 =>
   Ha (cat N ([]:List UInt8) ((((((((((((([108,97,110,101,32]:List UInt8)++r46))++([32,98,111,119,108,101,114,32]:List UInt8)))++r47))++([32,99,111,117,110,116,115]:List UInt8)))++r50))++([10]:List UInt8)))) fun s70 =>
   some ((([]:List UInt8)++((((((((((((([108,97,110,101,32]:List UInt8)++r46))++([32,98,111,119,108,101,114,32]:List UInt8)))++r47))++([32,99,111,117,110,116,115]:List UInt8)))++r50))++([10]:List UInt8)))))
  else
   some ([]:List UInt8)
 ) fun out10 =>
 Ha (
  if decide (0≤ra2.ag.a1.af)then
   Ha (DV N 1) fun r56 =>
   Ha (cat N ([108,97,110,101,32]:List UInt8) r56) fun s78 =>
   Ha (cat N ((([108,97,110,101,32]:List UInt8)++r56)) ([32,98,111,119,108,101,114,32]:List UInt8)) fun s79 =>
   Ha (DV N ra2.ag.a1.af) fun r57 =>
   Ha (cat N ((((([108,97,110,101,32]:List UInt8)++r56))++([32,98,111,119,108,101,114,32]:List UInt8))) r57) fun s80 =>
   Ha (cat N ((((((([108,97,110,101,32]:List UInt8)++r56))++([32,98,111,119,108,101,114,32]:List UInt8)))++r57)) ([32,99,111,117,110,116,115]:List UInt8)) fun s81 =>
   Ha (Dh N) fun r58 =>
   Ha (C0 N r58 ra2.ag.a1.ar) fun r59 =>
   Ha (Hu N r59) fun r60 =>
   Ha (cat N ((((((((([108,97,110,101,32]:List UInt8)++r56))++([32,98,111,119,108,101,114,32]:List UInt8)))++r57))++([32,99,111,117,110,116,115]:List UInt8))) r60) fun s82 =>
   Ha (cat N ((((((((((([108,97,110,101,32]:List UInt8)++r56))++([32,98,111,119,108,101,114,32]:List UInt8)))++r57))++([32,99,111,117,110,116,115]:List UInt8)))++r60)) ([10]:List UInt8)) fun s83 =>
   Ha (cat N out10 ((((((((((((([108,97,110,101,32]:List UInt8)++r56))++([32,98,111,119,108,101,114,32]:List UInt8)))++r57))++([32,99,111,117,110,116,115]:List UInt8)))++r60))++([10]:List UInt8)))) fun s84 =>
   some ((out10++((((((((((((([108,97,110,101,32]:List UInt8)++r56))++([32,98,111,119,108,101,114,32]:List UInt8)))++r57))++([32,99,111,117,110,116,115]:List UInt8)))++r60))++([10]:List UInt8)))))
  else
   some out10
 ) fun out12 =>
 Ha (
  if decide (0≤ra2.ag.a2.af)then
   Ha (DV N 2) fun r66 =>
   Ha (cat N ([108,97,110,101,32]:List UInt8) r66) fun s92 =>
   Ha (cat N ((([108,97,110,101,32]:List UInt8)++r66)) ([32,98,111,119,108,101,114,32]:List UInt8)) fun s93 =>
   Ha (DV N ra2.ag.a2.af) fun r67 =>
   Ha (cat N ((((([108,97,110,101,32]:List UInt8)++r66))++([32,98,111,119,108,101,114,32]:List UInt8))) r67) fun s94 =>
   Ha (cat N ((((((([108,97,110,101,32]:List UInt8)++r66))++([32,98,111,119,108,101,114,32]:List UInt8)))++r67)) ([32,99,111,117,110,116,115]:List UInt8)) fun s95 =>
   Ha (Dh N) fun r68 =>
   Ha (C0 N r68 ra2.ag.a2.ar) fun r69 =>
   Ha (Hu N r69) fun r70 =>
   Ha (cat N ((((((((([108,97,110,101,32]:List UInt8)++r66))++([32,98,111,119,108,101,114,32]:List UInt8)))++r67))++([32,99,111,117,110,116,115]:List UInt8))) r70) fun s96 =>
   Ha (cat N ((((((((((([108,97,110,101,32]:List UInt8)++r66))++([32,98,111,119,108,101,114,32]:List UInt8)))++r67))++([32,99,111,117,110,116,115]:List UInt8)))++r70)) ([10]:List UInt8)) fun s97 =>
   Ha (cat N out12 ((((((((((((([108,97,110,101,32]:List UInt8)++r66))++([32,98,111,119,108,101,114,32]:List UInt8)))++r67))++([32,99,111,117,110,116,115]:List UInt8)))++r70))++([10]:List UInt8)))) fun s98 =>
   some ((out12++((((((((((((([108,97,110,101,32]:List UInt8)++r66))++([32,98,111,119,108,101,114,32]:List UInt8)))++r67))++([32,99,111,117,110,116,115]:List UInt8)))++r70))++([10]:List UInt8)))))
  else
   some out12
 ) fun out14 =>
 Ha (
  if decide (0≤ra2.ag.a3.af)then
   Ha (DV N 3) fun r76 =>
   Ha (cat N ([108,97,110,101,32]:List UInt8) r76) fun s106 =>
   Ha (cat N ((([108,97,110,101,32]:List UInt8)++r76)) ([32,98,111,119,108,101,114,32]:List UInt8)) fun s107 =>
   Ha (DV N ra2.ag.a3.af) fun r77 =>
   Ha (cat N ((((([108,97,110,101,32]:List UInt8)++r76))++([32,98,111,119,108,101,114,32]:List UInt8))) r77) fun s108 =>
   Ha (cat N ((((((([108,97,110,101,32]:List UInt8)++r76))++([32,98,111,119,108,101,114,32]:List UInt8)))++r77)) ([32,99,111,117,110,116,115]:List UInt8)) fun s109 =>
   Ha (Dh N) fun r78 =>
   Ha (C0 N r78 ra2.ag.a3.ar) fun r79 =>
   Ha (Hu N r79) fun r80 =>
   Ha (cat N ((((((((([108,97,110,101,32]:List UInt8)++r76))++([32,98,111,119,108,101,114,32]:List UInt8)))++r77))++([32,99,111,117,110,116,115]:List UInt8))) r80) fun s110 =>
   Ha (cat N ((((((((((([108,97,110,101,32]:List UInt8)++r76))++([32,98,111,119,108,101,114,32]:List UInt8)))++r77))++([32,99,111,117,110,116,115]:List UInt8)))++r80)) ([10]:List UInt8)) fun s111 =>
   Ha (cat N out14 ((((((((((((([108,97,110,101,32]:List UInt8)++r76))++([32,98,111,119,108,101,114,32]:List UInt8)))++r77))++([32,99,111,117,110,116,115]:List UInt8)))++r80))++([10]:List UInt8)))) fun s112 =>
   some ((out14++((((((((((((([108,97,110,101,32]:List UInt8)++r76))++([32,98,111,119,108,101,114,32]:List UInt8)))++r77))++([32,99,111,117,110,116,115]:List UInt8)))++r80))++([10]:List UInt8)))))
  else
   some out14
 ) fun out16 =>
 Ha (
  loopN (fun rec23 x=>Dp N ra2 rec23 x.1 x.2) N (out16,0)
 ) fun out24 =>
 Ha (
  if decide (2≤(ra2.az.length:Int))then
   Ha (KN N ra2) fun r695 =>
   Ha (Hu N r695) fun r696 =>
   Ha (cat N ([100,117,101,108,115]:List UInt8) r696) fun s200 =>
   Ha (cat N ((([100,117,101,108,115]:List UInt8)++r696)) ([10]:List UInt8)) fun s201 =>
   Ha (cat N out24 ((((([100,117,101,108,115]:List UInt8)++r696))++([10]:List UInt8)))) fun s202 =>
   some ((out24++((((([100,117,101,108,115]:List UInt8)++r696))++([10]:List UInt8)))))
  else
   some out24
 ) fun out33 =>
 some out33
end
