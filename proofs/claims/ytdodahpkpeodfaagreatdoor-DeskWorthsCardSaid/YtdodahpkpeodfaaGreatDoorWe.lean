/-
  Data of the program’s structs.
-/
import Derived.Test.YtdodahpkpeodfaaGreatDoorDef
import Derived.Test.YtdodahpkpeodfaaGreatDoorTt
import Derived.Test.YtdodahpkpeodfaaGreatDoorAbsV
import Derived.Test.YtdodahpkpeodfaaGreatDoorSort
import Derived.Test.YtdodahpkpeodfaaGreatDoorShelf
import Derived.Test.YtdodahpkpeodfaaGreatDoorBld
import Derived.Test.YtdodahpkpeodfaaGreatDoorIns
import Derived.Test.YtdodahpkpeodfaaGreatDoorHand
open Bool renaming eq_iff_iff→Bu
open List renaming map→Jy
namespace Go.Proofs.YtdodahpkpeodfaaGreatDoor
open Go Go.Abs Go.Kp
set_option maxRecDepth 100000
set_option maxHeartbeats 64000000
set_option linter.all false
def Cx (x:Int):D:=match x with | .ofNat 0=>.fn (.func 204) [] [] | .ofNat 1=>.fn (.func 205) [] [] | .ofNat 2=>.fn (.func 206) [] [] | .ofNat 3=>.fn (.func 207) [] [] | .ofNat 4=>.fn (.func 208) [] [] | .ofNat 5=>.fn (.func 209) [] [] | .ofNat 6=>.fn (.func 210) [] [] | .ofNat 7=>.fn (.func 211) [] [] | .ofNat 8=>.fn (.func 212) [] [] | _=>.nilfn
def cA.enc(x:cA):D:=.agg [I x.af,.list 1 (Jy I x.ar)]
def aH.enc(x:aH):D:=.agg [I x.bX,I x.af,I x.j2,I x.bg.a0,I x.bg.a1,I x.bg.a2]
def ab.enc(x:ab):D:=.agg [I x.dA,.list 1 (Jy I x.bg),.bool x.lT]
def aR.enc(x:aR):D:=.agg [.list 1 (Jy I x.az),.list 2 (Jy cA.enc x.ag),.list 1 (Jy (fun x=>.list 1 (Jy I x)) x.iZ),.list 6 (Jy aH.enc x.aD),.list 1 (Jy I x.ak),.list 3 (Jy ab.enc x.aP)]
def aL.enc(x:aL):D:=.agg [.list 1 (Jy I x.kZ.az),.list 2 (Jy cA.enc x.kZ.ag),.list 1 (Jy (fun x=>.list 1 (Jy I x)) x.kZ.iZ),.list 6 (Jy aH.enc x.kZ.aD),.list 1 (Jy I x.kZ.ak),.list 3 (Jy ab.enc x.kZ.aP)]
def j1.enc(x:j1):D:=.agg [I x.vD,Cx x.fDo]
def da.enc(x:da):D:=.agg [I x.fE]
def og.enc(x:og):D:=.agg [I x.bv,I x.gV,I x.ar,I x.sd]
def q7.enc(x:q7):D:=.agg [.list 1 (Jy (fun x=>.list 1 (Jy I x)) x.bv),.list 1 (Jy I x.vg),I x.cw,.bool x.xk]
def qZ.enc(x:qZ):D:=.agg [I x.dI,I x.lS,I x.cw,.bool x.qk,I x.vI,I x.pc.a0,I x.pc.a1]
def ii.enc(x:ii):D:=.agg [I x.fu.bv,I x.fu.gV,I x.fu.ar,I x.fu.sd,I x.fAt.dI,I x.fAt.lS,I x.fAt.cw,.bool x.fAt.qk,I x.fAt.vI,I x.fAt.pc.a0,I x.fAt.pc.a1]
def gu.enc(x:gu):D:=.agg [.int .u8 x.sU,I x.mn,I x.bg,.list 3 (Jy ab.enc x.aP)]
def gN.enc(x:gN):D:=.agg [I x.bX,I x.rx,I x.C6,I x.fWon,I x.fLost]
def nS.enc(x:nS):D:=.agg [I x.mo,I x.dA]
def bh.enc(x:bh):D:=.agg [I x.rx.mo,I x.rx.dA,I x.C6.mo,I x.C6.dA]
def vG.enc(x:vG):D:=.agg [I x.fLo,I x.fHi]
def wz.enc(x:wz):D:=.agg [I x.o8,I x.jF,I x.uq,I x.ue,I x.o9]
def mP.enc(x:mP):D:=.agg [I x.fu.o8,I x.fu.jF,I x.fu.uq,I x.fu.ue,I x.fu.o9,.list 1 (Jy I x.az),.list 6 (Jy aH.enc x.aD),.list 1 (Jy I x.ak)]
def BM.enc(x:BM):D:=.agg [I x.af,I x.j2]
def aC.enc(x:aC):D:=.agg [I x.dA,I x.mo]
def aj.enc(x:aj):D:=.agg [I x.q8,I x.vB]
def wC.enc(x:wC):D:=.agg [I x.fLong,I x.fCheck]
def A3.enc(x:A3):D:=.agg [I x.af,.list 1 (Jy I x.ar)]
def b9.enc(x:b9):D:=.agg [I x.bX,I x.af,I x.j2,I x.bg.a0,I x.bg.a1,I x.bg.a2]
def dt.enc(x:dt):D:=.agg [I x.dA,.list 1 (Jy I x.bg),.bool x.lT]
def bZ.enc(x:bZ):D:=.agg [.list 1 (Jy I x.az),I x.ag.a0.af,.list 1 (Jy I x.ag.a0.ar),I x.ag.a1.af,.list 1 (Jy I x.ag.a1.ar),I x.ag.a2.af,.list 1 (Jy I x.ag.a2.ar),I x.ag.a3.af,.list 1 (Jy I x.ag.a3.ar),.list 1 (Jy (fun x=>.list 1 (Jy I x)) x.iZ),.list 6 (Jy b9.enc x.aD),.list 1 (Jy I x.ak),.list 3 (Jy dt.enc x.aP)]
def bW.enc(x:bW):D:=.agg [I x.bv,I x.gV,I x.ar,I x.sd]
def nT.enc(x:nT):D:=.agg [I x.dI,I x.lS,I x.cw,.bool x.ww,I x.vz]
def pf.enc(x:pf):D:=.agg [I x.dI,I x.vu]
def nW.enc(x:nW):D:=.agg [.int .u8 x.sU,I x.mn,I x.bg,.list 3 (Jy dt.enc x.aP)]
def C4.enc(x:C4):D:=.agg [I x.bX,I x.rx,I x.C6,I x.fWon,I x.fLost]
def sb.enc(x:sb):D:=.agg [I x.mo,I x.dA]
def nR.enc(x:nR):D:=.agg [I x.rx.mo,I x.rx.dA,I x.C6.mo,I x.C6.dA]
def wy.enc(x:wy):D:=.agg [I x.o8,I x.jF,I x.uq,I x.ue,I x.o9]
def ml.enc(x:ml):D:=.agg [I x.fu.o8,I x.fu.jF,I x.fu.uq,I x.fu.ue,I x.fu.o9,.list 1 (Jy I x.az),.list 6 (Jy b9.enc x.aD),.list 1 (Jy I x.ak)]
theorem jg{k:IntKind}(x y:Int):eU (cellsOf (.int k x)) (cellsOf (.int k y))=decide (x=y):=by simp[cellsOf,eU,eqD]
theorem cM(x y:List UInt8):eU (cellsOf (.str x)) (cellsOf (.str y))=decide (x=y):=by simp[cellsOf,eU,eqD]
theorem oP(x y:Ar2 Int):eU (cellsOf (.agg [I x.a0,I x.a1])) (cellsOf (.agg [I y.a0,I y.a1]))=decide (x=y):=by
  obtain⟨_,_⟩:=x
  obtain⟨_,_⟩:=y
  rw[Bu]
  simp[cellsOf,eU,eqD,cA.mk.injEq,aH.mk.injEq,ab.mk.injEq,aR.mk.injEq,aL.mk.injEq,j1.mk.injEq,da.mk.injEq,og.mk.injEq,q7.mk.injEq,qZ.mk.injEq,ii.mk.injEq,gu.mk.injEq,gN.mk.injEq,nS.mk.injEq,bh.mk.injEq,wW.mk.injEq,vG.mk.injEq,wz.mk.injEq,mP.mk.injEq,BM.mk.injEq,aC.mk.injEq,aj.mk.injEq,wC.mk.injEq,A3.mk.injEq,b9.mk.injEq,dt.mk.injEq,bZ.mk.injEq,bW.mk.injEq,nT.mk.injEq,pf.mk.injEq,nW.mk.injEq,C4.mk.injEq,sb.mk.injEq,nR.mk.injEq,wy.mk.injEq,ml.mk.injEq,Ar1.mk.injEq,Ar2.mk.injEq,Ar3.mk.injEq,Ar4.mk.injEq,Ar5.mk.injEq,and_assoc]
theorem EX(x y:Ar3 Int):eU (cellsOf (.agg [I x.a0,I x.a1,I x.a2])) (cellsOf (.agg [I y.a0,I y.a1,I y.a2]))=decide (x=y):=by
  obtain⟨_,_,_⟩:=x
  obtain⟨_,_,_⟩:=y
  rw[Bu]
  simp[cellsOf,eU,eqD,cA.mk.injEq,aH.mk.injEq,ab.mk.injEq,aR.mk.injEq,aL.mk.injEq,j1.mk.injEq,da.mk.injEq,og.mk.injEq,q7.mk.injEq,qZ.mk.injEq,ii.mk.injEq,gu.mk.injEq,gN.mk.injEq,nS.mk.injEq,bh.mk.injEq,wW.mk.injEq,vG.mk.injEq,wz.mk.injEq,mP.mk.injEq,BM.mk.injEq,aC.mk.injEq,aj.mk.injEq,wC.mk.injEq,A3.mk.injEq,b9.mk.injEq,dt.mk.injEq,bZ.mk.injEq,bW.mk.injEq,nT.mk.injEq,pf.mk.injEq,nW.mk.injEq,C4.mk.injEq,sb.mk.injEq,nR.mk.injEq,wy.mk.injEq,ml.mk.injEq,Ar1.mk.injEq,Ar2.mk.injEq,Ar3.mk.injEq,Ar4.mk.injEq,Ar5.mk.injEq,and_assoc]
theorem BM.eqc(x y:BM):eU (cellsOf (.agg [I x.af,I x.j2])) (cellsOf (.agg [I y.af,I y.j2]))=decide (x=y):=by
  obtain⟨_,_⟩:=x
  obtain⟨_,_⟩:=y
  rw[Bu]
  simp[cellsOf,eU,eqD,cA.mk.injEq,aH.mk.injEq,ab.mk.injEq,aR.mk.injEq,aL.mk.injEq,j1.mk.injEq,da.mk.injEq,og.mk.injEq,q7.mk.injEq,qZ.mk.injEq,ii.mk.injEq,gu.mk.injEq,gN.mk.injEq,nS.mk.injEq,bh.mk.injEq,wW.mk.injEq,vG.mk.injEq,wz.mk.injEq,mP.mk.injEq,BM.mk.injEq,aC.mk.injEq,aj.mk.injEq,wC.mk.injEq,A3.mk.injEq,b9.mk.injEq,dt.mk.injEq,bZ.mk.injEq,bW.mk.injEq,nT.mk.injEq,pf.mk.injEq,nW.mk.injEq,C4.mk.injEq,sb.mk.injEq,nR.mk.injEq,wy.mk.injEq,ml.mk.injEq,Ar1.mk.injEq,Ar2.mk.injEq,Ar3.mk.injEq,Ar4.mk.injEq,Ar5.mk.injEq,and_assoc]
theorem aC.eqc(x y:aC):eU (cellsOf (.agg [I x.dA,I x.mo])) (cellsOf (.agg [I y.dA,I y.mo]))=decide (x=y):=by
  obtain⟨_,_⟩:=x
  obtain⟨_,_⟩:=y
  rw[Bu]
  simp[cellsOf,eU,eqD,cA.mk.injEq,aH.mk.injEq,ab.mk.injEq,aR.mk.injEq,aL.mk.injEq,j1.mk.injEq,da.mk.injEq,og.mk.injEq,q7.mk.injEq,qZ.mk.injEq,ii.mk.injEq,gu.mk.injEq,gN.mk.injEq,nS.mk.injEq,bh.mk.injEq,wW.mk.injEq,vG.mk.injEq,wz.mk.injEq,mP.mk.injEq,BM.mk.injEq,aC.mk.injEq,aj.mk.injEq,wC.mk.injEq,A3.mk.injEq,b9.mk.injEq,dt.mk.injEq,bZ.mk.injEq,bW.mk.injEq,nT.mk.injEq,pf.mk.injEq,nW.mk.injEq,C4.mk.injEq,sb.mk.injEq,nR.mk.injEq,wy.mk.injEq,ml.mk.injEq,Ar1.mk.injEq,Ar2.mk.injEq,Ar3.mk.injEq,Ar4.mk.injEq,Ar5.mk.injEq,and_assoc]
theorem ai{α:Sort _}{a:α}{q:Prop}(h:q):a=a∧q:=⟨rfl,h⟩
abbrev eL(x:List Int):D:=.list 1 (Jy I x)
abbrev eII(p:Int×Int):D×D:=(I p.1,I p.2)
abbrev eA2(x:Ar2 Int):D:=.agg [I x.a0,I x.a1]
abbrev eMR(p:Int×ab):D×D:=(I p.1,.agg [I p.2.dA,.list 1 (Jy I p.2.bg),.bool p.2.lT])
abbrev eSC(p:aC×aj):D×D:=(.agg [I p.1.dA,I p.1.mo],.agg [I p.2.q8,I p.2.vB])
abbrev cD(a b c:Int)(d:List ab)(e:List bh)(k1 b1 k2:Nat)(h:Value):List AV:=[.d (.int .u8 a),.d (I b),.d (I c),.d (.list 3 (Jy ab.enc d)),.d (.list 4 (Jy bh.enc e)),.mp k1 b1,.sl k2 h]
abbrev cW(x:aL):List AV:=[.d (.list 1 (Jy I x.kZ.az)),.d (.list 2 (Jy cA.enc x.kZ.ag)),.d (.list 1 (Jy eL x.kZ.iZ)),.d (.list 6 (Jy aH.enc x.kZ.aD)),.d (.list 1 (Jy I x.kZ.ak)),.d (.list 3 (Jy ab.enc x.kZ.aP))]
theorem mw{N:Nat}(hN:N≤1073741824){s:List UInt8}{r:Int⊕Int}(h:nV N s=some r) :
    ACalls Tryz.prog 202 [.d (.str s)] [] (wJ 379 r) :=
  rj hN Tryz.call202 h (fun s v w hz h=>(Tryz.strconv_Atoi_ok s (by omega) v h w).mono fun e w' ⟨he,hw⟩=>⟨he,by rcases hw with rfl | ⟨t,rfl⟩;exact Go.RowKit.Below.refl _ _;exact Lib.bytesWorld_below _ _ _⟩)
    (fun M s w hr hz h=>let⟨ev,he,hv⟩:=hr.t.syn;(Tryz.strconv_Atoi_syntax s (by omega) h ev w (hr.c _ _ _ he) hv).mono fun e w' ⟨n,h1,_,_,h2⟩=>⟨n,h1,h2⟩)
    (fun M s w hr hz h=>let⟨ev,he,hv⟩:=hr.t.rng;(Tryz.strconv_Atoi_range s (by omega) h ev w (hr.c _ _ _ he) hv).mono fun e w' ⟨n,h1,_,_,h2⟩=>⟨n,h1,h2⟩)
theorem xl{N:Nat}(hN:N≤1073741824){k bo:Nat}{ho:Value}{bs r:List UInt8}(h:Pg N bs=some r) :
    ACalls Tryz.prog 56 [.ptr k bo 0] [(k,.bld bo 126 5 ho bs)] (fun ae os=>∃y:Unit,True∧ae=.ret (.d (.str r))∧os=[]) :=
  lF Tryz.call56 h fun p v l w a b=>rV Tryz.lays169 Tryz.Builder_Extra_169 bo p v l w a b
theorem Ck:InsSpec Tryz.prog 254 3 :=
  ⟨Any2.slices_Insert_int_shift Tryz.lays2_21,Any2.slices_Insert_int_end_room Tryz.lays2_21,Any2.slices_Insert_int_end_grow Tryz.lays2_21,Any2.slices_Insert_int_grow Tryz.lays2_21⟩
theorem Cc{N:Nat}(hN:N≤1073741824){k k2:Nat}{ho ho2:Value}{i:Int}{l m r:List Int}(h:BJ N i l m=some r)(hk:k≠k2:=by decide) :
    ACalls Tryz.prog 254 [.sl k ho,.d (I i),.sl k2 ho2] [(k,.arr ho 3 1 false (Jy I l)),(k2,.arr ho2 3 1 false (Jy I m))] (fun ae os=>∃y:Value,True∧ae=.ret (.sl k y)∧os=[(k,.arr y 3 1 false (Jy I r)),(k2,.arr ho2 3 1 false (Jy I m))]) :=
  Bk Tryz.call254 Ck hk hN h
theorem my{N:Nat}(hN:N≤1073741824){n:Int}{r:List UInt8}(h:nU N n=some r) :
    ACalls Tryz.prog 96 [.d (I n)] [] (fun e os=>e=.ret (.d (.str r))∧os=[]) :=
  OI Tryz.call96 h fun M w hr h0 h1=>(Tryz.strconv_Itoa n h0 h1 w (wt (by kernel_rfl) hr)).mono fun e w' ⟨he,k,os,hw⟩=>⟨he,hw▸Lib.below_grow _ w (Nat.le_refl _) k os⟩
theorem sw{N:Nat}(hN:N≤1073741824){xs:List (List UInt8)}{sep r:List UInt8}(h:pg N xs sep=some r) :
    ACalls Tryz.prog 97 [.d (.list 1 (Jy D.str xs)),.d (.str sep)] [] (fun e os=>e=.ret (.d (.str r))∧os=[]) :=
  rk hN Tryz.call97 h (fun p c sep w=>Tryz.strings_Join_none p c sep w) fun bk o c xs sep w a b d e f=>Tryz.strings_Join bk o c xs sep w a b d e f
theorem xb{N:Nat}(hN:N≤1073741824){k:Nat}{l:List Int}{ho:Value}{r:List Int}(h:sortI N l=some r) :
    ACalls Tryz.prog 99 [.sl k ho] [(k,.arr ho 3 1 false (Jy I l))] (fun ae os=>∃y:Unit,True∧ae=.ret (.d (.tup []))∧os=[(k,.arr ho 3 1 false (Jy I r))]) :=
  rh Tryz.call99 hN h Tryz.slices_Sort_int Tryz.slices_Sort_int_none
theorem xm{N:Nat}(hN:N≤1073741824){s sep:List UInt8}{r:List (List UInt8)}(h:wA N s sep=some r) :
    ACalls Tryz.prog 154 [.d (.str s),.d (.str sep)] [] (fun e os=>e=.ret (.d (.list 1 (Jy D.str r)))∧os=[]) :=
  qd hN Tryz.call154 h fun M w a b hr h1 h2=>let⟨m,hm⟩:=hr.t.len;Tryz.strings_Split a b m w h1 (hr.c _ _ _ hm) h2
theorem xn{N:Nat}(hN:N≤1073741824){s p r:List UInt8}(h:O7 N s p=some r) :
    ACalls Tryz.prog 213 [.d (.str s),.d (.str p)] [] (fun e os=>e=.ret (.d (.str r))∧os=[]) :=
  MI Tryz.call213 h Tryz.strings_TrimPrefix
theorem xO{N:Nat}(hN:N≤1073741824){k bo:Nat}{ho:Value}{s bs:List UInt8}{r:Int×List UInt8}(h:wrS N s bs=some r) :
    ACalls Tryz.prog 51 [.ptr k bo 0,.d (.str s)] [(k,.bld bo 126 5 ho bs)] (fun ae os=>∃y:Value,True∧ae=.ret (.d (.tup [I r.1,.nilifc]))∧os=[(k,.bld bo 126 5 y r.2)]) :=
  mB Tryz.call51 hN h fun p v cs s w a b c d e=>tY bo p v cs s w a b c d e
theorem AX{N:Nat}(hN:N≤1073741824){s1:List Int}{v1:Int}{r:Int}(h:zx N s1 v1=some r) :
    ACalls Tryz.prog 177 [.d (.list 1 (Jy I s1)),.d (I v1)] [] fun e os=>e=.ret (.d (I r))∧os=[]:=by
  refine Cs al ap [1001] 0 Tryz.func177 rfl Tryz.call177 rfl ?_
  unfold zx at h
  repeat' ((conv=>whnf)<;>first|refine u (k:=?_)|exact v|refine st0 1001 (F:=C7 (zf N)) r [] (fun y=>[]) ?_ ?_|refine lp0 2 h [0,1] (fun y=>[(7,.d (I y.x.1)),(8,.d (I y.x.2))]) ?_ ?_|(rw[yA]at h;delta w64 at h)|unfold zf at h|intro _|apply Br.mk|refine TyG.mk fun _ h=>?_|(refine hs h ?_;intro _ _ h))
theorem Ac{N:Nat}(hN:N≤1073741824){s1:List Int}{v1:Int}{r:Bool}(h:yP N s1 v1=some r) :
    ACalls Tryz.prog 137 [.d (.list 1 (Jy I s1)),.d (I v1)] [] fun e os=>e=.ret (.d (.bool r))∧os=[]:=by
  refine Cs al ap [] 0 Tryz.func137 rfl Tryz.call137 rfl ?_
  unfold yP at h
  repeat' ((conv=>whnf)<;>first|refine u (k:=?_)|exact v|refine cp (AX hN am) ?_|intro _|apply Br.mk|(refine hs h ?_;intro _ _ h))
theorem oA{N:Nat}(hN:N≤1073741824) {r:Unit}(h:kX N=some r) :
    ACalls Tryz.prog 78 [.nils 1] [] fun e os=>e=.ret (.nils 1)∧os=[]:=by
  refine ah (fresh:=true) al ap ⟨[],[],[],[],[],0,[]⟩ Tryz.func78 rfl Tryz.call78 rfl ?_
  unfold kX at h
  repeat' ((conv=>whnf)<;>first|refine u (k:=?_)|exact v|intro _|apply Br.mk|(refine hs h ?_;intro _ _ h))
theorem oB{N:Nat}(hN:N≤1073741824){s1:List Int}{r:(List Int)}(h:gc N s1=some r) :
    ACalls Tryz.prog 78 [.nn 1 (Jy I s1)] [] fun e os=>∃hd,e=.ret (.sl 0 hd)∧os=[(0,.arr hd 3 1 false (Jy I r))]:=by
  refine gk al ap ⟨[],[],[],[],[],0,[]⟩ Tryz.func78 rfl Tryz.call78 rfl ?_
  unfold gc at h
  repeat' ((conv=>whnf)<;>first|refine u (k:=?_)|exact v|refine aap I [] _ hN rfl rfl ‹_› (by decide) ?_|intro _|apply Br.mk|(refine hs h ?_;intro _ _ h))
theorem bB{N:Nat}(hN:N≤1073741824){l:List Int}{r:(List Int)}(h:cG N l=some r) :
    ACalls Tryz.prog 78 [.d (.list 1 (Jy I l))] [] fun e os=>∃hd,e=.ret (.sl 0 hd)∧os=[(0,.arr hd 3 1 false (Jy I r))]:=by
  unfold cG at h
  refine ACalls.nils_or (fun e=>?_) (oB hN h)
  have e2:=List.map_eq_nil_iff.1 e
  subst e2
  have e3:r=[]:=by simpa [gc,app]using h.symm
  subst e3
  exact ACalls.nil_own (oA hN (r:=()) rfl)
theorem lX{N:Nat}(hN:N≤1073741824) {r:Unit}(h:jl N=some r) :
    ACalls Tryz.prog 79 [.nils 6] [] fun e os=>e=.ret (.nils 6)∧os=[]:=by
  refine ah (fresh:=true) al ap ⟨[],[],[],[],[],0,[]⟩ Tryz.func79 rfl Tryz.call79 rfl ?_
  unfold jl at h
  repeat' ((conv=>whnf)<;>first|refine u (k:=?_)|exact v|intro _|apply Br.mk|(refine hs h ?_;intro _ _ h))
theorem lY{N:Nat}(hN:N≤1073741824){s1:List aH}{r:(List aH)}(h:dR N s1=some r) :
    ACalls Tryz.prog 79 [.nn 6 (Jy aH.enc s1)] [] fun e os=>∃hd,e=.ret (.sl 0 hd)∧os=[(0,.arr hd 94 6 false (Jy aH.enc r))]:=by
  refine gk al ap ⟨[],[],[],[],[],0,[]⟩ Tryz.func79 rfl Tryz.call79 rfl ?_
  unfold dR at h
  repeat' ((conv=>whnf)<;>first|refine u (k:=?_)|exact v|refine aap aH.enc [] _ hN rfl rfl ‹_› (by decide) ?_|intro _|apply Br.mk|(refine hs h ?_;intro _ _ h))
theorem Mu{N:Nat}(hN:N≤1073741824){l:List aH}{r:(List aH)}(h:gD N l=some r) :
    ACalls Tryz.prog 79 [.d (.list 6 (Jy aH.enc l))] [] fun e os=>∃hd,e=.ret (.sl 0 hd)∧os=[(0,.arr hd 94 6 false (Jy aH.enc r))]:=by
  unfold gD at h
  refine ACalls.nils_or (fun e=>?_) (lY hN h)
  have e2:=List.map_eq_nil_iff.1 e
  subst e2
  have e3:r=[]:=by simpa [dR,app]using h.symm
  subst e3
  exact ACalls.nil_own (lX hN (r:=()) rfl)
