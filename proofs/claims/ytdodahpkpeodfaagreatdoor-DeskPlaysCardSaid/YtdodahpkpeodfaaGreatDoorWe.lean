/-
  Data of the program’s structs.
-/
import Derived.Test.YtdodahpkpeodfaaGreatDoorDef
import Derived.Test.YtdodahpkpeodfaaGreatDoorTt
import Derived.Test.YtdodahpkpeodfaaGreatDoorAbsV
import Derived.Test.YtdodahpkpeodfaaGreatDoorSort
import Derived.Test.YtdodahpkpeodfaaGreatDoorShelf
import Derived.Test.YtdodahpkpeodfaaGreatDoorBld
import Derived.Test.YtdodahpkpeodfaaGreatDoorIns
import Derived.Test.YtdodahpkpeodfaaGreatDoorHand
namespace Go.Proofs.YtdodahpkpeodfaaGreatDoor
open Go Go.Abs Go.Kp
set_option maxRecDepth 100000
set_option maxHeartbeats 8000000
set_option linter.all false
def Cx (x:Int):D:=match x with | .ofNat 0=>.fn (.func 204) [] [] | .ofNat 1=>.fn (.func 205) [] [] | .ofNat 2=>.fn (.func 206) [] [] | .ofNat 3=>.fn (.func 207) [] [] | .ofNat 4=>.fn (.func 208) [] [] | .ofNat 5=>.fn (.func 209) [] [] | .ofNat 6=>.fn (.func 210) [] [] | .ofNat 7=>.fn (.func 211) [] [] | .ofNat 8=>.fn (.func 212) [] [] | _=>.nilfn
def DeskLane.enc(x:DeskLane):D:=.agg [I x.fBowler,.list 1 (List.map I x.fBalls)]
def RateSheet.enc(x:RateSheet):D:=.agg [I x.fNumber,I x.fBowler,I x.fWeek,I x.fGames.a0,I x.fGames.a1,I x.fGames.a2]
def LadderResult.enc(x:LadderResult):D:=.agg [I x.fMatch,.list 1 (List.map I x.fGames),.bool x.fProtested]
def DeskState.enc(x:DeskState):D:=.agg [.list 1 (List.map I x.fBowlers),.list 2 (List.map DeskLane.enc x.fLanes),.list 1 (List.map (fun x=>.list 1 (List.map I x)) x.fKept),.list 6 (List.map RateSheet.enc x.fSheets),.list 1 (List.map I x.fWithdrawn),.list 3 (List.map LadderResult.enc x.fResults)]
def DeskWork.enc(x:DeskWork):D:=.agg [.list 1 (List.map I x.fState.fBowlers),.list 2 (List.map DeskLane.enc x.fState.fLanes),.list 1 (List.map (fun x=>.list 1 (List.map I x)) x.fState.fKept),.list 6 (List.map RateSheet.enc x.fState.fSheets),.list 1 (List.map I x.fState.fWithdrawn),.list 3 (List.map LadderResult.enc x.fState.fResults)]
def DeskAct.enc(x:DeskAct):D:=.agg [I x.fMany,Cx x.fDo]
def DeskRefusal.enc(x:DeskRefusal):D:=.agg [I x.fE]
def FrameLaw.enc(x:FrameLaw):D:=.agg [I x.fFrames,I x.fPins,I x.fBalls,I x.fTap]
def FrameGame.enc(x:FrameGame):D:=.agg [.list 1 (List.map (fun x=>.list 1 (List.map I x)) x.fFrames),.list 1 (List.map I x.fCounts),I x.fStanding,.bool x.fDone]
def FrameAt.enc(x:FrameAt):D:=.agg [I x.fFrame,I x.fThrown,I x.fStanding,.bool x.fFresh,I x.fNeed,I x.fAfter.a0,I x.fAfter.a1]
def FramePlay.enc(x:FramePlay):D:=.agg [I x.fLaw.fFrames,I x.fLaw.fPins,I x.fLaw.fBalls,I x.fLaw.fTap,I x.fAt.fFrame,I x.fAt.fThrown,I x.fAt.fStanding,.bool x.fAt.fFresh,I x.fAt.fNeed,I x.fAt.fAfter.a0,I x.fAt.fAfter.a1]
def LadderCup.enc(x:LadderCup):D:=.agg [.int .u8 x.fForm,I x.fPlayers,I x.fGames,.list 3 (List.map LadderResult.enc x.fResults)]
def LadderMatch.enc(x:LadderMatch):D:=.agg [I x.fNumber,I x.fFirst,I x.fSecond,I x.fWon,I x.fLost]
def LadderSide.enc(x:LadderSide):D:=.agg [I x.fPlayer,I x.fMatch]
def LadderPair.enc(x:LadderPair):D:=.agg [I x.fFirst.fPlayer,I x.fFirst.fMatch,I x.fSecond.fPlayer,I x.fSecond.fMatch]
def FrameRange.enc(x:FrameRange):D:=.agg [I x.fLo,I x.fHi]
def RateLaw.enc(x:RateLaw):D:=.agg [I x.fBase,I x.fPercent,I x.fCap,I x.fLeast,I x.fBlind]
def RateBook.enc(x:RateBook):D:=.agg [I x.fLaw.fBase,I x.fLaw.fPercent,I x.fLaw.fCap,I x.fLaw.fLeast,I x.fLaw.fBlind,.list 1 (List.map I x.fBowlers),.list 6 (List.map RateSheet.enc x.fSheets),.list 1 (List.map I x.fWithdrawn)]
def RateTurn.enc(x:RateTurn):D:=.agg [I x.fBowler,I x.fWeek]
def LadderSpot.enc(x:LadderSpot):D:=.agg [I x.fMatch,I x.fPlayer]
def LadderCheapest.enc(x:LadderCheapest):D:=.agg [I x.fUpsets,I x.fOther]
def DeskHead.enc(x:DeskHead):D:=.agg [I x.fLong,I x.fCheck]
def Ref12Lane.enc(x:Ref12Lane):D:=.agg [I x.fBowler,.list 1 (List.map I x.fBalls)]
def Ref07Sheet.enc(x:Ref07Sheet):D:=.agg [I x.fNumber,I x.fBowler,I x.fWeek,I x.fGames.a0,I x.fGames.a1,I x.fGames.a2]
def Ref09Result.enc(x:Ref09Result):D:=.agg [I x.fMatch,.list 1 (List.map I x.fGames),.bool x.fProtested]
def Ref12State.enc(x:Ref12State):D:=.agg [.list 1 (List.map I x.fBowlers),I x.fLanes.a0.fBowler,.list 1 (List.map I x.fLanes.a0.fBalls),I x.fLanes.a1.fBowler,.list 1 (List.map I x.fLanes.a1.fBalls),I x.fLanes.a2.fBowler,.list 1 (List.map I x.fLanes.a2.fBalls),I x.fLanes.a3.fBowler,.list 1 (List.map I x.fLanes.a3.fBalls),.list 1 (List.map (fun x=>.list 1 (List.map I x)) x.fKept),.list 6 (List.map Ref07Sheet.enc x.fSheets),.list 1 (List.map I x.fWithdrawn),.list 3 (List.map Ref09Result.enc x.fResults)]
def Ref01Law.enc(x:Ref01Law):D:=.agg [I x.fFrames,I x.fPins,I x.fBalls,I x.fTap]
def Ref01Stand.enc(x:Ref01Stand):D:=.agg [I x.fFrame,I x.fThrown,I x.fStanding,.bool x.fSet,I x.fHas]
def Ref01Ball.enc(x:Ref01Ball):D:=.agg [I x.fFrame,I x.fCount]
def Ref09Cup.enc(x:Ref09Cup):D:=.agg [.int .u8 x.fForm,I x.fPlayers,I x.fGames,.list 3 (List.map Ref09Result.enc x.fResults)]
def Ref09Match.enc(x:Ref09Match):D:=.agg [I x.fNumber,I x.fFirst,I x.fSecond,I x.fWon,I x.fLost]
def Ref09Side.enc(x:Ref09Side):D:=.agg [I x.fPlayer,I x.fMatch]
def Ref09Pair.enc(x:Ref09Pair):D:=.agg [I x.fFirst.fPlayer,I x.fFirst.fMatch,I x.fSecond.fPlayer,I x.fSecond.fMatch]
theorem jg{k:IntKind}(x y:Int):eU (cellsOf (.int k x)) (cellsOf (.int k y))=decide (x=y):=by simp[cellsOf,eU,eqD]
theorem cM(x y:List UInt8):eU (cellsOf (.str x)) (cellsOf (.str y))=decide (x=y):=by simp[cellsOf,eU,eqD]
theorem oP(x y:Ar2 Int):eU (cellsOf (.agg [I x.a0,I x.a1])) (cellsOf (.agg [I y.a0,I y.a1]))=decide (x=y):=by
  obtain⟨_,_⟩:=x
  obtain⟨_,_⟩:=y
  rw[Bool.eq_iff_iff]
  simp[cellsOf,eU,eqD,DeskLane.mk.injEq,RateSheet.mk.injEq,LadderResult.mk.injEq,DeskState.mk.injEq,DeskWork.mk.injEq,DeskAct.mk.injEq,DeskRefusal.mk.injEq,FrameLaw.mk.injEq,FrameGame.mk.injEq,FrameAt.mk.injEq,FramePlay.mk.injEq,LadderCup.mk.injEq,LadderMatch.mk.injEq,LadderSide.mk.injEq,LadderPair.mk.injEq,LadderSideT312.mk.injEq,FrameRange.mk.injEq,RateLaw.mk.injEq,RateBook.mk.injEq,RateTurn.mk.injEq,LadderSpot.mk.injEq,LadderCheapest.mk.injEq,DeskHead.mk.injEq,Ref12Lane.mk.injEq,Ref07Sheet.mk.injEq,Ref09Result.mk.injEq,Ref12State.mk.injEq,Ref01Law.mk.injEq,Ref01Stand.mk.injEq,Ref01Ball.mk.injEq,Ref09Cup.mk.injEq,Ref09Match.mk.injEq,Ref09Side.mk.injEq,Ref09Pair.mk.injEq,Ar1.mk.injEq,Ar2.mk.injEq,Ar3.mk.injEq,Ar4.mk.injEq,Ar5.mk.injEq,and_assoc]
theorem EX(x y:Ar3 Int):eU (cellsOf (.agg [I x.a0,I x.a1,I x.a2])) (cellsOf (.agg [I y.a0,I y.a1,I y.a2]))=decide (x=y):=by
  obtain⟨_,_,_⟩:=x
  obtain⟨_,_,_⟩:=y
  rw[Bool.eq_iff_iff]
  simp[cellsOf,eU,eqD,DeskLane.mk.injEq,RateSheet.mk.injEq,LadderResult.mk.injEq,DeskState.mk.injEq,DeskWork.mk.injEq,DeskAct.mk.injEq,DeskRefusal.mk.injEq,FrameLaw.mk.injEq,FrameGame.mk.injEq,FrameAt.mk.injEq,FramePlay.mk.injEq,LadderCup.mk.injEq,LadderMatch.mk.injEq,LadderSide.mk.injEq,LadderPair.mk.injEq,LadderSideT312.mk.injEq,FrameRange.mk.injEq,RateLaw.mk.injEq,RateBook.mk.injEq,RateTurn.mk.injEq,LadderSpot.mk.injEq,LadderCheapest.mk.injEq,DeskHead.mk.injEq,Ref12Lane.mk.injEq,Ref07Sheet.mk.injEq,Ref09Result.mk.injEq,Ref12State.mk.injEq,Ref01Law.mk.injEq,Ref01Stand.mk.injEq,Ref01Ball.mk.injEq,Ref09Cup.mk.injEq,Ref09Match.mk.injEq,Ref09Side.mk.injEq,Ref09Pair.mk.injEq,Ar1.mk.injEq,Ar2.mk.injEq,Ar3.mk.injEq,Ar4.mk.injEq,Ar5.mk.injEq,and_assoc]
theorem RateTurn.eqc(x y:RateTurn):eU (cellsOf (.agg [I x.fBowler,I x.fWeek])) (cellsOf (.agg [I y.fBowler,I y.fWeek]))=decide (x=y):=by
  obtain⟨_,_⟩:=x
  obtain⟨_,_⟩:=y
  rw[Bool.eq_iff_iff]
  simp[cellsOf,eU,eqD,DeskLane.mk.injEq,RateSheet.mk.injEq,LadderResult.mk.injEq,DeskState.mk.injEq,DeskWork.mk.injEq,DeskAct.mk.injEq,DeskRefusal.mk.injEq,FrameLaw.mk.injEq,FrameGame.mk.injEq,FrameAt.mk.injEq,FramePlay.mk.injEq,LadderCup.mk.injEq,LadderMatch.mk.injEq,LadderSide.mk.injEq,LadderPair.mk.injEq,LadderSideT312.mk.injEq,FrameRange.mk.injEq,RateLaw.mk.injEq,RateBook.mk.injEq,RateTurn.mk.injEq,LadderSpot.mk.injEq,LadderCheapest.mk.injEq,DeskHead.mk.injEq,Ref12Lane.mk.injEq,Ref07Sheet.mk.injEq,Ref09Result.mk.injEq,Ref12State.mk.injEq,Ref01Law.mk.injEq,Ref01Stand.mk.injEq,Ref01Ball.mk.injEq,Ref09Cup.mk.injEq,Ref09Match.mk.injEq,Ref09Side.mk.injEq,Ref09Pair.mk.injEq,Ar1.mk.injEq,Ar2.mk.injEq,Ar3.mk.injEq,Ar4.mk.injEq,Ar5.mk.injEq,and_assoc]
theorem LadderSpot.eqc(x y:LadderSpot):eU (cellsOf (.agg [I x.fMatch,I x.fPlayer])) (cellsOf (.agg [I y.fMatch,I y.fPlayer]))=decide (x=y):=by
  obtain⟨_,_⟩:=x
  obtain⟨_,_⟩:=y
  rw[Bool.eq_iff_iff]
  simp[cellsOf,eU,eqD,DeskLane.mk.injEq,RateSheet.mk.injEq,LadderResult.mk.injEq,DeskState.mk.injEq,DeskWork.mk.injEq,DeskAct.mk.injEq,DeskRefusal.mk.injEq,FrameLaw.mk.injEq,FrameGame.mk.injEq,FrameAt.mk.injEq,FramePlay.mk.injEq,LadderCup.mk.injEq,LadderMatch.mk.injEq,LadderSide.mk.injEq,LadderPair.mk.injEq,LadderSideT312.mk.injEq,FrameRange.mk.injEq,RateLaw.mk.injEq,RateBook.mk.injEq,RateTurn.mk.injEq,LadderSpot.mk.injEq,LadderCheapest.mk.injEq,DeskHead.mk.injEq,Ref12Lane.mk.injEq,Ref07Sheet.mk.injEq,Ref09Result.mk.injEq,Ref12State.mk.injEq,Ref01Law.mk.injEq,Ref01Stand.mk.injEq,Ref01Ball.mk.injEq,Ref09Cup.mk.injEq,Ref09Match.mk.injEq,Ref09Side.mk.injEq,Ref09Pair.mk.injEq,Ar1.mk.injEq,Ar2.mk.injEq,Ar3.mk.injEq,Ar4.mk.injEq,Ar5.mk.injEq,and_assoc]
theorem ai{α:Sort _}{a:α}{q:Prop}(h:q):a=a∧q:=⟨rfl,h⟩
abbrev eL(x:List Int):D:=.list 1 (List.map I x)
abbrev eII(p:Int×Int):D×D:=(I p.1,I p.2)
abbrev eA2(x:Ar2 Int):D:=.agg [I x.a0,I x.a1]
abbrev eMR(p:Int×LadderResult):D×D:=(I p.1,.agg [I p.2.fMatch,.list 1 (List.map I p.2.fGames),.bool p.2.fProtested])
abbrev eSC(p:LadderSpot×LadderCheapest):D×D:=(.agg [I p.1.fMatch,I p.1.fPlayer],.agg [I p.2.fUpsets,I p.2.fOther])
abbrev cD(a b c:Int)(d:List LadderResult)(e:List LadderPair)(k1 b1 k2:Nat)(h:Value):List AV:=[.d (.int .u8 a),.d (I b),.d (I c),.d (.list 3 (List.map LadderResult.enc d)),.d (.list 4 (List.map LadderPair.enc e)),.mp k1 b1,.sl k2 h]
abbrev cW(x:DeskWork):List AV:=[.d (.list 1 (List.map I x.fState.fBowlers)),.d (.list 2 (List.map DeskLane.enc x.fState.fLanes)),.d (.list 1 (List.map eL x.fState.fKept)),.d (.list 6 (List.map RateSheet.enc x.fState.fSheets)),.d (.list 1 (List.map I x.fState.fWithdrawn)),.d (.list 3 (List.map LadderResult.enc x.fState.fResults))]
theorem mw{N:Nat}(hN:N≤1073741824){s:List UInt8}{r:Int⊕Int}(h:nV N s=some r) :
    ACalls Tryz.prog 202 [.d (.str s)] [] (wJ 379 r) :=
  rj hN Tryz.call202 h (fun s v w hz h=>(Tryz.strconv_Atoi_ok s (by omega) v h w).mono fun e w' ⟨he,hw⟩=>⟨he,by rcases hw with rfl | ⟨t,rfl⟩;exact Go.RowKit.Below.refl _ _;exact Lib.bytesWorld_below _ _ _⟩)
    (fun M s w hr hz h=>let⟨ev,he,hv⟩:=hr.t.syn;(Tryz.strconv_Atoi_syntax s (by omega) h ev w (hr.c _ _ _ he) hv).mono fun e w' ⟨n,h1,_,_,h2⟩=>⟨n,h1,h2⟩)
    (fun M s w hr hz h=>let⟨ev,he,hv⟩:=hr.t.rng;(Tryz.strconv_Atoi_range s (by omega) h ev w (hr.c _ _ _ he) hv).mono fun e w' ⟨n,h1,_,_,h2⟩=>⟨n,h1,h2⟩)
theorem xl{N:Nat}(hN:N≤1073741824){k bo:Nat}{ho:Value}{bs r:List UInt8}(h:w8 N bs=some r) :
    ACalls Tryz.prog 56 [.ptr k bo 0] [(k,.bld bo 126 5 ho bs)] (fun ae os=>∃y:Unit,True∧ae=.ret (.d (.str r))∧os=[]) :=
  lF Tryz.call56 h fun p v l w a b=>rV Tryz.lays169 Tryz.Builder_Extra_169 bo p v l w a b
theorem Ck:InsSpec Tryz.prog 254 3 :=
  ⟨Any2.slices_Insert_int_shift Tryz.lays2_21,Any2.slices_Insert_int_end_room Tryz.lays2_21,Any2.slices_Insert_int_end_grow Tryz.lays2_21,Any2.slices_Insert_int_grow Tryz.lays2_21⟩
theorem Cc{N:Nat}(hN:N≤1073741824){k k2:Nat}{ho ho2:Value}{i:Int}{l m r:List Int}(h:BJ N i l m=some r)(hk:k≠k2:=by decide) :
    ACalls Tryz.prog 254 [.sl k ho,.d (I i),.sl k2 ho2] [(k,.arr ho 3 1 false (List.map I l)),(k2,.arr ho2 3 1 false (List.map I m))] (fun ae os=>∃y:Value,True∧ae=.ret (.sl k y)∧os=[(k,.arr y 3 1 false (List.map I r)),(k2,.arr ho2 3 1 false (List.map I m))]) :=
  Bk Tryz.call254 Ck hk hN h
theorem my{N:Nat}(hN:N≤1073741824){n:Int}{r:List UInt8}(h:nU N n=some r) :
    ACalls Tryz.prog 96 [.d (I n)] [] (fun e os=>e=.ret (.d (.str r))∧os=[]) :=
  FN Tryz.call96 h fun M w hr h0 h1=>(Tryz.strconv_Itoa n h0 h1 w (wt (by kernel_rfl) hr)).mono fun e w' ⟨he,k,os,hw⟩=>⟨he,hw▸Lib.below_grow _ w (Nat.le_refl _) k os⟩
theorem sw{N:Nat}(hN:N≤1073741824){xs:List (List UInt8)}{sep r:List UInt8}(h:pg N xs sep=some r) :
    ACalls Tryz.prog 97 [.d (.list 1 (List.map D.str xs)),.d (.str sep)] [] (fun e os=>e=.ret (.d (.str r))∧os=[]) :=
  rk hN Tryz.call97 h (fun p c sep w=>Tryz.strings_Join_none p c sep w) fun bk o c xs sep w a b d e f=>Tryz.strings_Join bk o c xs sep w a b d e f
theorem xb{N:Nat}(hN:N≤1073741824){k:Nat}{l:List Int}{ho:Value}{r:List Int}(h:sortI N l=some r) :
    ACalls Tryz.prog 99 [.sl k ho] [(k,.arr ho 3 1 false (List.map I l))] (fun ae os=>∃y:Unit,True∧ae=.ret (.d (.tup []))∧os=[(k,.arr ho 3 1 false (List.map I r))]) :=
  rh Tryz.call99 hN h Tryz.slices_Sort_int Tryz.slices_Sort_int_none
theorem xm{N:Nat}(hN:N≤1073741824){s sep:List UInt8}{r:List (List UInt8)}(h:wA N s sep=some r) :
    ACalls Tryz.prog 154 [.d (.str s),.d (.str sep)] [] (fun e os=>e=.ret (.d (.list 1 (List.map D.str r)))∧os=[]) :=
  qd hN Tryz.call154 h fun M w a b hr h1 h2=>let⟨m,hm⟩:=hr.t.len;Tryz.strings_Split a b m w h1 (hr.c _ _ _ hm) h2
theorem xn{N:Nat}(hN:N≤1073741824){s p r:List UInt8}(h:Ig N s p=some r) :
    ACalls Tryz.prog 213 [.d (.str s),.d (.str p)] [] (fun e os=>e=.ret (.d (.str r))∧os=[]) :=
  D7 Tryz.call213 h Tryz.strings_TrimPrefix
theorem xO{N:Nat}(hN:N≤1073741824){k bo:Nat}{ho:Value}{s bs:List UInt8}{r:Int×List UInt8}(h:wrS N s bs=some r) :
    ACalls Tryz.prog 51 [.ptr k bo 0,.d (.str s)] [(k,.bld bo 126 5 ho bs)] (fun ae os=>∃y:Value,True∧ae=.ret (.d (.tup [I r.1,.nilifc]))∧os=[(k,.bld bo 126 5 y r.2)]) :=
  mB Tryz.call51 hN h fun p v cs s w a b c d e=>tY bo p v cs s w a b c d e
theorem oA{N:Nat}(hN:N≤1073741824) {r:Unit}(h:kX N=some r) :
    ACalls Tryz.prog 78 [.nils 1] [] fun e os=>e=.ret (.nils 1)∧os=[]:=by
  refine ah (fresh:=true) al ap ⟨[],[],[],[],[],0,[]⟩ Tryz.func78 rfl Tryz.call78 rfl ?_
  unfold kX at h
  repeat' ((conv=>whnf)<;>first|refine u (k:=?_)|exact v|intro _|refine Br.mk (fun _=>?_) fun _=>?_|(refine hs h ?_;intro _ _ h)|fail)
theorem oB{N:Nat}(hN:N≤1073741824){s1:List Int}{r:(List Int)}(h:gc N s1=some r) :
    ACalls Tryz.prog 78 [.nn 1 (List.map I s1)] [] fun e os=>∃hd,e=.ret (.sl 0 hd)∧os=[(0,.arr hd 3 1 false (List.map I r))]:=by
  refine gk al ap ⟨[],[],[],[],[],0,[]⟩ Tryz.func78 rfl Tryz.call78 rfl ?_
  unfold gc at h
  repeat' ((conv=>whnf)<;>first|refine u (k:=?_)|exact v|refine aap I [] _ hN rfl rfl ‹_› (by decide) ?_|intro _|refine Br.mk (fun _=>?_) fun _=>?_|(refine hs h ?_;intro _ _ h)|fail)
theorem bB{N:Nat}(hN:N≤1073741824){l:List Int}{r:(List Int)}(h:cG N l=some r) :
    ACalls Tryz.prog 78 [.d (.list 1 (List.map I l))] [] fun e os=>∃hd,e=.ret (.sl 0 hd)∧os=[(0,.arr hd 3 1 false (List.map I r))]:=by
  unfold cG at h
  refine ACalls.nils_or (fun e=>?_) (oB hN h)
  have e2:=List.map_eq_nil_iff.1 e
  subst e2
  have e3:r=[]:=by simpa [gc,app]using h.symm
  subst e3
  exact ACalls.nil_own (oA hN (r:=()) rfl)
theorem lX{N:Nat}(hN:N≤1073741824) {r:Unit}(h:jl N=some r) :
    ACalls Tryz.prog 79 [.nils 6] [] fun e os=>e=.ret (.nils 6)∧os=[]:=by
  refine ah (fresh:=true) al ap ⟨[],[],[],[],[],0,[]⟩ Tryz.func79 rfl Tryz.call79 rfl ?_
  unfold jl at h
  repeat' ((conv=>whnf)<;>first|refine u (k:=?_)|exact v|intro _|refine Br.mk (fun _=>?_) fun _=>?_|(refine hs h ?_;intro _ _ h)|fail)
theorem lY{N:Nat}(hN:N≤1073741824){s1:List RateSheet}{r:(List RateSheet)}(h:dR N s1=some r) :
    ACalls Tryz.prog 79 [.nn 6 (List.map RateSheet.enc s1)] [] fun e os=>∃hd,e=.ret (.sl 0 hd)∧os=[(0,.arr hd 94 6 false (List.map RateSheet.enc r))]:=by
  refine gk al ap ⟨[],[],[],[],[],0,[]⟩ Tryz.func79 rfl Tryz.call79 rfl ?_
  unfold dR at h
  repeat' ((conv=>whnf)<;>first|refine u (k:=?_)|exact v|refine aap RateSheet.enc [] _ hN rfl rfl ‹_› (by decide) ?_|intro _|refine Br.mk (fun _=>?_) fun _=>?_|(refine hs h ?_;intro _ _ h)|fail)
theorem Dt{N:Nat}(hN:N≤1073741824){l:List RateSheet}{r:(List RateSheet)}(h:gD N l=some r) :
    ACalls Tryz.prog 79 [.d (.list 6 (List.map RateSheet.enc l))] [] fun e os=>∃hd,e=.ret (.sl 0 hd)∧os=[(0,.arr hd 94 6 false (List.map RateSheet.enc r))]:=by
  unfold gD at h
  refine ACalls.nils_or (fun e=>?_) (lY hN h)
  have e2:=List.map_eq_nil_iff.1 e
  subst e2
  have e3:r=[]:=by simpa [dR,app]using h.symm
  subst e3
  exact ACalls.nil_own (lX hN (r:=()) rfl)
