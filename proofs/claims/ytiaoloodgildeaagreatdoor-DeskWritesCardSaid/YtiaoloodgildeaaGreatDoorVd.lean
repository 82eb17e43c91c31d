/-
  Walks: what the typed functions compute, the program’s functions return.
-/
import Derived.Test.YtiaoloodgildeaaGreatDoorWe
import Derived.Test.YtiaoloodgildeaaGreatDoorVc
namespace Go.Proofs.YtiaoloodgildeaaGreatDoor
open Go Go.Abs Go.Kp
set_option maxRecDepth 100000
set_option maxHeartbeats 8000000
set_option linter.all false
theorem rp{N:Nat}(hN:N≤1073741824){words1:List UInt8}{words2:Int}{words3:List UInt8}{words4:Int}{words5:List UInt8}{words6:List Int}{r:(List UInt8)}(h:kC N words1 words2 words3 words4 words5 words6=some r) :
    ACalls Tryz.prog 74 [.d (.list 1 [.ifc 9 (.str words1),.ifc 3 (I words2),.ifc 9 (.str words3),.ifc 3 (I words4),.ifc 9 (.str words5),.ifc 25 (.list 1 (List.map I words6))])] [] fun e os=>e=.ret (.d (.str r))∧os=[]:=by
  refine ah (fresh:=false) al ap ⟨[],[],[],[],[1004],0,[]⟩ Tryz.func74 rfl Tryz.call74 rfl ?_
  unfold kC at h
  (conv=>whnf);refine LnA.lit 6 rfl ?_;(conv=>whnf);refine LoopG.unr 7 ?_;obtain⟨l38,hx70,h⟩:=ab h;(conv=>whnf);refine SeqG.mk Value (fun y=>[(3,.sl 32 y),(11,.d (.list 1 [.ifc 9 (.str words1),.ifc 3 (I words2),.ifc 9 (.str words3),.ifc 3 (I words4),.ifc 9 (.str words5),.ifc 25 (.list 1 (List.map I words6))])),(12,.i .i64 6),(13,.i .i64 0)]) (fun y=>[(32,.arr y 9 1 false (List.map D.str l38))]) (fun _=>True) ?_ ?_
  ·(conv=>whnf);refine Side.mk rfl ⟨_,by decide,rfl,?_⟩;(conv=>whnf);intro hd62;obtain⟨l39,hx71,hx70⟩:=ab hx70;(conv=>whnf);refine Side.mk ⟨rfl,rfl⟩ ?_;(conv=>whnf);refine Need.mk (j2 (f:=D.str) hN hx71 (by decide)) (Eqv.mk (List.map D.str l39) (kZ D.str hx71) ?_);(conv=>whnf);intro hd63;cases hx70;(conv=>whnf);refine⟨hd63,trivial,Sub.eq rfl ?_ ?_⟩
   ·(repeat ((conv=>whnf);refine nr ?_));exact trivial
   ·(conv=>whnf);refine no ?_;exact trivial
  ·rintro hd61 _;obtain⟨l41,hx74,h⟩:=ab h;(conv=>whnf);refine SeqG.mk Value (fun y=>[(3,.sl 32 y),(11,.d (.list 1 [.ifc 9 (.str words1),.ifc 3 (I words2),.ifc 9 (.str words3),.ifc 3 (I words4),.ifc 9 (.str words5),.ifc 25 (.list 1 (List.map I words6))])),(12,.i .i64 6),(13,.i .i64 1)]) (fun y=>[(32,.arr y 9 1 false (List.map D.str l41))]) (fun _=>True) ?_ ?_
   ·(conv=>whnf);refine Side.mk rfl ⟨_,by decide,rfl,?_⟩;obtain⟨r18,hx75,hx74⟩:=ab hx74;(conv=>whnf);refine CallG.pure _ (my hN hx75) ?_;(conv=>whnf);intro hd67;obtain⟨l42,hx76,hx74⟩:=ab hx74;(conv=>whnf);refine Side.mk ⟨rfl,rfl⟩ ?_;(conv=>whnf);refine Side.mk ⟨rfl,rfl,rfl⟩ (Need.mk (aD hN hx76 (by decide)) (Eqv.mk (List.map D.str l42) (aH _ hx76) ?_));(conv=>whnf);intro hd68;cases hx74;(conv=>whnf);refine⟨hd68,trivial,Sub.eq rfl ?_ ?_⟩
    ·(repeat ((conv=>whnf);refine nr ?_));exact trivial
    ·(conv=>whnf);refine no ?_;exact trivial
   ·rintro hd66 _;obtain⟨l44,hx78,h⟩:=ab h;(conv=>whnf);refine SeqG.mk Value (fun y=>[(3,.sl 32 y),(11,.d (.list 1 [.ifc 9 (.str words1),.ifc 3 (I words2),.ifc 9 (.str words3),.ifc 3 (I words4),.ifc 9 (.str words5),.ifc 25 (.list 1 (List.map I words6))])),(12,.i .i64 6),(13,.i .i64 2)]) (fun y=>[(32,.arr y 9 1 false (List.map D.str l44))]) (fun _=>True) ?_ ?_
    ·(conv=>whnf);refine Side.mk rfl ⟨_,by decide,rfl,?_⟩;(conv=>whnf);intro hd72;obtain⟨l45,hx79,hx78⟩:=ab hx78;(conv=>whnf);refine Side.mk ⟨rfl,rfl⟩ ?_;(conv=>whnf);refine Side.mk ⟨rfl,rfl,rfl⟩ (Need.mk (aD hN hx79 (by decide)) (Eqv.mk (List.map D.str l45) (aH _ hx79) ?_));(conv=>whnf);intro hd73;cases hx78;(conv=>whnf);refine⟨hd73,trivial,Sub.eq rfl ?_ ?_⟩
     ·(repeat ((conv=>whnf);refine nr ?_));exact trivial
     ·(conv=>whnf);refine no ?_;exact trivial
    ·rintro hd71 _;obtain⟨l47,hx82,h⟩:=ab h;(conv=>whnf);refine SeqG.mk Value (fun y=>[(3,.sl 32 y),(11,.d (.list 1 [.ifc 9 (.str words1),.ifc 3 (I words2),.ifc 9 (.str words3),.ifc 3 (I words4),.ifc 9 (.str words5),.ifc 25 (.list 1 (List.map I words6))])),(12,.i .i64 6),(13,.i .i64 3)]) (fun y=>[(32,.arr y 9 1 false (List.map D.str l47))]) (fun _=>True) ?_ ?_
     ·(conv=>whnf);refine Side.mk rfl ⟨_,by decide,rfl,?_⟩;obtain⟨r20,hx83,hx82⟩:=ab hx82;(conv=>whnf);refine CallG.pure _ (my hN hx83) ?_;(conv=>whnf);intro hd77;obtain⟨l48,hx84,hx82⟩:=ab hx82;(conv=>whnf);refine Side.mk ⟨rfl,rfl⟩ ?_;(conv=>whnf);refine Side.mk ⟨rfl,rfl,rfl⟩ (Need.mk (aD hN hx84 (by decide)) (Eqv.mk (List.map D.str l48) (aH _ hx84) ?_));(conv=>whnf);intro hd78;cases hx82;(conv=>whnf);refine⟨hd78,trivial,Sub.eq rfl ?_ ?_⟩
      ·(repeat ((conv=>whnf);refine nr ?_));exact trivial
      ·(conv=>whnf);refine no ?_;exact trivial
     ·rintro hd76 _;obtain⟨l50,hx86,h⟩:=ab h;(conv=>whnf);refine SeqG.mk Value (fun y=>[(3,.sl 32 y),(11,.d (.list 1 [.ifc 9 (.str words1),.ifc 3 (I words2),.ifc 9 (.str words3),.ifc 3 (I words4),.ifc 9 (.str words5),.ifc 25 (.list 1 (List.map I words6))])),(12,.i .i64 6),(13,.i .i64 4)]) (fun y=>[(32,.arr y 9 1 false (List.map D.str l50))]) (fun _=>True) ?_ ?_
      ·(conv=>whnf);refine Side.mk rfl ⟨_,by decide,rfl,?_⟩;(conv=>whnf);intro hd82;obtain⟨l51,hx87,hx86⟩:=ab hx86;(conv=>whnf);refine Side.mk ⟨rfl,rfl⟩ ?_;(conv=>whnf);refine Side.mk ⟨rfl,rfl,rfl⟩ (Need.mk (aD hN hx87 (by decide)) (Eqv.mk (List.map D.str l51) (aH _ hx87) ?_));(conv=>whnf);intro hd83;cases hx86;(conv=>whnf);refine⟨hd83,trivial,Sub.eq rfl ?_ ?_⟩
       ·(repeat ((conv=>whnf);refine nr ?_));exact trivial
       ·(conv=>whnf);refine no ?_;exact trivial
      ·rintro hd81 _;obtain⟨l62,hx112,h⟩:=ab h;(conv=>whnf);refine SeqG.mk Value (fun y=>[(3,.sl 32 y),(11,.d (.list 1 [.ifc 9 (.str words1),.ifc 3 (I words2),.ifc 9 (.str words3),.ifc 3 (I words4),.ifc 9 (.str words5),.ifc 25 (.list 1 (List.map I words6))])),(12,.i .i64 6),(13,.i .i64 5)]) (fun y=>[(32,.arr y 9 1 false (List.map D.str l62))]) (fun _=>True) ?_ ?_
       ·(conv=>whnf);refine Side.mk rfl ⟨_,by decide,rfl,?_⟩;(conv=>whnf);refine LnA.mk _ (List.length_map _) ?_;(conv=>whnf);refine LoopG.mk (Nat×(Int×Int×(List (List UInt8)))×Value) (fun y=>[(3,.sl 32 y.2.2),(11,.d (.list 1 [.ifc 9 (.str words1),.ifc 3 (I words2),.ifc 9 (.str words3),.ifc 3 (I words4),.ifc 9 (.str words5),.ifc 25 (.list 1 (List.map I words6))])),(12,.i .i64 6),(13,.i .i64 5),(36,.d (.list 1 (List.map I words6))),(37,.d (I y.2.1.1)),(38,.d (I y.2.1.2.1))]) (fun y=>[(32,.arr y.2.2 9 1 false (List.map D.str y.2.1.2.2))]) (fun y=>aj (fun rr x=>dJ N words6 rr x.1 x.2.1 x.2.2) y.1 y.2.1=some l62) (fun y=>y.1) (N,((words6.length:Int),0,l50),hd81) hx112 (Sub.eq rfl ?_ ?_) ?_
        ·(repeat ((conv=>whnf);refine nr ?_));exact trivial
        ·(conv=>whnf);refine no ?_;exact trivial
        ·rintro⟨n4,⟨v35,v36,l70⟩,hd112⟩ hl4;obtain⟨n4,rfl,hl4⟩:=ar hl4;replace hl4:dJ N words6 (aj (fun rr x=>dJ N words6 rr x.1 x.2.1 x.2.2) n4) v35 v36 l70=some l62:=hl4;rw[dJ]at hl4;refine wB (fun hc24=>?_) (fun hc24=>?_)
         ·replace hl4:=af hc24 hl4;obtain⟨x48,hx134,hl4⟩:=ab hl4;(conv=>whnf);refine Side.mk rfl ⟨_,aC hx134,ak _ hx134,?_⟩;obtain⟨r32,hx135,hl4⟩:=ab hl4;(conv=>whnf);refine CallG.pure _ (my hN hx135) ?_;(conv=>whnf);intro hd115;obtain⟨l72,hx136,hl4⟩:=ab hl4;(conv=>whnf);refine Side.mk ⟨rfl,rfl⟩ ?_;(conv=>whnf);refine Side.mk ⟨rfl,rfl,rfl⟩ (Need.mk (aD hN hx136 (by decide)) (Eqv.mk (List.map D.str l72) (aH _ hx136) ?_));(conv=>whnf);intro hd116;(conv=>whnf);refine⟨(n4,(v35,w64 (v36+1),l72),hd116),hl4,Sub.eq rfl ?_ ?_,Nat.lt_succ_self _⟩
          ·(repeat ((conv=>whnf);refine nr ?_));exact trivial
          ·(conv=>whnf);refine no ?_;exact trivial
         ·replace hl4:=ag hc24 hl4;cases hl4;(conv=>whnf);refine⟨hd112,trivial,Sub.eq rfl ?_ ?_⟩
          ·(repeat ((conv=>whnf);refine nr ?_));exact trivial
          ·(conv=>whnf);refine no ?_;exact trivial
       ·rintro hd100 _;obtain⟨r34,hx138,h⟩:=ab h;refine ws ?_;(conv=>whnf);refine CallG.pure _ (sw hN hx138) ?_;(conv=>whnf);cases h;exact rfl
theorem jc{N:Nat}(hN:N≤1073741824){s1:List UInt8}{bs1:List UInt8}{bo1:Nat}{ho1:Value}{r:(List UInt8)}(h:fM N s1 bs1=some r) :
    ACalls Tryz.prog 72 [.d (.str s1),.ptr 7 bo1 0] [(7,.bld bo1 148 5 ho1 bs1)] fun ae os=>∃y:Value,True∧ae=.ret (.d (.tup []))∧os=[(7,.bld bo1 148 5 y r)]:=by
  refine aJ (fresh:=false) al ap ⟨[],[],[],[],[],10000,[]⟩ Tryz.func72 rfl Tryz.call72 rfl ?_
  unfold fM at h
  obtain⟨s2,hx1,h⟩:=ab h;(conv=>whnf);refine Need.mk (eO hN hx1) ?_;obtain⟨⟨ra1,rb1⟩,hx2,h⟩:=ab h;(conv=>whnf);refine CallG.own (xO (k:=7) (bo:=bo1) (ho:=ho1) hN hx2) id [] _ (fun y=>[(7,.bld bo1 148 5 y rb1)]) (ac _) (ai trivial) rfl (ai trivial) trivial (fun _=>AV.le_refl _) (fun _=>rfl) ?_;rintro hd1 _;(conv=>whnf);cases h;exact⟨hd1,trivial,rfl,aA (ren:=id) (ai trivial)⟩
theorem od{N:Nat}(hN:N≤1073741824){b1:RateBook}{Q:((List Int)×Int)→Prop}(h:fp N b1 Q) :
    ACalls Tryz.prog 75 [.d (.agg [I b1.fLaw.fBase,I b1.fLaw.fPercent,I b1.fLaw.fCap,I b1.fLaw.fLeast,I b1.fLaw.fBlind,.list 1 (List.map I b1.fBowlers),.list 6 (List.map RateSheet.enc b1.fSheets),.list 1 (List.map I b1.fWithdrawn)])] [] (fun ae os=>∃r:(List Int)×Int,Q r∧(fun e os=>e=.ret (.d (.tup [.list 1 (List.map I r.1),I r.2]))∧os=[]) ae os):=by
  refine bt (fresh:=false) al ap ⟨[1],[],[32],[],[1005],0,[]⟩ Tryz.func75 rfl Tryz.call75 rfl ?_
  unfold fp at h
  obtain⟨⟨ra2,rb2,rc2,rd2,re2,rf2,rg2,rh2,ri2,rj2⟩,hx2,h⟩:=bw h;(conv=>whnf);refine CallG.own (ke hN hx2) id [] _ (fun y=>[(605019,.cells y.1 [.d (I rb2),.d (I rc2),.d (I rd2),.d (I re2),.d (I rf2),.d (.list 1 (List.map I rg2)),.d (.list 6 (List.map RateSheet.enc rh2)),.d (.list 1 (List.map I ri2)),.mp 605017 y.2]),(605017,.map y.2 (List.map (fun p=>(.agg [I p.1.fBowler,I p.1.fWeek],.agg [I p.2.fNumber,I p.2.fBowler,I p.2.fWeek,I p.2.fGames.a0,I p.2.fGames.a1,I p.2.fGames.a2])) rj2))]) (ac _) trivial rfl trivial trivial (fun _=>AV.le_refl _) (fun _=>rfl) ?_;rintro⟨b4,b5⟩ _;refine wB (fun hc2=>?_) (fun hc2=>?_)
  ·replace h:=dF hc2 h;(conv=>whnf);have hv:Q _:=h;exact⟨[],⟨_,hv,rfl,rfl⟩,fun _ hq=>nomatch hq⟩
  ·replace h:=dG hc2 h;(conv=>whnf);refine SeqG.mk ((List Int)×Value) (fun y=>[(6,.sl 30 y.2)]) (fun y=>[(30,.arr y.2 3 1 false (List.map I y.1))]) (fun y=>cx N y.1 Q) ?_ ?_
   ·(iterate 2 refine ws ?_);intro ib4;(conv=>whnf)
    refine LoopG.mk (Nat×((List Int)×(List (RateTurn×RateSheet)))×Value) (fun y=>[(6,.sl 30 y.2.2),(21,.it 21 ib4)]) (fun y=>[(30,.arr y.2.2 3 1 false (List.map I y.2.1.1)),(21,.mit ib4 605017 b5 (List.map (fun p:RateTurn×RateSheet=>(.agg [I p.1.fBowler,I p.1.fWeek],.agg [I p.2.fNumber,I p.2.fBowler,I p.2.fWeek,I p.2.fGames.a0,I p.2.fGames.a1,I p.2.fGames.a2])) rj2) (List.map (fun p:RateTurn×RateSheet=>(.agg [I p.1.fBowler,I p.1.fWeek],.agg [I p.2.fNumber,I p.2.fBowler,I p.2.fWeek,I p.2.fGames.a0,I p.2.fGames.a1,I p.2.fGames.a2])) y.2.1.2) none),(605017,.map b5 (List.map (fun p=>(.agg [I p.1.fBowler,I p.1.fWeek],.agg [I p.2.fNumber,I p.2.fBowler,I p.2.fWeek,I p.2.fGames.a0,I p.2.fGames.a1,I p.2.fGames.a2])) rj2))]) (fun y=>aG (fun rr x=>bx N rr x.1 x.2) y.1 y.2.1 Q) (fun y=>y.1) (N,([],rj2),(.slice none 0 0)) h (Sub.eq rfl ?_ ?_) ?_
    ·(repeat ((conv=>whnf);refine nr ?_));exact trivial
    ·(conv=>whnf);refine Need.mk (OLe.nil _ _ _ _) ?_;(iterate 2 ((conv=>whnf);refine no ?_));exact trivial
    ·rintro⟨n2,⟨l14,rem18⟩,hd19⟩ hl2;obtain⟨n2,rfl,hl2⟩:=gO hl2;replace hl2:bx N (aG (fun rr x=>bx N rr x.1 x.2) n2) l14 rem18 Q:=hl2;rw[bx]at hl2;(conv=>whnf);refine Side.mk ⟨rfl,rfl,rfl⟩ (NextG.of (fun p:RateTurn×RateSheet=>(.agg [I p.1.fBowler,I p.1.fWeek],.agg [I p.2.fNumber,I p.2.fBowler,I p.2.fWeek,I p.2.fGames.a0,I p.2.fGames.a1,I p.2.fGames.a2])) rem18 rfl (fun h0=>?_) ?_)
     ·replace hl2:=pY hl2 h0;(conv=>whnf);refine⟨(l14,hd19),hl2,Sub.eq rfl ?_ ?_⟩
      ·(repeat ((conv=>whnf);refine nr ?_));exact trivial
      ·(conv=>whnf);refine no ?_;exact trivial
     ·rintro⟨k12,v18⟩ rem20 hs;replace hl2:=pZ hl2 hs;(conv=>whnf);refine Side.mk ⟨rfl,rfl,rfl⟩ ?_;(conv=>whnf);intro b17;(iterate 2 refine ws ?_);(conv=>whnf);intro hd20;obtain⟨l15,hx10,hl2⟩:=bw hl2;(conv=>whnf);refine Side.mk ⟨rfl,rfl⟩ ?_;(conv=>whnf);refine Side.mk ⟨rfl,rfl,rfl⟩ (Need.mk (aD hN hx10 (by decide)) (Eqv.mk (List.map I l15) (aH _ hx10) ?_));(conv=>whnf);intro hd21;(conv=>whnf);refine⟨(n2,(l15,rem20),hd21),hl2,Sub.eq rfl ?_ ?_,Nat.lt_succ_self _⟩
      ·(repeat ((conv=>whnf);refine nr ?_));exact trivial
      ·(conv=>whnf);refine no ?_;(conv=>whnf);refine Need.mk (OLe.mit _ _ _ _ _ _) ?_;(conv=>whnf);refine no ?_;exact trivial
   ·clear h;rintro⟨l8,hd11⟩ h;unfold cx at h;obtain⟨r2,hx7,h⟩:=bw h;(conv=>whnf);refine CallG.own (xb (k:=30) (ho:=hd11) hN hx7) id [] _ (fun y=>[(30,.arr hd11 3 1 false (List.map I r2))]) (ac _) (ai trivial) rfl (ai trivial) trivial (fun _=>AV.le_refl _) (fun _=>rfl) ?_;rintro _ _;refine ws ?_;(conv=>whnf);have hv:Q _:=h;exact⟨[],⟨_,hv,rfl,rfl⟩,fun _ hq=>nomatch hq⟩
theorem oM{N:Nat}(hN:N≤1073741824){b1:RateBook}{r:(List Int)×Int}(h:gh N b1=some r) :
    ACalls Tryz.prog 75 [.d (.agg [I b1.fLaw.fBase,I b1.fLaw.fPercent,I b1.fLaw.fCap,I b1.fLaw.fLeast,I b1.fLaw.fBlind,.list 1 (List.map I b1.fBowlers),.list 6 (List.map RateSheet.enc b1.fSheets),.list 1 (List.map I b1.fWithdrawn)])] [] (fun e os=>e=.ret (.d (.tup [.list 1 (List.map I r.1),I r.2]))∧os=[]):=(od hN (q9 h)).mono (by rintro ae os ⟨x,rfl,hp⟩;exact hp)
theorem qg{N:Nat}(hN:N≤1073741824){words1:List UInt8}{words2:Int}{words3:List UInt8}{words4:Int}{words5:List UInt8}{words6:Int}{r:(List UInt8)}(h:jA N words1 words2 words3 words4 words5 words6=some r) :
    ACalls Tryz.prog 74 [.d (.list 1 [.ifc 9 (.str words1),.ifc 3 (I words2),.ifc 9 (.str words3),.ifc 3 (I words4),.ifc 9 (.str words5),.ifc 3 (I words6)])] [] fun e os=>e=.ret (.d (.str r))∧os=[]:=by
  refine ah (fresh:=false) al ap ⟨[],[],[],[],[1004],0,[]⟩ Tryz.func74 rfl Tryz.call74 rfl ?_
  unfold jA at h
  (conv=>whnf);refine LnA.lit 6 rfl ?_;(conv=>whnf);refine LoopG.unr 7 ?_;obtain⟨l20,hx26,h⟩:=ab h;(conv=>whnf);refine SeqG.mk Value (fun y=>[(3,.sl 32 y),(11,.d (.list 1 [.ifc 9 (.str words1),.ifc 3 (I words2),.ifc 9 (.str words3),.ifc 3 (I words4),.ifc 9 (.str words5),.ifc 3 (I words6)])),(12,.i .i64 6),(13,.i .i64 0)]) (fun y=>[(32,.arr y 9 1 false (List.map D.str l20))]) (fun _=>True) ?_ ?_
  ·(conv=>whnf);refine Side.mk rfl ⟨_,by decide,rfl,?_⟩;(conv=>whnf);intro hd34;obtain⟨l21,hx27,hx26⟩:=ab hx26;(conv=>whnf);refine Side.mk ⟨rfl,rfl⟩ ?_;(conv=>whnf);refine Need.mk (j2 (f:=D.str) hN hx27 (by decide)) (Eqv.mk (List.map D.str l21) (kZ D.str hx27) ?_);(conv=>whnf);intro hd35;cases hx26;(conv=>whnf);refine⟨hd35,trivial,Sub.eq rfl ?_ ?_⟩
   ·(repeat ((conv=>whnf);refine nr ?_));exact trivial
   ·(conv=>whnf);refine no ?_;exact trivial
  ·rintro hd33 _;obtain⟨l23,hx30,h⟩:=ab h;(conv=>whnf);refine SeqG.mk Value (fun y=>[(3,.sl 32 y),(11,.d (.list 1 [.ifc 9 (.str words1),.ifc 3 (I words2),.ifc 9 (.str words3),.ifc 3 (I words4),.ifc 9 (.str words5),.ifc 3 (I words6)])),(12,.i .i64 6),(13,.i .i64 1)]) (fun y=>[(32,.arr y 9 1 false (List.map D.str l23))]) (fun _=>True) ?_ ?_
   ·(conv=>whnf);refine Side.mk rfl ⟨_,by decide,rfl,?_⟩;obtain⟨r8,hx31,hx30⟩:=ab hx30;(conv=>whnf);refine CallG.pure _ (my hN hx31) ?_;(conv=>whnf);intro hd39;obtain⟨l24,hx32,hx30⟩:=ab hx30;(conv=>whnf);refine Side.mk ⟨rfl,rfl⟩ ?_;(conv=>whnf);refine Side.mk ⟨rfl,rfl,rfl⟩ (Need.mk (aD hN hx32 (by decide)) (Eqv.mk (List.map D.str l24) (aH _ hx32) ?_));(conv=>whnf);intro hd40;cases hx30;(conv=>whnf);refine⟨hd40,trivial,Sub.eq rfl ?_ ?_⟩
    ·(repeat ((conv=>whnf);refine nr ?_));exact trivial
    ·(conv=>whnf);refine no ?_;exact trivial
   ·rintro hd38 _;obtain⟨l26,hx34,h⟩:=ab h;(conv=>whnf);refine SeqG.mk Value (fun y=>[(3,.sl 32 y),(11,.d (.list 1 [.ifc 9 (.str words1),.ifc 3 (I words2),.ifc 9 (.str words3),.ifc 3 (I words4),.ifc 9 (.str words5),.ifc 3 (I words6)])),(12,.i .i64 6),(13,.i .i64 2)]) (fun y=>[(32,.arr y 9 1 false (List.map D.str l26))]) (fun _=>True) ?_ ?_
    ·(conv=>whnf);refine Side.mk rfl ⟨_,by decide,rfl,?_⟩;(conv=>whnf);intro hd44;obtain⟨l27,hx35,hx34⟩:=ab hx34;(conv=>whnf);refine Side.mk ⟨rfl,rfl⟩ ?_;(conv=>whnf);refine Side.mk ⟨rfl,rfl,rfl⟩ (Need.mk (aD hN hx35 (by decide)) (Eqv.mk (List.map D.str l27) (aH _ hx35) ?_));(conv=>whnf);intro hd45;cases hx34;(conv=>whnf);refine⟨hd45,trivial,Sub.eq rfl ?_ ?_⟩
     ·(repeat ((conv=>whnf);refine nr ?_));exact trivial
     ·(conv=>whnf);refine no ?_;exact trivial
    ·rintro hd43 _;obtain⟨l29,hx38,h⟩:=ab h;(conv=>whnf);refine SeqG.mk Value (fun y=>[(3,.sl 32 y),(11,.d (.list 1 [.ifc 9 (.str words1),.ifc 3 (I words2),.ifc 9 (.str words3),.ifc 3 (I words4),.ifc 9 (.str words5),.ifc 3 (I words6)])),(12,.i .i64 6),(13,.i .i64 3)]) (fun y=>[(32,.arr y 9 1 false (List.map D.str l29))]) (fun _=>True) ?_ ?_
     ·(conv=>whnf);refine Side.mk rfl ⟨_,by decide,rfl,?_⟩;obtain⟨r10,hx39,hx38⟩:=ab hx38;(conv=>whnf);refine CallG.pure _ (my hN hx39) ?_;(conv=>whnf);intro hd49;obtain⟨l30,hx40,hx38⟩:=ab hx38;(conv=>whnf);refine Side.mk ⟨rfl,rfl⟩ ?_;(conv=>whnf);refine Side.mk ⟨rfl,rfl,rfl⟩ (Need.mk (aD hN hx40 (by decide)) (Eqv.mk (List.map D.str l30) (aH _ hx40) ?_));(conv=>whnf);intro hd50;cases hx38;(conv=>whnf);refine⟨hd50,trivial,Sub.eq rfl ?_ ?_⟩
      ·(repeat ((conv=>whnf);refine nr ?_));exact trivial
      ·(conv=>whnf);refine no ?_;exact trivial
     ·rintro hd48 _;obtain⟨l32,hx42,h⟩:=ab h;(conv=>whnf);refine SeqG.mk Value (fun y=>[(3,.sl 32 y),(11,.d (.list 1 [.ifc 9 (.str words1),.ifc 3 (I words2),.ifc 9 (.str words3),.ifc 3 (I words4),.ifc 9 (.str words5),.ifc 3 (I words6)])),(12,.i .i64 6),(13,.i .i64 4)]) (fun y=>[(32,.arr y 9 1 false (List.map D.str l32))]) (fun _=>True) ?_ ?_
      ·(conv=>whnf);refine Side.mk rfl ⟨_,by decide,rfl,?_⟩;(conv=>whnf);intro hd54;obtain⟨l33,hx43,hx42⟩:=ab hx42;(conv=>whnf);refine Side.mk ⟨rfl,rfl⟩ ?_;(conv=>whnf);refine Side.mk ⟨rfl,rfl,rfl⟩ (Need.mk (aD hN hx43 (by decide)) (Eqv.mk (List.map D.str l33) (aH _ hx43) ?_));(conv=>whnf);intro hd55;cases hx42;(conv=>whnf);refine⟨hd55,trivial,Sub.eq rfl ?_ ?_⟩
       ·(repeat ((conv=>whnf);refine nr ?_));exact trivial
       ·(conv=>whnf);refine no ?_;exact trivial
      ·rintro hd53 _;obtain⟨l35,hx46,h⟩:=ab h;(conv=>whnf);refine SeqG.mk Value (fun y=>[(3,.sl 32 y),(11,.d (.list 1 [.ifc 9 (.str words1),.ifc 3 (I words2),.ifc 9 (.str words3),.ifc 3 (I words4),.ifc 9 (.str words5),.ifc 3 (I words6)])),(12,.i .i64 6),(13,.i .i64 5)]) (fun y=>[(32,.arr y 9 1 false (List.map D.str l35))]) (fun _=>True) ?_ ?_
       ·(conv=>whnf);refine Side.mk rfl ⟨_,by decide,rfl,?_⟩;obtain⟨r12,hx47,hx46⟩:=ab hx46;(conv=>whnf);refine CallG.pure _ (my hN hx47) ?_;(conv=>whnf);intro hd59;obtain⟨l36,hx48,hx46⟩:=ab hx46;(conv=>whnf);refine Side.mk ⟨rfl,rfl⟩ ?_;(conv=>whnf);refine Side.mk ⟨rfl,rfl,rfl⟩ (Need.mk (aD hN hx48 (by decide)) (Eqv.mk (List.map D.str l36) (aH _ hx48) ?_));(conv=>whnf);intro hd60;cases hx46;(conv=>whnf);refine⟨hd60,trivial,Sub.eq rfl ?_ ?_⟩
        ·(repeat ((conv=>whnf);refine nr ?_));exact trivial
        ·(conv=>whnf);refine no ?_;exact trivial
       ·rintro hd58 _;obtain⟨r14,hx50,h⟩:=ab h;refine ws ?_;(conv=>whnf);refine CallG.pure _ (sw hN hx50) ?_;(conv=>whnf);cases h;exact rfl
theorem qh{N:Nat}(hN:N≤1073741824){c1:DeskWork}{bo1:Nat}{r:LadderCup}(h:jB N c1=some r) :
    ACalls Tryz.prog 76 [.ptr 540003 bo1 0] [kW bo1 c1] fun ae os=>∃y:Unit,True∧ae=.ret (.d (.agg [.int .u8 r.fForm,I r.fPlayers,I r.fGames,.list 3 (List.map LadderResult.enc r.fResults)]))∧os=[kW bo1 c1]:=by
  refine aJ (fresh:=false) al ap ⟨[],[],[],[],[],550000,[]⟩ Tryz.func76 rfl Tryz.call76 rfl ?_
  unfold jB at h
  (conv=>whnf);intro b2;(conv=>whnf);refine DrawG.mk (.take 0 (.take 1 (.take 2 (.take 3 (.take 4 (.take 5 (.take 6 (.take 7 (.take 8 (.take 9 (.take 10 (.alt 11 [9,8,7,6,4,3,2,1,0] (.alt 12 [] .done .nil) .nil)))))))))))) (by kernel_rfl) ?_;refine ws ?_;(conv=>whnf);refine LnA.mk _ (List.length_map _) ?_;refine ws ?_;refine wb ?_;(iterate 4 refine wl ?_);refine ws ?_;(iterate 5 refine wl ?_);refine wb ?_;(iterate 2 refine ws ?_);(conv=>whnf);cases h;exact⟨(),trivial,rfl,aA (ren:=id) (ai trivial)⟩
theorem mJ{N:Nat}(hN:N≤1073741824){r1:LadderResult}{r:Bool}(h:gI N r1=some r) :
    ACalls Tryz.prog 132 [.d (.agg [I r1.fMatch,.list 1 (List.map I r1.fGames),.bool r1.fProtested])] [] fun e os=>e=.ret (.d (.bool r))∧os=[]:=by
  refine ah (fresh:=false) al ap ⟨[1],[],[],[],[],0,[]⟩ Tryz.func132 rfl Tryz.call132 rfl ?_
  unfold gI at h
  (conv=>whnf);refine LnA.mk _ (List.length_map _) ?_;(conv=>whnf);cases h;exact rfl
theorem rq{N:Nat}(hN:N≤1073741824){x1:LadderResult}{r:Bool}(h:kD N x1=some r) :
    ACalls Tryz.prog 174 [.d (.agg [I x1.fMatch,.list 1 (List.map I x1.fGames),.bool x1.fProtested]),.d (.ref (.agg [.fn (.func 132) [] []]))] [] fun e os=>e=.ret (.d (.bool r))∧os=[]:=by
  refine ah (fresh:=false) al ap ⟨[2],[],[],[],[],0,[]⟩ Tryz.func174 rfl Tryz.call174 rfl ?_
  unfold kD at h
  obtain⟨r2,hx2,h⟩:=ab h;(conv=>whnf);refine CallG.pure _ (mJ hN hx2) ?_;(conv=>whnf);cases h;exact rfl
theorem jq{N:Nat}(hN:N≤1073741824){s1:List LadderResult}{r:Int}(h:dl N s1=some r) :
    ACalls Tryz.prog 221 [.d (.list 3 (List.map LadderResult.enc s1)),.d (.fn (.func 174) [] [.ref (.agg [.fn (.func 132) [] []])])] [] fun e os=>e=.ret (.d (I r))∧os=[]:=by
  refine ah (fresh:=false) al ap ⟨[],[],[],[],[1001],0,[]⟩ Tryz.func221 rfl Tryz.call221 rfl ?_
  unfold dl at h
  (conv=>whnf);refine SeqG.mk Unit (fun y=>[]) (fun y=>[]) (fun y=>cy N=some r) ?_ ?_
  ·(conv=>whnf);refine LnA.mk _ (List.length_map _) ?_;(conv=>whnf);refine LoopG.mk (Nat×(Int×Int)) (fun y=>[(0,.d (.list 3 (List.map LadderResult.enc s1))),(1,.d (.fn (.func 174) [] [.ref (.agg [.fn (.func 132) [] []])])),(7,.d (I y.2.1)),(8,.d (I y.2.2))]) (fun y=>[]) (fun y=>aj (fun rr x=>bc N s1 rr x.1 x.2) y.1 y.2=some r) (fun y=>y.1) (N,((s1.length:Int),0)) h (Sub.eq rfl ?_ ?_) ?_
   ·(repeat ((conv=>whnf);refine nr ?_));exact trivial
   ·exact trivial
   ·rintro⟨n2,⟨v17,v18⟩⟩ hl2;obtain⟨n2,rfl,hl2⟩:=ar hl2;replace hl2:bc N s1 (aj (fun rr x=>bc N s1 rr x.1 x.2) n2) v17 v18=some r:=hl2;rw[bc]at hl2;refine wB (fun hc22=>?_) (fun hc22=>?_)
    ·replace hl2:=af hc22 hl2;obtain⟨x24,hx47,hl2⟩:=ab hl2;(conv=>whnf);refine Side.mk rfl ⟨_,aC hx47,ak _ hx47,?_⟩;obtain⟨r24,hx48,hl2⟩:=ab hl2;(conv=>whnf);refine CallG.pure _ (rq hN hx48) ?_;refine wB (fun hc24=>?_) (fun hc24=>?_)
     ·replace hl2:=af hc24 hl2;(conv=>whnf);cases hl2;exact rfl
     ·replace hl2:=ag hc24 hl2;(conv=>whnf);exact⟨(n2,(v17,w64 (v18+1))),hl2,xT,Nat.lt_succ_self _⟩
    ·replace hl2:=ag hc22 hl2;(conv=>whnf);exact⟨(),hl2,xT⟩
  ·clear h;rintro _ h;unfold cy at h;(conv=>whnf);cases h;exact rfl
theorem il{N:Nat}(hN:N≤1073741824){s1:List LadderResult}{r:Bool}(h:cz N s1=some r) :
    ACalls Tryz.prog 173 [.d (.list 3 (List.map LadderResult.enc s1)),.d (.fn (.func 174) [] [.ref (.agg [.fn (.func 132) [] []])])] [] fun e os=>e=.ret (.d (.bool r))∧os=[]:=by
  refine ah (fresh:=false) al ap ⟨[],[],[],[],[],0,[]⟩ Tryz.func173 rfl Tryz.call173 rfl ?_
  unfold cz at h
  obtain⟨r2,hx2,h⟩:=ab h;(conv=>whnf);refine CallG.pure _ (jq hN hx2) ?_;(conv=>whnf);cases h;exact rfl
theorem ss{N:Nat}(hN:N≤1073741824){l1:List LadderResult}{r:Bool}(h:lM N l1=some r) :
    ACalls Tryz.prog 135 [.d (.list 3 (List.map LadderResult.enc l1)),.d (.fn (.func 132) [] [])] [] fun e os=>e=.ret (.d (.bool r))∧os=[]:=by
  refine ah (fresh:=false) al ap ⟨[3],[],[],[],[],0,[]⟩ Tryz.func135 rfl Tryz.call135 rfl ?_
  unfold lM at h
  obtain⟨r2,hx2,h⟩:=ab h;(conv=>whnf);refine CallG.pure _ (il hN hx2) ?_;(conv=>whnf);cases h;exact rfl
theorem im{N:Nat}(hN:N≤1073741824){n1:Int}{low1:Int}{high1:Int}{r:Bool}(h:eH N n1 low1 high1=some r) :
    ACalls Tryz.prog 134 [.d (I n1),.d (I low1),.d (I high1)] [] fun e os=>e=.ret (.d (.bool r))∧os=[]:=by
  refine ah (fresh:=false) al ap ⟨[],[],[],[],[1],0,[]⟩ Tryz.func134 rfl Tryz.call134 rfl ?_
  unfold eH at h
  obtain⟨v2,hx1,h⟩:=ab h;(conv=>whnf);refine SeqG.mk Unit (fun y=>[(6,.d (.bool v2))]) (fun y=>[]) (fun _=>True) ?_ ?_
  ·refine wB (fun hc2=>?_) (fun hc2=>?_)
   ·replace hx1:=af hc2 hx1;cases hx1;(conv=>whnf);exact⟨(),trivial,xT⟩
   ·replace hx1:=ag hc2 hx1;cases hx1;(conv=>whnf);exact⟨(),trivial,xT⟩
  ·rintro _ _;(conv=>whnf);cases h;exact rfl
theorem mK{N:Nat}(hN:N≤1073741824){c1:LadderCup}{r:Int}(h:gJ N c1=some r) :
    ACalls Tryz.prog 136 [.d (.agg [.int .u8 c1.fForm,I c1.fPlayers,I c1.fGames,.list 3 (List.map LadderResult.enc c1.fResults)])] [] fun e os=>e=.ret (.d (I r))∧os=[]:=by
  refine ah (fresh:=false) al ap ⟨[1],[],[],[],[1],0,[]⟩ Tryz.func136 rfl Tryz.call136 rfl ?_
  unfold gJ at h
  obtain⟨v4,hx8,h⟩:=ab h;(conv=>whnf);refine SeqG.mk Unit (fun y=>[(23,.d (.bool v4))]) (fun y=>[]) (fun _=>True) ?_ ?_
  ·refine wB (fun hc11=>?_) (fun hc11=>?_)
   ·replace hx8:=ag hc11 hx8;obtain⟨r7,hx9,hx8⟩:=ab hx8;(conv=>whnf);refine CallG.pure _ (im hN hx9) ?_;refine wB (fun hc12=>?_) (fun hc12=>?_)
    ·replace hx8:=ag hc12 hx8;obtain⟨r8,hx10,hx8⟩:=ab hx8;(conv=>whnf);refine CallG.pure _ (im hN hx10) ?_;refine wB (fun hc13=>?_) (fun hc13=>?_)
     ·replace hx8:=ag hc13 hx8;(conv=>whnf);refine Need.mk (by decide) ?_;cases hx8;(conv=>whnf);exact⟨(),trivial,xT⟩
     ·replace hx8:=af hc13 hx8;cases hx8;(conv=>whnf);exact⟨(),trivial,xT⟩
    ·replace hx8:=af hc12 hx8;cases hx8;(conv=>whnf);exact⟨(),trivial,xT⟩
   ·replace hx8:=af hc11 hx8;cases hx8;(conv=>whnf);exact⟨(),trivial,xT⟩
  ·rintro _ _;refine wB (fun hc14=>?_) (fun hc14=>?_)
   ·replace h:=af hc14 h;cases h
   ·replace h:=ag hc14 h;(conv=>whnf);cases h;exact rfl
theorem mL{N:Nat}(hN:N≤1073741824){r1:LadderResult}{a1:LadderCup}{r:Bool}(h:gK N r1 a1=some r) :
    ACalls Tryz.prog 133 [.d (.agg [I r1.fMatch,.list 1 (List.map I r1.fGames),.bool r1.fProtested]),.d (.ref (.agg [.int .u8 a1.fForm,I a1.fPlayers,I a1.fGames,.list 3 (List.map LadderResult.enc a1.fResults)]))] [] fun e os=>e=.ret (.d (.bool r))∧os=[]:=by
  refine ah (fresh:=false) al ap ⟨[2],[],[],[],[1],0,[]⟩ Tryz.func133 rfl Tryz.call133 rfl ?_
  unfold gK at h
  obtain⟨v2,hx2,h⟩:=ab h;(conv=>whnf);refine SeqG.mk Unit (fun y=>[(3,.d (.bool v2))]) (fun y=>[]) (fun _=>True) ?_ ?_
  ·obtain⟨r3,hx3,hx2⟩:=ab hx2;(conv=>whnf);refine CallG.pure _ (im hN hx3) ?_;refine wB (fun hc2=>?_) (fun hc2=>?_)
   ·replace hx2:=af hc2 hx2;(conv=>whnf);refine LnA.mk _ (List.length_map _) ?_;cases hx2;(conv=>whnf);exact⟨(),trivial,xT⟩
   ·replace hx2:=ag hc2 hx2;cases hx2;(conv=>whnf);exact⟨(),trivial,xT⟩
  ·rintro _ _;(conv=>whnf);cases h;exact rfl
theorem qi{N:Nat}(hN:N≤1073741824){x1:LadderResult}{a1:LadderCup}{r:Bool}(h:jC N x1 a1=some r) :
    ACalls Tryz.prog 174 [.d (.agg [I x1.fMatch,.list 1 (List.map I x1.fGames),.bool x1.fProtested]),.d (.ref (.agg [.fn (.func 133) [] [.ref (.agg [.int .u8 a1.fForm,I a1.fPlayers,I a1.fGames,.list 3 (List.map LadderResult.enc a1.fResults)])]]))] [] fun e os=>e=.ret (.d (.bool r))∧os=[]:=by
  refine ah (fresh:=false) al ap ⟨[2],[],[],[],[],0,[]⟩ Tryz.func174 rfl Tryz.call174 rfl ?_
  unfold jC at h
  obtain⟨r2,hx2,h⟩:=ab h;(conv=>whnf);refine CallG.pure _ (mL hN hx2) ?_;(conv=>whnf);cases h;exact rfl
theorem jd{N:Nat}(hN:N≤1073741824){s1:List LadderResult}{f1:LadderCup}{r:Int}(h:cV N s1 f1=some r) :
    ACalls Tryz.prog 221 [.d (.list 3 (List.map LadderResult.enc s1)),.d (.fn (.func 174) [] [.ref (.agg [.fn (.func 133) [] [.ref (.agg [.int .u8 f1.fForm,I f1.fPlayers,I f1.fGames,.list 3 (List.map LadderResult.enc f1.fResults)])]])])] [] fun e os=>e=.ret (.d (I r))∧os=[]:=by
  refine ah (fresh:=false) al ap ⟨[],[],[],[],[1001],0,[]⟩ Tryz.func221 rfl Tryz.call221 rfl ?_
  unfold cV at h
  (conv=>whnf);refine SeqG.mk Unit (fun y=>[]) (fun y=>[]) (fun y=>ci N=some r) ?_ ?_
  ·(conv=>whnf);refine LnA.mk _ (List.length_map _) ?_;(conv=>whnf);refine LoopG.mk (Nat×(Int×Int)) (fun y=>[(0,.d (.list 3 (List.map LadderResult.enc s1))),(1,.d (.fn (.func 174) [] [.ref (.agg [.fn (.func 133) [] [.ref (.agg [.int .u8 f1.fForm,I f1.fPlayers,I f1.fGames,.list 3 (List.map LadderResult.enc f1.fResults)])]])])),(7,.d (I y.2.1)),(8,.d (I y.2.2))]) (fun y=>[]) (fun y=>aj (fun rr x=>aW N s1 f1 rr x.1 x.2) y.1 y.2=some r) (fun y=>y.1) (N,((s1.length:Int),0)) h (Sub.eq rfl ?_ ?_) ?_
   ·(repeat ((conv=>whnf);refine nr ?_));exact trivial
   ·exact trivial
   ·rintro⟨n2,⟨v17,v18⟩⟩ hl2;obtain⟨n2,rfl,hl2⟩:=ar hl2;replace hl2:aW N s1 f1 (aj (fun rr x=>aW N s1 f1 rr x.1 x.2) n2) v17 v18=some r:=hl2;rw[aW]at hl2;refine wB (fun hc22=>?_) (fun hc22=>?_)
    ·replace hl2:=af hc22 hl2;obtain⟨x24,hx47,hl2⟩:=ab hl2;(conv=>whnf);refine Side.mk rfl ⟨_,aC hx47,ak _ hx47,?_⟩;obtain⟨r24,hx48,hl2⟩:=ab hl2;(conv=>whnf);refine CallG.pure _ (qi hN hx48) ?_;refine wB (fun hc24=>?_) (fun hc24=>?_)
     ·replace hl2:=af hc24 hl2;(conv=>whnf);cases hl2;exact rfl
     ·replace hl2:=ag hc24 hl2;(conv=>whnf);exact⟨(n2,(v17,w64 (v18+1))),hl2,xT,Nat.lt_succ_self _⟩
    ·replace hl2:=ag hc22 hl2;(conv=>whnf);exact⟨(),hl2,xT⟩
  ·clear h;rintro _ h;unfold ci at h;(conv=>whnf);cases h;exact rfl
theorem gR{N:Nat}(hN:N≤1073741824){s1:List LadderResult}{f1:LadderCup}{r:Bool}(h:ck N s1 f1=some r) :
    ACalls Tryz.prog 173 [.d (.list 3 (List.map LadderResult.enc s1)),.d (.fn (.func 174) [] [.ref (.agg [.fn (.func 133) [] [.ref (.agg [.int .u8 f1.fForm,I f1.fPlayers,I f1.fGames,.list 3 (List.map LadderResult.enc f1.fResults)])]])])] [] fun e os=>e=.ret (.d (.bool r))∧os=[]:=by
  refine ah (fresh:=false) al ap ⟨[],[],[],[],[],0,[]⟩ Tryz.func173 rfl Tryz.call173 rfl ?_
  unfold ck at h
  obtain⟨r2,hx2,h⟩:=ab h;(conv=>whnf);refine CallG.pure _ (jd hN hx2) ?_;(conv=>whnf);cases h;exact rfl
theorem rt{N:Nat}(hN:N≤1073741824){l1:List LadderResult}{right1:LadderCup}{r:Bool}(h:kE N l1 right1=some r) :
    ACalls Tryz.prog 135 [.d (.list 3 (List.map LadderResult.enc l1)),.d (.fn (.func 133) [] [.ref (.agg [.int .u8 right1.fForm,I right1.fPlayers,I right1.fGames,.list 3 (List.map LadderResult.enc right1.fResults)])])] [] fun e os=>e=.ret (.d (.bool r))∧os=[]:=by
  refine ah (fresh:=false) al ap ⟨[3],[],[],[],[],0,[]⟩ Tryz.func135 rfl Tryz.call135 rfl ?_
  unfold kE at h
  obtain⟨r2,hx2,h⟩:=ab h;(conv=>whnf);refine CallG.pure _ (gR hN hx2) ?_;(conv=>whnf);cases h;exact rfl
theorem kf{N:Nat}(hN:N≤1073741824){n1:Int}{r:LadderSide}(h:gi N n1=some r) :
    ACalls Tryz.prog 222 [.d (I n1)] [] fun e os=>e=.ret (.d (.agg [I r.fPlayer,I r.fMatch]))∧os=[]:=by
  refine ah (fresh:=false) al ap ⟨[],[],[],[],[],0,[]⟩ Tryz.func222 rfl Tryz.call222 rfl ?_
  unfold gi at h
  (conv=>whnf);intro b2;(iterate 2 refine ws ?_);(conv=>whnf);cases h;exact rfl
theorem l0{N:Nat}(hN:N≤1073741824){c1:LadderCup}{r:(List LadderPair)}(h:fX N c1=some r) :
    ACalls Tryz.prog 175 [.d (.agg [.int .u8 c1.fForm,I c1.fPlayers,I c1.fGames,.list 3 (List.map LadderResult.enc c1.fResults)])] [] fun e os=>e=.ret (.d (.list 4 (List.map LadderPair.enc r)))∧os=[]:=by
  refine ah (fresh:=false) al ap ⟨[1],[],[],[],[1003],0,[]⟩ Tryz.func175 rfl Tryz.call175 rfl ?_
  unfold fX at h
  obtain⟨r3,hx3,h⟩:=ab h;(conv=>whnf);refine CallG.pure _ (kf hN hx3) ?_;obtain⟨r4,hx4,h⟩:=ab h;(conv=>whnf);refine CallG.pure _ (kf hN hx4) ?_;(conv=>whnf);intro hd2;obtain⟨l6,hx5,h⟩:=ab h;(conv=>whnf);refine SeqG.mk Unit (fun y=>[(4,.sl 15 hd2)]) (fun y=>[(15,.arr hd2 288 4 false (List.map LadderPair.enc l6))]) (fun _=>True) ?_ ?_
  ·(conv=>whnf);refine LoopG.mk (Nat×(Int×(List LadderPair))) (fun y=>[(3,.d (I y.2.1)),(4,.sl 15 hd2),(5,.i .i64 1)]) (fun y=>[(15,.arr hd2 288 4 false (List.map LadderPair.enc y.2.2))]) (fun y=>aj (fun rr x=>bV N rr x.1 x.2) y.1 y.2=some l6) (fun y=>y.1) (N,(w64 (c1.fPlayers-1),[(LadderPair.mk r3 r4)])) hx5 (Sub.eq rfl ?_ ?_) ?_
   ·(repeat ((conv=>whnf);refine nr ?_));exact trivial
   ·(conv=>whnf);refine no ?_;exact trivial
   ·rintro⟨n2,⟨last10,l11⟩⟩ hl2;obtain⟨n2,rfl,hl2⟩:=ar hl2;replace hl2:bV N (aj (fun rr x=>bV N rr x.1 x.2) n2) last10 l11=some l6:=hl2;rw[bV]at hl2;refine wB (fun hc12=>?_) (fun hc12=>?_)
    ·replace hl2:=af hc12 hl2;cases hl2
    ·replace hl2:=ag hc12 hl2;cases hl2;(conv=>whnf);refine⟨(),trivial,Sub.eq rfl ?_ ?_⟩
     ·(repeat ((conv=>whnf);refine nr ?_));exact trivial
     ·(conv=>whnf);refine no ?_;exact trivial
  ·rintro _ _;refine ws ?_;(conv=>whnf);cases h;exact rfl
theorem jQ{N:Nat}(hN:N≤1073741824){c1:LadderCup}{r:(List LadderPair)}(h:ie N c1=some r) :
    ACalls Tryz.prog 137 [.d (.agg [.int .u8 c1.fForm,I c1.fPlayers,I c1.fGames,.list 3 (List.map LadderResult.enc c1.fResults)])] [] fun e os=>e=.ret (.d (.list 4 (List.map LadderPair.enc r)))∧os=[]:=by
  refine ah (fresh:=false) al ap ⟨[1],[],[],[],[],0,[]⟩ Tryz.func137 rfl Tryz.call137 rfl ?_
  unfold ie at h
  refine wB (fun hc2=>?_) (fun hc2=>?_)
  ·replace h:=af hc2 h;obtain⟨r4,hx4,h⟩:=ab h;(conv=>whnf);refine CallG.pure _ (l0 hN hx4) ?_;(conv=>whnf);cases h;exact rfl
  ·replace h:=ag hc2 h;cases h
theorem qj{N:Nat}(hN:N≤1073741824) {r:Unit}(h:jD N=some r) :
    ACalls Tryz.prog 178 [] [] fun e os=>e=.ret (.d (.agg [.fn (.func 227) [] [],.fn (.func 228) [] []]))∧os=[]:=by
  refine ah (fresh:=false) al ap ⟨[],[],[],[],[],0,[]⟩ Tryz.func178 rfl Tryz.call178 rfl ?_
  unfold jD at h
  (conv=>whnf);intro b2;(iterate 2 refine ws ?_);(conv=>whnf)
  all_goals cases h
  all_goals exact rfl
theorem l7{N:Nat}(hN:N≤1073741824){p1:LadderPair}{r:LadderSide}(h:fY N p1=some r) :
    ACalls Tryz.prog 227 [.d (.agg [I p1.fFirst.fPlayer,I p1.fFirst.fMatch,I p1.fSecond.fPlayer,I p1.fSecond.fMatch])] [] fun e os=>e=.ret (.d (.agg [I r.fPlayer,I r.fMatch]))∧os=[]:=by
  refine ah (fresh:=false) al ap ⟨[1],[],[],[],[],0,[]⟩ Tryz.func227 rfl Tryz.call227 rfl ?_
  unfold fY at h
  (conv=>whnf);intro b2;(iterate 2 refine ws ?_);(conv=>whnf);cases h;exact rfl
theorem lh{N:Nat}(hN:N≤1073741824){p1:LadderPair}{r:LadderSide}(h:e8 N p1=some r) :
    ACalls Tryz.prog 228 [.d (.agg [I p1.fFirst.fPlayer,I p1.fFirst.fMatch,I p1.fSecond.fPlayer,I p1.fSecond.fMatch])] [] fun e os=>e=.ret (.d (.agg [I r.fPlayer,I r.fMatch]))∧os=[]:=by
  refine ah (fresh:=false) al ap ⟨[1],[],[],[],[],0,[]⟩ Tryz.func228 rfl Tryz.call228 rfl ?_
  unfold e8 at h
  (conv=>whnf);intro b2;(iterate 2 refine ws ?_);(conv=>whnf);cases h;exact rfl
theorem iA{N:Nat}(hN:N≤1073741824){c1:Int}{c2:Int}{c3:Int}{c4:List LadderResult}{c5:List LadderPair}{m1:List (Int×LadderResult)}{bo1:Nat}{bo2:Nat}{r:Bool×Int×Int×Int×(List LadderResult)×(List LadderPair)×(List (Ar2 Int))}(h:fZ N c1 c2 c3 c4 c5 m1=some r) :
    ACalls Tryz.prog 138 [.ptr 440040 bo1 0] [(440040,.cells bo1 [.d (.int .u8 c1),.d (I c2),.d (I c3),.d (.list 3 (List.map LadderResult.enc c4)),.d (.list 4 (List.map LadderPair.enc c5)),.mp 440038 bo2,.nils 2]),(440038,.map bo2 (List.map eMR m1))] fun ae os=>∃y:Value,True∧ae=.ret (.d (.bool r.1))∧os=[(440040,.cells bo1 (cD r.2.1 r.2.2.1 r.2.2.2.1 r.2.2.2.2.1 r.2.2.2.2.2.1 440038 bo2 1695055 y)),(440038,.map bo2 (List.map eMR m1)),(1695055,.arr y 96 2 false (List.map eA2 r.2.2.2.2.2.2))]:=by
  refine aJ (fresh:=false) al ap ⟨[],[],[],[],[1002],1695000,[]⟩ Tryz.func138 rfl Tryz.call138 rfl ?_
  unfold fZ at h
  obtain⟨l17,hx157,h⟩:=ab h;(conv=>whnf);refine SeqG.mk Value (fun y=>[]) (fun y=>[(440040,.cells bo1 (cD c1 c2 c3 c4 c5 440038 bo2 1695055 y)),(440038,.map bo2 (List.map eMR m1)),(1695055,.arr y 96 2 false (List.map eA2 l17))]) (fun _=>True) ?_ ?_
  ·refine ws ?_;(conv=>whnf);refine LnA.mk _ (List.length_map _) ?_;(conv=>whnf)
   refine LoopG.mk (Nat×(Int×Int×(List (Ar2 Int)))×Value) (fun y=>[(0,.ptr 440040 bo1 0),(3,.fn (.func 177) [.ptr 440040 bo1 0] []),(17,.d (.list 4 (List.map LadderPair.enc c5))),(18,.d (I y.2.1.1)),(19,.d (I y.2.1.2.1))]) (fun y=>[(440040,.cells bo1 (cD c1 c2 c3 c4 c5 440038 bo2 1695055 y.2.2)),(440038,.map bo2 (List.map eMR m1)),(1695055,.arr y.2.2 96 2 false (List.map eA2 y.2.1.2.2))]) (fun y=>aj (fun rr x=>bW N c5 m1 rr x.1 x.2.1 x.2.2) y.1 y.2.1=some l17) (fun y=>y.1) (N,((c5.length:Int),0,[]),(.slice none 0 0)) hx157 (Sub.eq rfl ?_ ?_) ?_
   ·(repeat ((conv=>whnf);refine nr ?_));exact trivial
   ·(conv=>whnf);refine Need.mk (OLe.cells _ _ _ (by repeat (first | exact trivial | ((conv=>whnf);refine Need.mk rfl ?_)))) ?_;(conv=>whnf);refine no ?_;(conv=>whnf);refine Need.mk (OLe.nil _ _ _ _) ?_;exact trivial
   ·rintro⟨n2,⟨v37,v38,l29⟩,hd89⟩ hl2;obtain⟨n2,rfl,hl2⟩:=ar hl2;replace hl2:bW N c5 m1 (aj (fun rr x=>bW N c5 m1 rr x.1 x.2.1 x.2.2) n2) v37 v38 l29=some l17:=hl2;rw[bW]at hl2;refine wB (fun hc112=>?_) (fun hc112=>?_)
    ·replace hl2:=af hc112 hl2;obtain⟨x24,hx289,hl2⟩:=ab hl2;(conv=>whnf);refine Side.mk rfl ⟨_,aC hx289,ak _ hx289,?_⟩;(conv=>whnf);intro b420;refine ws ?_;(conv=>whnf);intro b422;refine ws ?_;obtain⟨_,hx301,hl2⟩:=ab hl2;(conv=>whnf);refine CallG.pure _ (qj hN hx301) ?_;(conv=>whnf);refine LoopG.unr 3 ?_;(conv=>whnf);refine IxG.mk 0 rfl (by decide) ?_;(conv=>whnf);intro b444;(iterate 3 refine ws ?_);obtain⟨r188,hx305,hl2⟩:=ab hl2;(conv=>whnf);refine CallG.pure _ (l7 hN hx305) ?_;(conv=>whnf);intro b446;(iterate 2 refine ws ?_);refine wB (fun hc128=>?_) (fun hc128=>?_)
     ·replace hl2:=af hc128 hl2;refine ws ?_;(conv=>whnf);refine IxG.mk 0 rfl (by decide) ?_;refine ws ?_;(conv=>whnf);refine IxG.mk 1 rfl (by decide) ?_;(conv=>whnf);intro b452;(iterate 3 refine ws ?_);obtain⟨r192,hx309,hl2⟩:=ab hl2;(conv=>whnf);refine CallG.pure _ (lh hN hx309) ?_;(conv=>whnf);intro b454;(iterate 2 refine ws ?_);refine wB (fun hc130=>?_) (fun hc130=>?_)
      ·replace hl2:=af hc130 hl2;refine ws ?_;(conv=>whnf);refine IxG.mk 1 rfl (by decide) ?_;refine ws ?_;obtain⟨l33,hx311,hl2⟩:=ab hl2;(conv=>whnf);refine DrawG.mk (.take 0 (.take 1 (.take 2 (.take 3 (.take 4 (.take 5 (.alt 6 [4,3,2,1,0] (.alt 7 [3,2,1,0] (.take 8 (.take 9 (.alt 10 [8] .done .nil))) .nil) .nil))))))) (by kernel_rfl) ?_;(iterate 2 refine ws ?_);refine wb ?_;(conv=>whnf);intro hd104;refine ws ?_;(iterate 5 refine wl ?_);refine wb ?_;(conv=>whnf);refine Side.mk ⟨rfl,rfl⟩ ?_;(conv=>whnf)
       refine Side.mk ⟨rfl,rfl,rfl⟩ (Need.mk (aD hN hx311 (by decide)) (Eqv.mk (List.map eA2 l33) (aH _ hx311) ?_));(conv=>whnf);intro hd105;(iterate 4 refine wl ?_);refine wb ?_;refine ws ?_;refine wl ?_;refine ws ?_;obtain⟨⟨v42,is24⟩,hx313,hl2⟩:=ab hl2;(conv=>whnf)
       refine Side.mk rfl (Need.mk rfl (Need.mk (bd (m:=m1) (fun x:Int=>I x) (fun x:LadderResult=>.agg [I x.fMatch,.list 1 (List.map I x.fGames),.bool x.fProtested]) fun _=>rfl) (LkG.mk (.agg [I v42.fMatch,.list 1 (List.map I v42.fGames),.bool v42.fProtested]) is24 (ji (eK:=(fun x:Int=>I x)) (eV:=(fun x:LadderResult=>.agg [I x.fMatch,.list 1 (List.map I x.fGames),.bool x.fProtested])) jg hx313) (jj (eK:=(fun x:Int=>I x)) (eV:=(fun x:LadderResult=>.agg [I x.fMatch,.list 1 (List.map I x.fGames),.bool x.fProtested])) jg hx313) ?_)));(conv=>whnf);intro b456;refine ws ?_;refine wB (fun hc132=>?_) (fun hc132=>?_)
       ·replace hl2:=af hc132 hl2;refine ws ?_;cases hl2
       ·replace hl2:=ag hc132 hl2;(conv=>whnf);exact⟨(n2,(v37,w64 (v38+1),l33),hd105),hl2,xT,Nat.lt_succ_self _⟩
      ·replace hl2:=ag hc130 hl2;cases hl2
     ·replace hl2:=ag hc128 hl2;cases hl2
    ·replace hl2:=ag hc112 hl2;cases hl2;(conv=>whnf);exact⟨hd89,trivial,xT⟩
  ·rintro hd53 _;(conv=>whnf);cases h;exact⟨hd53,trivial,rfl,aA (ren:=id) (ai (ai (ai trivial)))⟩
theorem oe{N:Nat}(hN:N≤1073741824){c1:LadderCup}{r:Int×Int×Int×Int×(List LadderResult)×(List LadderPair)×(List (Int×LadderResult))×(List (Ar2 Int))}(h:ig N c1=some r) :
    ACalls Tryz.prog 87 [.d (.agg [.int .u8 c1.fForm,I c1.fPlayers,I c1.fGames,.list 3 (List.map LadderResult.enc c1.fResults)])] [] fun ae os=>∃y:Nat×Nat×Value,True∧ae=.ret (.tup [.ptr 440040 y.1 0,.d (I r.1)])∧os=[(440040,.cells y.1 (cD r.2.1 r.2.2.1 r.2.2.2.1 r.2.2.2.2.1 r.2.2.2.2.2.1 440038 y.2.1 1695055 y.2.2)),(440038,.map y.2.1 (List.map eMR r.2.2.2.2.2.2.1)),(1695055,.arr y.2.2 96 2 false (List.map eA2 r.2.2.2.2.2.2.2))]:=by
  refine aJ (fresh:=false) al ap ⟨[1],[],[],[],[3,5,1008],440000,[]⟩ Tryz.func87 rfl Tryz.call87 rfl ?_
  unfold ig at h
  obtain⟨v6,hx10,h⟩:=ab h;(conv=>whnf);refine SeqG.mk Unit (fun y=>[(1,.d (.ref (.agg [.int .u8 c1.fForm,I c1.fPlayers,I c1.fGames,.list 3 (List.map LadderResult.enc c1.fResults)]))),(5,.d (.fn (.func 133) [] [.ref (.agg [.int .u8 c1.fForm,I c1.fPlayers,I c1.fGames,.list 3 (List.map LadderResult.enc c1.fResults)])])),(12,.d (.bool v6))]) (fun y=>[]) (fun _=>True) ?_ ?_
  ·(conv=>whnf);refine LnA.mk _ (List.length_map _) ?_;refine wB (fun hc8=>?_) (fun hc8=>?_)
   ·replace hx10:=ag hc8 hx10;obtain⟨r8,hx11,hx10⟩:=ab hx10;(conv=>whnf);refine CallG.pure _ (ss hN hx11) ?_;cases hx10;(conv=>whnf);exact⟨(),trivial,xT⟩
   ·replace hx10:=af hc8 hx10;cases hx10;(conv=>whnf);exact⟨(),trivial,xT⟩
  ·rintro _ _;refine wB (fun hc9=>?_) (fun hc9=>?_)
   ·replace h:=af hc9 h;cases h
   ·replace h:=ag hc9 h;obtain⟨v8,hx14,h⟩:=ab h;(conv=>whnf);refine SeqG.mk Unit (fun y=>[(1,.d (.ref (.agg [.int .u8 c1.fForm,I c1.fPlayers,I c1.fGames,.list 3 (List.map LadderResult.enc c1.fResults)]))),(24,.d (.bool v8))]) (fun y=>[]) (fun _=>True) ?_ ?_
    ·obtain⟨r11,hx15,hx14⟩:=ab hx14;(conv=>whnf);refine CallG.pure _ (mK hN hx15) ?_;refine wB (fun hc11=>?_) (fun hc11=>?_)
     ·replace hx14:=ag hc11 hx14;obtain⟨r12,hx16,hx14⟩:=ab hx14;(conv=>whnf);refine CallG.pure _ (rt hN hx16) ?_;cases hx14;(conv=>whnf);exact⟨(),trivial,xT⟩
     ·replace hx14:=af hc11 hx14;cases hx14;(conv=>whnf);exact⟨(),trivial,xT⟩
    ·rintro _ _;refine wB (fun hc12=>?_) (fun hc12=>?_)
     ·replace h:=af hc12 h;cases h
     ·replace h:=ag hc12 h;obtain⟨r14,hx18,h⟩:=ab h;(conv=>whnf);refine DrawG.mk (.take 0 (.take 1 (.alt 2 [0] (.alt 3 [0] (.alt 4 [] (.alt 5 [] (.take 6 .done) .nil) .nil) .nil) (.alt 3 [1,0] (.alt 2 [0] (.alt 4 [] (.alt 5 [] (.take 6 .done) .nil) .nil) .nil) .nil)))) (by kernel_rfl) ?_;(conv=>whnf);refine Both.mk ?_ ?_
      ·(conv=>whnf);refine CallG.pure _ (jQ hN hx18) ?_;refine wl ?_;refine wb ?_;(conv=>whnf);intro b9;refine wl ?_;refine wb ?_;refine wb ?_;(conv=>whnf);intro b10;obtain⟨_,hx31,h⟩:=ab h;(conv=>whnf);refine SeqG.mk Unit (fun y=>[(6,.ptr 440040 b10 0)]) (fun y=>[(440040,.cells b10 [.d (.int .u8 c1.fForm),.d (I c1.fPlayers),.d (I c1.fGames),.d (.list 3 (List.map LadderResult.enc c1.fResults)),.d (.list 4 (List.map LadderPair.enc r14)),.mp 440038 b9,.nils 2]),(440038,.map b9 (List.map eMR (([]:List (Int×LadderResult)))))]) (fun _=>True) ?_ ?_
       ·(conv=>whnf);refine LnA.mk _ (List.length_map _) ?_;(conv=>whnf);refine LoopG.mk (Nat×Int) (fun y=>[(6,.ptr 440040 b10 0),(42,.d (.list 3 (List.map LadderResult.enc c1.fResults))),(43,.d (I y.2)),(44,.i .i64 0)]) (fun y=>[(440040,.cells b10 [.d (.int .u8 c1.fForm),.d (I c1.fPlayers),.d (I c1.fGames),.d (.list 3 (List.map LadderResult.enc c1.fResults)),.d (.list 4 (List.map LadderPair.enc r14)),.mp 440038 b9,.nils 2]),(440038,.map b9 (List.map eMR (([]:List (Int×LadderResult)))))]) (fun y=>aj (fun rr x=>cA N c1 rr x) y.1 y.2=some ()) (fun y=>y.1) (N,(c1.fResults.length:Int)) hx31 (Sub.eq rfl ?_ ?_) ?_
        ·(repeat ((conv=>whnf);refine nr ?_));exact trivial
        ·(iterate 2 ((conv=>whnf);refine no ?_));exact trivial
        ·rintro⟨n2,v18⟩ hl2;obtain⟨n2,rfl,hl2⟩:=ar hl2;replace hl2:cA N c1 (aj (fun rr x=>cA N c1 rr x) n2) v18=some ():=hl2;rw[cA]at hl2;refine wB (fun hc24=>?_) (fun hc24=>?_)
         ·replace hl2:=af hc24 hl2;obtain⟨x24,hx43,hl2⟩:=ab hl2;(conv=>whnf);refine Side.mk rfl ⟨_,aC hx43,ak _ hx43,?_⟩;(conv=>whnf);intro b34;refine ws ?_;cases hl2
         ·replace hl2:=ag hc24 hl2;(conv=>whnf);exact⟨(),trivial,xT⟩
       ·rintro _ _;obtain⟨⟨ra4,rb4,rc4,rd4,re4,rf4,rg4⟩,hx47,h⟩:=ab h;(conv=>whnf);refine CallG.own (iA (bo1:=b10) (bo2:=b9) hN hx47) id [] _ (fun y=>[(440040,.cells b10 (cD rb4 rc4 rd4 re4 rf4 440038 b9 1695055 y)),(440038,.map b9 (List.map eMR (([]:List (Int×LadderResult))))),(1695055,.arr y 96 2 false (List.map eA2 rg4))]) (ac _) (ai (ai trivial)) rfl (ai (ai trivial)) trivial (fun _=>AV.le_refl _) (fun _=>rfl) ?_;rintro hd4 _;refine wB (fun hc26=>?_) (fun hc26=>?_)
        ·replace h:=af hc26 h;cases h
        ·replace h:=ag hc26 h;(conv=>whnf);cases h;exact⟨(b10,b9,hd4),trivial,rfl,aA (ren:=id) (ai (ai (ai trivial)))⟩
      ·refine wb ?_;(conv=>whnf);intro b35;(iterate 2 refine wl ?_);refine wb ?_;(conv=>whnf);refine CallG.pure _ (jQ hN hx18) ?_;refine wl ?_;refine wb ?_;refine wb ?_;(conv=>whnf);intro b36;obtain⟨_,hx60,h⟩:=ab h;(conv=>whnf);refine SeqG.mk Unit (fun y=>[(6,.ptr 440040 b36 0)]) (fun y=>[(440040,.cells b36 [.d (.int .u8 c1.fForm),.d (I c1.fPlayers),.d (I c1.fGames),.d (.list 3 (List.map LadderResult.enc c1.fResults)),.d (.list 4 (List.map LadderPair.enc r14)),.mp 440038 b35,.nils 2]),(440038,.map b35 (List.map eMR (([]:List (Int×LadderResult)))))]) (fun _=>True) ?_ ?_
       ·(conv=>whnf);refine LnA.mk _ (List.length_map _) ?_;(conv=>whnf);refine LoopG.mk (Nat×Int) (fun y=>[(6,.ptr 440040 b36 0),(42,.d (.list 3 (List.map LadderResult.enc c1.fResults))),(43,.d (I y.2)),(44,.i .i64 0)]) (fun y=>[(440040,.cells b36 [.d (.int .u8 c1.fForm),.d (I c1.fPlayers),.d (I c1.fGames),.d (.list 3 (List.map LadderResult.enc c1.fResults)),.d (.list 4 (List.map LadderPair.enc r14)),.mp 440038 b35,.nils 2]),(440038,.map b35 (List.map eMR (([]:List (Int×LadderResult)))))]) (fun y=>aj (fun rr x=>dy N c1 rr x) y.1 y.2=some ()) (fun y=>y.1) (N,(c1.fResults.length:Int)) hx60 (Sub.eq rfl ?_ ?_) ?_
        ·(repeat ((conv=>whnf);refine nr ?_));exact trivial
        ·(iterate 2 ((conv=>whnf);refine no ?_));exact trivial
        ·rintro⟨n4,v28⟩ hl4;obtain⟨n4,rfl,hl4⟩:=ar hl4;replace hl4:dy N c1 (aj (fun rr x=>dy N c1 rr x) n4) v28=some ():=hl4;rw[dy]at hl4;refine wB (fun hc38=>?_) (fun hc38=>?_)
         ·replace hl4:=af hc38 hl4;obtain⟨x48,hx72,hl4⟩:=ab hl4;(conv=>whnf);refine Side.mk rfl ⟨_,aC hx72,ak _ hx72,?_⟩;(conv=>whnf);intro b60;refine ws ?_;cases hl4
         ·replace hl4:=ag hc38 hl4;(conv=>whnf);exact⟨(),trivial,xT⟩
       ·rintro _ _;obtain⟨⟨ra8,rb8,rc8,rd8,re8,rf8,rg8⟩,hx76,h⟩:=ab h;(conv=>whnf);refine CallG.own (iA (bo1:=b36) (bo2:=b35) hN hx76) id [] _ (fun y=>[(440040,.cells b36 (cD rb8 rc8 rd8 re8 rf8 440038 b35 1695055 y)),(440038,.map b35 (List.map eMR (([]:List (Int×LadderResult))))),(1695055,.arr y 96 2 false (List.map eA2 rg8))]) (ac _) (ai (ai trivial)) rfl (ai (ai trivial)) trivial (fun _=>AV.le_refl _) (fun _=>rfl) ?_;rintro hd8 _;refine wB (fun hc40=>?_) (fun hc40=>?_)
        ·replace h:=af hc40 h;cases h
        ·replace h:=ag hc40 h;(conv=>whnf);cases h;exact⟨(b36,b35,hd8),trivial,rfl,aA (ren:=id) (ai (ai (ai trivial)))⟩
theorem og{N:Nat}(hN:N≤1073741824){match1:Int}{c1:Int}{c2:Int}{c3:Int}{c4:List LadderResult}{c5:List LadderPair}{m1:List (Int×LadderResult)}{l1:List (Ar2 Int)}{bo1:Nat}{bo2:Nat}{ho1:Value}{r:Int}(h:ii N match1 c1 c2 c3 c4 c5 m1 l1=some r) :
    ACalls Tryz.prog 179 [.ptr 440040 bo1 0,.d (I match1)] [(440040,.cells bo1 (cD c1 c2 c3 c4 c5 440038 bo2 1695055 ho1)),(440038,.map bo2 (List.map eMR m1)),(1695055,.arr ho1 96 2 false (List.map eA2 l1))] fun ae os=>∃y:Unit,True∧ae=.ret (.d (I r))∧os=[(440040,.cells bo1 (cD c1 c2 c3 c4 c5 440038 bo2 1695055 ho1)),(440038,.map bo2 (List.map eMR m1)),(1695055,.arr ho1 96 2 false (List.map eA2 l1))]:=by
  refine aJ (fresh:=false) al ap ⟨[],[],[],[],[],1700000,[]⟩ Tryz.func179 rfl Tryz.call179 rfl ?_
  unfold ii at h
  refine ws ?_;obtain⟨⟨v2,is2⟩,hx2,h⟩:=ab h;(conv=>whnf);refine Side.mk rfl (Need.mk rfl (Need.mk (bd (m:=m1) (fun x:Int=>I x) (fun x:LadderResult=>.agg [I x.fMatch,.list 1 (List.map I x.fGames),.bool x.fProtested]) fun _=>rfl) (LkG.mk (.agg [I v2.fMatch,.list 1 (List.map I v2.fGames),.bool v2.fProtested]) is2 (ji (eK:=(fun x:Int=>I x)) (eV:=(fun x:LadderResult=>.agg [I x.fMatch,.list 1 (List.map I x.fGames),.bool x.fProtested])) jg hx2) (jj (eK:=(fun x:Int=>I x)) (eV:=(fun x:LadderResult=>.agg [I x.fMatch,.list 1 (List.map I x.fGames),.bool x.fProtested])) jg hx2) ?_)));(conv=>whnf);intro b2;refine ws ?_;refine wB (fun hc2=>?_) (fun hc2=>?_)
  ·replace h:=af hc2 h;(conv=>whnf);cases h;exact⟨(),trivial,rfl,aA (ren:=id) (ai (ai (ai trivial)))⟩
  ·replace h:=ag hc2 h;cases h
theorem kG{N:Nat}(hN:N≤1073741824){match1:Int}{first1:Int}{second1:Int}{c1:Int}{c2:Int}{c3:Int}{c4:List LadderResult}{c5:List LadderPair}{m1:List (Int×LadderResult)}{l1:List (Ar2 Int)}{bo1:Nat}{bo2:Nat}{ho1:Value}{r:Int}(h:eI N match1 first1 second1 c1 c2 c3 c4 c5 m1 l1=some r) :
    ACalls Tryz.prog 181 [.ptr 440040 bo1 0,.d (I match1),.d (I first1),.d (I second1)] [(440040,.cells bo1 (cD c1 c2 c3 c4 c5 440038 bo2 1695055 ho1)),(440038,.map bo2 (List.map eMR m1)),(1695055,.arr ho1 96 2 false (List.map eA2 l1))] fun ae os=>∃y:Unit,True∧ae=.ret (.d (I r))∧os=[(440040,.cells bo1 (cD c1 c2 c3 c4 c5 440038 bo2 1695055 ho1)),(440038,.map bo2 (List.map eMR m1)),(1695055,.arr ho1 96 2 false (List.map eA2 l1))]:=by
  refine aJ (fresh:=false) al ap ⟨[],[],[],[],[1],1700000,[]⟩ Tryz.func181 rfl Tryz.call181 rfl ?_
  unfold eI at h
  obtain⟨v7,hx8,h⟩:=ab h;(conv=>whnf);refine SeqG.mk Unit (fun y=>[(0,.ptr 440040 bo1 0),(1,.d (I match1)),(28,.d (.bool v7))]) (fun y=>[(440040,.cells bo1 (cD c1 c2 c3 c4 c5 440038 bo2 1695055 ho1)),(440038,.map bo2 (List.map eMR m1)),(1695055,.arr ho1 96 2 false (List.map eA2 l1))]) (fun _=>True) ?_ ?_
  ·refine ws ?_;obtain⟨x4,hx9,hx8⟩:=ab hx8;(conv=>whnf);refine Side.mk ⟨rfl,rfl⟩ (Need.mk (aL _ hx9) ?_);(conv=>whnf);refine Side.mk ⟨rfl,rfl⟩ ⟨_,Int.natCast_nonneg _,bX _ hx9,?_⟩;(conv=>whnf);refine Need.mk ⟨rfl,rfl⟩ (EqB.mk _ (oP x4 (Ar2.mk first1 second1)) ?_);refine wB (fun hc5=>?_) (fun hc5=>?_)
   ·replace hx8:=ag hc5 hx8;refine ws ?_;obtain⟨⟨v8,is4⟩,hx10,hx8⟩:=ab hx8;(conv=>whnf);refine Side.mk rfl (Need.mk rfl (Need.mk (bd (m:=m1) (fun x:Int=>I x) (fun x:LadderResult=>.agg [I x.fMatch,.list 1 (List.map I x.fGames),.bool x.fProtested]) fun _=>rfl) (LkG.mk (.agg [I v8.fMatch,.list 1 (List.map I v8.fGames),.bool v8.fProtested]) is4 (ji (eK:=(fun x:Int=>I x)) (eV:=(fun x:LadderResult=>.agg [I x.fMatch,.list 1 (List.map I x.fGames),.bool x.fProtested])) jg hx10) (jj (eK:=(fun x:Int=>I x)) (eV:=(fun x:LadderResult=>.agg [I x.fMatch,.list 1 (List.map I x.fGames),.bool x.fProtested])) jg hx10) ?_)));cases hx8;(conv=>whnf);exact⟨(),trivial,xT⟩
   ·replace hx8:=af hc5 hx8;cases hx8;(conv=>whnf);exact⟨(),trivial,xT⟩
  ·rintro _ _;refine wB (fun hc6=>?_) (fun hc6=>?_)
   ·replace h:=af hc6 h;cases h
   ·replace h:=ag hc6 h;obtain⟨r2,hx12,h⟩:=ab h;(conv=>whnf);refine CallG.own (og (bo1:=bo1) (bo2:=bo2) (ho1:=ho1) hN hx12) id [] _ (fun y=>[(440040,.cells bo1 (cD c1 c2 c3 c4 c5 440038 bo2 1695055 ho1)),(440038,.map bo2 (List.map eMR m1)),(1695055,.arr ho1 96 2 false (List.map eA2 l1))]) (ac _) (ai (ai (ai trivial))) rfl (ai (ai (ai trivial))) trivial (fun _=>AV.le_refl _) (fun _=>rfl) ?_;rintro _ _;(conv=>whnf);cases h;exact⟨(),trivial,rfl,aA (ren:=id) (ai (ai (ai trivial)))⟩
theorem je{N:Nat}(hN:N≤1073741824){l1:List Int}{r:Int}(h:gq N l1=some r) :
    ACalls Tryz.prog 182 [.d (.list 1 (List.map I l1))] [] fun e os=>e=.ret (.d (I r))∧os=[]:=by
  refine ah (fresh:=false) al ap ⟨[],[],[],[],[1001],0,[]⟩ Tryz.func182 rfl Tryz.call182 rfl ?_
  unfold gq at h
  obtain⟨n6,hx13,h⟩:=ab h;(conv=>whnf);refine SeqG.mk Unit (fun y=>[(2,.d (I n6))]) (fun y=>[]) (fun _=>True) ?_ ?_
  ·(conv=>whnf);refine LnA.mk _ (List.length_map _) ?_;(conv=>whnf);refine LoopG.mk (Nat×(Int×Int×Int)) (fun y=>[(2,.d (I y.2.1)),(5,.d (.list 1 (List.map I l1))),(6,.d (I y.2.2.1)),(7,.d (I y.2.2.2))]) (fun y=>[]) (fun y=>aj (fun rr x=>eJ N l1 rr x.1 x.2.1 x.2.2) y.1 y.2=some n6) (fun y=>y.1) (N,(0,(l1.length:Int),0)) hx13 (Sub.eq rfl ?_ ?_) ?_
   ·(repeat ((conv=>whnf);refine nr ?_));exact trivial
   ·exact trivial
   ·rintro⟨n11,⟨n10,v17,v18⟩⟩ hl2;obtain⟨n11,rfl,hl2⟩:=ar hl2;replace hl2:eJ N l1 (aj (fun rr x=>eJ N l1 rr x.1 x.2.1 x.2.2) n11) n10 v17 v18=some n6:=hl2;rw[eJ]at hl2;refine wB (fun hc12=>?_) (fun hc12=>?_)
    ·replace hl2:=af hc12 hl2;obtain⟨x24,hx25,hl2⟩:=ab hl2;(conv=>whnf);refine Side.mk rfl ⟨_,aC hx25,ak _ hx25,?_⟩;(conv=>whnf);exact⟨(n11,(w64 (n10+x24),v17,w64 (v18+1))),hl2,xT,Nat.lt_succ_self _⟩
    ·replace hl2:=ag hc12 hl2;cases hl2;(conv=>whnf);exact⟨(),trivial,xT⟩
  ·rintro _ _;(conv=>whnf);cases h;exact rfl
theorem iB{N:Nat}(hN:N≤1073741824){s1:LadderSide}{c1:Int}{c2:Int}{c3:Int}{c4:List LadderResult}{c5:List LadderPair}{m1:List (LadderSpot×LadderCheapest)}{m2:List (Int×LadderResult)}{l1:List (Ar2 Int)}{bo1:Nat}{bo2:Nat}{bo3:Nat}{ho1:Value}{r:(List (Int×Int))}(h:dU N s1 c1 c2 c3 c4 c5 m1 m2 l1=some r) :
    ACalls Tryz.prog 180 [.ptr 440040 bo1 0,.d (.agg [I s1.fPlayer,I s1.fMatch]),.mp 2700017 bo2] [(440040,.cells bo1 (cD c1 c2 c3 c4 c5 440038 bo3 1695055 ho1)),(2700017,.map bo2 (List.map eSC m1)),(440038,.map bo3 (List.map eMR m2)),(1695055,.arr ho1 96 2 false (List.map eA2 l1))] fun ae os=>∃y:Nat,True∧ae=.ret (.mp 3905014 y)∧os=[(440040,.cells bo1 (cD c1 c2 c3 c4 c5 440038 bo3 1695055 ho1)),(2700017,.map bo2 (List.map eSC m1)),(440038,.map bo3 (List.map eMR m2)),(1695055,.arr ho1 96 2 false (List.map eA2 l1)),(3905014,.map y (List.map eII r))]:=by
  refine aJ (fresh:=false) al ap ⟨[4],[],[],[],[],3905000,[]⟩ Tryz.func180 rfl Tryz.call180 rfl ?_
  unfold dU at h
  refine wB (fun hc2=>?_) (fun hc2=>?_)
  ·replace h:=af hc2 h;(conv=>whnf);intro b4;(conv=>whnf);refine Side.mk rfl (Need.mk rfl (Need.mk (bd (m:=([]:List (Int×Int))) (fun x:Int=>I x) (fun x:Int=>I x) fun _=>rfl) (MEqv.mk (List.map eII (mput (([]:List (Int×Int))) s1.fPlayer 0)) (fS (eK:=(fun x:Int=>I x)) (eV:=(fun x:Int=>I x)) jg (([]:List (Int×Int))) s1.fPlayer 0) ?_)));(conv=>whnf);cases h;exact⟨b4,trivial,rfl,aA (ren:=id) (ai (ai (ai (ai (ai trivial)))))⟩
  ·replace h:=ag hc2 h;cases h
end Go.Proofs.YtiaoloodgildeaaGreatDoor
