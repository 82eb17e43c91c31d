/-
  The walk of the law DeskKept.
-/
import Derived.Test.YthbomkehodjepaaGreatDoorDDeskKept
import Derived.Test.YthbomkehodjepaaGreatDoorWe
import Derived.Test.YthbomkehodjepaaGreatDoorVa
import Derived.Test.YthbomkehodjepaaGreatDoorVg
namespace Go.Proofs.YthbomkehodjepaaGreatDoor
open Go Go.Abs Go.Kp
set_option maxRecDepth 100000
set_option maxHeartbeats 8000000
set_option linter.all false
theorem GC{N:Nat}(hN:N≤1073741824){lines1:List (List UInt8)}{r:Bool}(h:FL N lines1=some r) :
    ACalls Tryz.prog 3 [.d (.list 1 (List.map D.str lines1))] [] fun e os=>e=.ret (.d (.bool r))∧os=[]:=by
  refine ah (fresh:=false) al ap ⟨[],[],[],[],[1,4,14,16,17,1008,1011,1020,1023,1024,1027],0,[]⟩ Tryz.func3 rfl Tryz.call3 rfl ?_
  unfold FL at h
  obtain⟨v4,hx10,h⟩:=ab h;(conv=>whnf);refine SeqG.mk Unit (fun y=>[(0,.d (.list 1 (List.map D.str lines1))),(23,.d (.bool v4))]) (fun y=>[]) (fun _=>True) ?_ ?_
  ·obtain⟨r9,hx11,hx10⟩:=ab hx10;(conv=>whnf);refine CallG.pure _ (sf hN hx11) ?_;refine wB (fun hc5=>?_) (fun hc5=>?_)
   ·replace hx10:=ag hc5 hx10;obtain⟨r10,hx12,hx10⟩:=ab hx10;(conv=>whnf);refine CallG.pure _ (rm hN hx12) ?_;cases hx10;(conv=>whnf);exact⟨(),trivial,xT⟩
   ·replace hx10:=af hc5 hx10;cases hx10;(conv=>whnf);exact⟨(),trivial,xT⟩
  ·rintro _ _;refine wB (fun hc6=>?_) (fun hc6=>?_)
   ·replace h:=af hc6 h;obtain⟨r12,hx14,h⟩:=ab h;(conv=>whnf);refine CallG.pure _ (jR hN hx14) ?_;(conv=>whnf);cases h;exact rfl
   ·replace h:=ag hc6 h;obtain⟨⟨ra2,rb2,rc2⟩,hx16,h⟩:=ab h;(conv=>whnf);refine CallG.pure _ (zV hN hx16) ?_;(conv=>whnf);intro b2;refine ws ?_;obtain⟨v8,hx18,h⟩:=ab h;(conv=>whnf);refine SeqG.mk Unit (fun y=>[(3,.ptr 3 b2 0),(4,.d (.list 1 (List.map D.str rb2))),(41,.d (.bool v8))]) (fun y=>[(3,.cells b2 [.d (.list 1 (List.map I ra2.fBowlers)),.d (.list 2 (List.map DeskLane.enc ra2.fLanes)),.d (.list 1 (List.map eL ra2.fKept)),.d (.list 6 (List.map RateSheet.enc ra2.fSheets)),.d (.list 1 (List.map I ra2.fWithdrawn)),.d (.list 3 (List.map LadderResult.enc ra2.fResults))])]) (fun _=>True) ?_ ?_
    ·refine wB (fun hc11=>?_) (fun hc11=>?_)
     ·replace hx18:=ag hc11 hx18;refine ws ?_;(conv=>whnf);refine LnA.mk _ (List.length_map _) ?_;refine ws ?_;(conv=>whnf);refine LnA.mk _ (List.length_map _) ?_;cases hx18;(conv=>whnf);refine⟨(),trivial,Sub.eq rfl ?_ ?_⟩
      ·(repeat ((conv=>whnf);refine nr ?_));exact trivial
      ·(conv=>whnf);refine no ?_;exact trivial
     ·replace hx18:=af hc11 hx18;cases hx18;(conv=>whnf);refine⟨(),trivial,Sub.eq rfl ?_ ?_⟩
      ·(repeat ((conv=>whnf);refine nr ?_));exact trivial
      ·(conv=>whnf);refine no ?_;exact trivial
    ·rintro _ _;refine wB (fun hc12=>?_) (fun hc12=>?_)
     ·replace h:=af hc12 h;(conv=>whnf);cases h;exact rfl
     ·replace h:=ag hc12 h;(conv=>whnf);intro b4;refine ws ?_;(conv=>whnf);refine LnA.mk _ (List.length_map _) ?_;obtain⟨l2,hx20,h⟩:=ab h;(conv=>whnf);refine Need.mk (vI hN hx20 (by decide)) (Eqv.mk (List.map I l2) (wC _ hx20 rfl) ?_);(conv=>whnf);intro hd2;(conv=>whnf);refine SeqG.mk (List Int) (fun y=>[(3,.ptr 3 b2 0),(7,.sl 45 hd2)]) (fun y=>[(3,.cells b2 [.d (.list 1 (List.map I ra2.fBowlers)),.d (.list 2 (List.map DeskLane.enc ra2.fLanes)),.d (.list 1 (List.map eL ra2.fKept)),.d (.list 6 (List.map RateSheet.enc ra2.fSheets)),.d (.list 1 (List.map I ra2.fWithdrawn)),.d (.list 3 (List.map LadderResult.enc ra2.fResults))]),(45,.arr hd2 3 1 false (List.map I y))]) (fun y=>FG N ra2 y=some r) ?_ ?_
      ·(conv=>whnf);refine LoopG.mk (Nat×(Int×(Ar4 Int)×(List Int))) (fun y=>[(3,.ptr 3 b2 0),(4,.d (.list 1 (List.map D.str rb2))),(6,.ptr 6 b4 0),(7,.sl 45 hd2),(8,.d (I y.2.1))]) (fun y=>[(3,.cells b2 [.d (.list 1 (List.map I ra2.fBowlers)),.d (.list 2 (List.map DeskLane.enc ra2.fLanes)),.d (.list 1 (List.map eL ra2.fKept)),.d (.list 6 (List.map RateSheet.enc ra2.fSheets)),.d (.list 1 (List.map I ra2.fWithdrawn)),.d (.list 3 (List.map LadderResult.enc ra2.fResults))]),(6,.cells b4 [.d (I y.2.2.1.a0),.d (I y.2.2.1.a1),.d (I y.2.2.1.a2),.d (I y.2.2.1.a3)]),(45,.arr hd2 3 1 false (List.map I y.2.2.2))]) (fun y=>aj (fun rr x=>Ff N ra2 rb2 rr x.1 x.2.1 x.2.2) y.1 y.2=some r) (fun y=>y.1) (N,(0,(Ar4.mk 0 0 0 0),l2)) h (Sub.eq rfl ?_ ?_) ?_
       ·(repeat ((conv=>whnf);refine nr ?_));exact trivial
       ·(iterate 3 ((conv=>whnf);refine no ?_));exact trivial
       ·rintro⟨n304,⟨i104,lanes18,l21⟩⟩ hl28;obtain⟨n304,rfl,hl28⟩:=ar hl28;replace hl28:Ff N ra2 rb2 (aj (fun rr x=>Ff N ra2 rb2 rr x.1 x.2.1 x.2.2) n304) i104 lanes18 l21=some r:=hl28;rw[Ff]at hl28;(conv=>whnf);refine LnA.mk _ (List.length_map _) ?_;refine wB (fun hc536=>?_) (fun hc536=>?_)
        ·replace hl28:=af hc536 hl28;(conv=>whnf);refine SeqG.mk ((Ar4 Int)×(List Int)) (fun y=>[(3,.ptr 3 b2 0),(4,.d (.list 1 (List.map D.str rb2))),(6,.ptr 6 b4 0),(7,.sl 45 hd2),(8,.d (I i104))]) (fun y=>[(3,.cells b2 [.d (.list 1 (List.map I ra2.fBowlers)),.d (.list 2 (List.map DeskLane.enc ra2.fLanes)),.d (.list 1 (List.map eL ra2.fKept)),.d (.list 6 (List.map RateSheet.enc ra2.fSheets)),.d (.list 1 (List.map I ra2.fWithdrawn)),.d (.list 3 (List.map LadderResult.enc ra2.fResults))]),(6,.cells b4 [.d (I y.1.a0),.d (I y.1.a1),.d (I y.1.a2),.d (I y.1.a3)]),(45,.arr hd2 3 1 false (List.map I y.2))]) (fun y=>Fe N i104 (aj (fun rr x=>Ff N ra2 rb2 rr x.1 x.2.1 x.2.2) n304) y.1 y.2=some r) ?_ ?_
         ·obtain⟨x459,hx687,hl28⟩:=ab hl28;(conv=>whnf);refine Side.mk rfl ⟨_,aC hx687,ak _ hx687,?_⟩;obtain⟨⟨ra26,rb26,rc26⟩,hx688,hl28⟩:=ab hl28;(conv=>whnf);refine CallG.pure _ (GL hN hx688) ?_;refine wB (fun hc557=>?_) (fun hc557=>?_)
          ·replace hl28:=af hc557 hl28;(conv=>whnf);cases hl28;exact rfl
          ·replace hl28:=ag hc557 hl28;obtain⟨v54,hx691,hl28⟩:=ab hl28;(conv=>whnf);refine SeqG.mk Unit (fun y=>[(3,.ptr 3 b2 0),(4,.d (.list 1 (List.map D.str rb2))),(6,.ptr 6 b4 0),(7,.sl 45 hd2),(8,.d (I i104)),(9,.d (.str ra26)),(10,.d (.list 1 (List.map I rb26))),(64,.d (.bool v54))]) (fun y=>[(3,.cells b2 [.d (.list 1 (List.map I ra2.fBowlers)),.d (.list 2 (List.map DeskLane.enc ra2.fLanes)),.d (.list 1 (List.map eL ra2.fKept)),.d (.list 6 (List.map RateSheet.enc ra2.fSheets)),.d (.list 1 (List.map I ra2.fWithdrawn)),.d (.list 3 (List.map LadderResult.enc ra2.fResults))]),(6,.cells b4 [.d (I lanes18.a0),.d (I lanes18.a1),.d (I lanes18.a2),.d (I lanes18.a3)]),(45,.arr hd2 3 1 false (List.map I l21))]) (fun _=>True) ?_ ?_
           ·refine wB (fun hc559=>?_) (fun hc559=>?_)
            ·replace hx691:=af hc559 hx691;obtain⟨x461,hx692,hx691⟩:=ab hx691;(conv=>whnf);refine Side.mk rfl ⟨_,aC hx692,ak _ hx692,?_⟩;obtain⟨r82,hx693,hx691⟩:=ab hx691;(conv=>whnf);refine CallG.pure _ (GB hN hx693) ?_;cases hx691;(conv=>whnf);exact⟨(),trivial,xT⟩
            ·replace hx691:=ag hc559 hx691;cases hx691;(conv=>whnf);exact⟨(),trivial,xT⟩
           ·rintro _ _;refine wB (fun hc560=>?_) (fun hc560=>?_)
            ·replace hl28:=af hc560 hl28;obtain⟨x462,hx694,hl28⟩:=ab hl28;obtain⟨x463,hx695,hl28⟩:=ab hl28;rcases eP (decide (x462=0))with hc561 | hc561
             ·replace hl28:=af hc561 hl28;(conv=>whnf);refine DrawG.mk (.take 0 (.take 1 (.take 2 (.take 3 (.take 4 (.take 5 (.take 6 (.alt 7 [] .done .nil)))))))) (by kernel_rfl) ?_;(conv=>whnf);refine Side.mk rfl ⟨_,aC hx694,ak _ hx694,?_⟩;(conv=>whnf);refine Side.mk rfl ⟨_,aC hx695,ak _ hx695,?_⟩;(conv=>whnf);refine IxG.mk 0 (of_decide_eq_true hc561) (by decide) ?_;refine wb ?_;refine ws ?_;(conv=>whnf);exact⟨((Ar4.mk x463 lanes18.a1 lanes18.a2 lanes18.a3),l21),hl28,xT⟩
             ·replace hl28:=ag hc561 hl28;rcases eP (decide (x462=1))with hc562 | hc562
              ·replace hl28:=af hc562 hl28;(conv=>whnf);refine DrawG.mk (.take 0 (.take 1 (.take 2 (.take 3 (.take 4 (.take 5 (.take 6 (.alt 7 [] .done .nil)))))))) (by kernel_rfl) ?_;(conv=>whnf);refine Side.mk rfl ⟨_,aC hx694,ak _ hx694,?_⟩;(conv=>whnf);refine Side.mk rfl ⟨_,aC hx695,ak _ hx695,?_⟩;(conv=>whnf);refine IxG.mk 1 (of_decide_eq_true hc562) (by decide) ?_;refine wb ?_;refine ws ?_;(conv=>whnf);exact⟨((Ar4.mk lanes18.a0 x463 lanes18.a2 lanes18.a3),l21),hl28,xT⟩
              ·replace hl28:=ag hc562 hl28;rcases eP (decide (x462=2))with hc563 | hc563
               ·replace hl28:=af hc563 hl28;(conv=>whnf);refine DrawG.mk (.take 0 (.take 1 (.take 2 (.take 3 (.take 4 (.take 5 (.take 6 (.alt 7 [] .done .nil)))))))) (by kernel_rfl) ?_;(conv=>whnf);refine Side.mk rfl ⟨_,aC hx694,ak _ hx694,?_⟩;(conv=>whnf);refine Side.mk rfl ⟨_,aC hx695,ak _ hx695,?_⟩;(conv=>whnf);refine IxG.mk 2 (of_decide_eq_true hc563) (by decide) ?_;refine wb ?_;refine ws ?_;(conv=>whnf);exact⟨((Ar4.mk lanes18.a0 lanes18.a1 x463 lanes18.a3),l21),hl28,xT⟩
               ·replace hl28:=ag hc563 hl28;rcases eP (decide (x462=3))with hc564 | hc564
                ·replace hl28:=af hc564 hl28;(conv=>whnf);refine DrawG.mk (.take 0 (.take 1 (.take 2 (.take 3 (.take 4 (.take 5 (.take 6 (.alt 7 [] .done .nil)))))))) (by kernel_rfl) ?_;(conv=>whnf);refine Side.mk rfl ⟨_,aC hx694,ak _ hx694,?_⟩;(conv=>whnf);refine Side.mk rfl ⟨_,aC hx695,ak _ hx695,?_⟩;(conv=>whnf);refine IxG.mk 3 (of_decide_eq_true hc564) (by decide) ?_;refine wb ?_;refine ws ?_;(conv=>whnf);exact⟨((Ar4.mk lanes18.a0 lanes18.a1 lanes18.a2 x463),l21),hl28,xT⟩
                ·replace hl28:=ag hc564 hl28;cases hl28
            ·replace hl28:=ag hc560 hl28;obtain⟨v56,hx698,hl28⟩:=ab hl28;(conv=>whnf);refine SeqG.mk Unit (fun y=>[(3,.ptr 3 b2 0),(4,.d (.list 1 (List.map D.str rb2))),(6,.ptr 6 b4 0),(7,.sl 45 hd2),(8,.d (I i104)),(10,.d (.list 1 (List.map I rb26))),(80,.d (.bool v56))]) (fun y=>[(3,.cells b2 [.d (.list 1 (List.map I ra2.fBowlers)),.d (.list 2 (List.map DeskLane.enc ra2.fLanes)),.d (.list 1 (List.map eL ra2.fKept)),.d (.list 6 (List.map RateSheet.enc ra2.fSheets)),.d (.list 1 (List.map I ra2.fWithdrawn)),.d (.list 3 (List.map LadderResult.enc ra2.fResults))]),(6,.cells b4 [.d (I lanes18.a0),.d (I lanes18.a1),.d (I lanes18.a2),.d (I lanes18.a3)]),(45,.arr hd2 3 1 false (List.map I l21))]) (fun _=>True) ?_ ?_
             ·refine wB (fun hc566=>?_) (fun hc566=>?_)
              ·replace hx698:=af hc566 hx698;obtain⟨x465,hx699,hx698⟩:=ab hx698;(conv=>whnf);refine Side.mk rfl ⟨_,aC hx699,ak _ hx699,?_⟩;obtain⟨r84,hx700,hx698⟩:=ab hx698;(conv=>whnf);refine CallG.pure _ (GB hN hx700) ?_;cases hx698;(conv=>whnf);exact⟨(),trivial,xT⟩
              ·replace hx698:=ag hc566 hx698;cases hx698;(conv=>whnf);exact⟨(),trivial,xT⟩
             ·rintro _ _;refine wB (fun hc567=>?_) (fun hc567=>?_)
              ·replace hl28:=af hc567 hl28;obtain⟨b28,hx702,hl28⟩:=ab hl28;(conv=>whnf);refine SeqG.mk Unit (fun y=>[(3,.ptr 3 b2 0),(4,.d (.list 1 (List.map D.str rb2))),(6,.ptr 6 b4 0),(7,.sl 45 hd2),(8,.d (I i104)),(12,.d (I b28))]) (fun y=>[(3,.cells b2 [.d (.list 1 (List.map I ra2.fBowlers)),.d (.list 2 (List.map DeskLane.enc ra2.fLanes)),.d (.list 1 (List.map eL ra2.fKept)),.d (.list 6 (List.map RateSheet.enc ra2.fSheets)),.d (.list 1 (List.map I ra2.fWithdrawn)),.d (.list 3 (List.map LadderResult.enc ra2.fResults))]),(6,.cells b4 [.d (I lanes18.a0),.d (I lanes18.a1),.d (I lanes18.a2),.d (I lanes18.a3)]),(45,.arr hd2 3 1 false (List.map I l21))]) (fun _=>True) ?_ ?_
               ·obtain⟨x467,hx703,hx702⟩:=ab hx702;(conv=>whnf);refine Side.mk rfl ⟨_,aC hx703,ak _ hx703,?_⟩;rcases eP (decide (x467=0))with hc572 | hc572
                ·replace hx702:=af hc572 hx702;(conv=>whnf);refine IxG.mk 0 (of_decide_eq_true hc572) (by decide) ?_;refine ws ?_;cases hx702;(conv=>whnf);exact⟨(),trivial,xT⟩
                ·replace hx702:=ag hc572 hx702;rcases eP (decide (x467=1))with hc573 | hc573
                 ·replace hx702:=af hc573 hx702;(conv=>whnf);refine IxG.mk 1 (of_decide_eq_true hc573) (by decide) ?_;refine ws ?_;cases hx702;(conv=>whnf);exact⟨(),trivial,xT⟩
                 ·replace hx702:=ag hc573 hx702;rcases eP (decide (x467=2))with hc574 | hc574
                  ·replace hx702:=af hc574 hx702;(conv=>whnf);refine IxG.mk 2 (of_decide_eq_true hc574) (by decide) ?_;refine ws ?_;cases hx702;(conv=>whnf);exact⟨(),trivial,xT⟩
                  ·replace hx702:=ag hc574 hx702;rcases eP (decide (x467=3))with hc575 | hc575
                   ·replace hx702:=af hc575 hx702;(conv=>whnf);refine IxG.mk 3 (of_decide_eq_true hc575) (by decide) ?_;refine ws ?_;cases hx702;(conv=>whnf);exact⟨(),trivial,xT⟩
                   ·replace hx702:=ag hc575 hx702;cases hx702
               ·rintro _ _;(conv=>whnf);refine Side.mk rfl (LnA.mk _ (List.length_map _) ?_);obtain⟨r86,hx705,hl28⟩:=ab hl28;(conv=>whnf);refine CallG.pure _ (GB hN hx705) ?_;refine wB (fun hc576=>?_) (fun hc576=>?_)
                ·replace hl28:=af hc576 hl28;obtain⟨x468,hx706,hl28⟩:=ab hl28;(conv=>whnf);refine Side.mk ⟨rfl,rfl⟩ (Need.mk (aL _ hx706) ?_);(conv=>whnf);refine Side.mk ⟨rfl,rfl⟩ ⟨_,Int.natCast_nonneg _,bX _ hx706,?_⟩;(conv=>whnf);refine Side.mk ⟨rfl,rfl⟩ (Need.mk (aL _ hx706) ?_);(conv=>whnf);refine Side.mk ⟨rfl,rfl⟩ ⟨_,Int.natCast_nonneg _,bX _ hx706,?_⟩;(conv=>whnf);refine Eqv.mk (List.map I (List.set l21 (Int.toNat b28) (w64 (x468+1)))) (j1 _ _ _ _ rfl) ?_;(conv=>whnf);exact⟨(lanes18,(List.set l21 (Int.toNat b28) (w64 (x468+1)))),hl28,xT⟩
                ·replace hl28:=ag hc576 hl28;(conv=>whnf);exact⟨(lanes18,l21),hl28,xT⟩
              ·replace hl28:=ag hc567 hl28;(conv=>whnf);exact⟨(lanes18,l21),hl28,xT⟩
         ·rintro⟨lanes20,l23⟩ h;unfold Fe at h;(conv=>whnf);exact⟨(n304,(w64 (i104+1),lanes20,l23)),h,xT,Nat.lt_succ_self _⟩
        ·replace hl28:=ag hc536 hl28;(conv=>whnf);exact⟨l21,hl28,xT⟩
      ·clear h;rintro l13 h;unfold FG at h;(conv=>whnf);refine SeqG.mk Unit (fun y=>[]) (fun y=>[]) (fun y=>FI N=some r) ?_ ?_
       ·(conv=>whnf);refine LoopG.mk (Nat×Int) (fun y=>[(3,.ptr 3 b2 0),(7,.sl 45 hd2),(13,.d (I y.2))]) (fun y=>[(3,.cells b2 [.d (.list 1 (List.map I ra2.fBowlers)),.d (.list 2 (List.map DeskLane.enc ra2.fLanes)),.d (.list 1 (List.map eL ra2.fKept)),.d (.list 6 (List.map RateSheet.enc ra2.fSheets)),.d (.list 1 (List.map I ra2.fWithdrawn)),.d (.list 3 (List.map LadderResult.enc ra2.fResults))]),(45,.arr hd2 3 1 false (List.map I l13))]) (fun y=>aj (fun rr x=>Fd N ra2 l13 rr x) y.1 y.2=some r) (fun y=>y.1) (N,0) h (Sub.eq rfl ?_ ?_) ?_
        ·(repeat ((conv=>whnf);refine nr ?_));exact trivial
        ·(iterate 2 ((conv=>whnf);refine no ?_));exact trivial
        ·rintro⟨n253,b20⟩ hl23;obtain⟨n253,rfl,hl23⟩:=ar hl23;replace hl23:Fd N ra2 l13 (aj (fun rr x=>Fd N ra2 l13 rr x) n253) b20=some r:=hl23;rw[Fd]at hl23;(conv=>whnf);refine Side.mk rfl (LnA.mk _ (List.length_map _) ?_);refine wB (fun hc400=>?_) (fun hc400=>?_)
         ·replace hl23:=af hc400 hl23;(conv=>whnf);refine SeqG.mk Unit (fun y=>[(3,.ptr 3 b2 0),(7,.sl 45 hd2),(13,.d (I b20))]) (fun y=>[(3,.cells b2 [.d (.list 1 (List.map I ra2.fBowlers)),.d (.list 2 (List.map DeskLane.enc ra2.fLanes)),.d (.list 1 (List.map eL ra2.fKept)),.d (.list 6 (List.map RateSheet.enc ra2.fSheets)),.d (.list 1 (List.map I ra2.fWithdrawn)),.d (.list 3 (List.map LadderResult.enc ra2.fResults))]),(45,.arr hd2 3 1 false (List.map I l13))]) (fun y=>FJ N b20 (aj (fun rr x=>Fd N ra2 l13 rr x) n253)=some r) ?_ ?_
          ·refine ws ?_;obtain⟨x376,hx541,hl23⟩:=ab hl23;(conv=>whnf);refine Side.mk rfl ⟨_,aC hx541,ak _ hx541,?_⟩;(conv=>whnf);refine LnA.mk _ (List.length_map _) ?_;obtain⟨n291,hx557,hl23⟩:=ab hl23;(conv=>whnf);refine SeqG.mk Unit (fun y=>[(3,.ptr 3 b2 0),(7,.sl 45 hd2),(13,.d (I b20)),(14,.d (I n291))]) (fun y=>[(3,.cells b2 [.d (.list 1 (List.map I ra2.fBowlers)),.d (.list 2 (List.map DeskLane.enc ra2.fLanes)),.d (.list 1 (List.map eL ra2.fKept)),.d (.list 6 (List.map RateSheet.enc ra2.fSheets)),.d (.list 1 (List.map I ra2.fWithdrawn)),.d (.list 3 (List.map LadderResult.enc ra2.fResults))]),(45,.arr hd2 3 1 false (List.map I l13))]) (fun _=>True) ?_ ?_
           ·(conv=>whnf);refine LoopG.mk (Nat×(Int×Int)) (fun y=>[(3,.ptr 3 b2 0),(7,.sl 45 hd2),(13,.d (I b20)),(14,.d (I y.2.1)),(15,.d (I y.2.2))]) (fun y=>[(3,.cells b2 [.d (.list 1 (List.map I ra2.fBowlers)),.d (.list 2 (List.map DeskLane.enc ra2.fLanes)),.d (.list 1 (List.map eL ra2.fKept)),.d (.list 6 (List.map RateSheet.enc ra2.fSheets)),.d (.list 1 (List.map I ra2.fWithdrawn)),.d (.list 3 (List.map LadderResult.enc ra2.fResults))]),(45,.arr hd2 3 1 false (List.map I l13))]) (fun y=>aj (fun rr x=>Fh N ra2 b20 rr x.1 x.2) y.1 y.2=some n291) (fun y=>y.1) (N,((x376.length:Int),0)) hx557 (Sub.eq rfl ?_ ?_) ?_
            ·(repeat ((conv=>whnf);refine nr ?_));exact trivial
            ·(iterate 2 ((conv=>whnf);refine no ?_));exact trivial
            ·rintro⟨n301,⟨n300,i100⟩⟩ hl27;obtain⟨n301,rfl,hl27⟩:=ar hl27;replace hl27:Fh N ra2 b20 (aj (fun rr x=>Fh N ra2 b20 rr x.1 x.2) n301) n300 i100=some n291:=hl27;rw[Fh]at hl27;refine ws ?_;(conv=>whnf);refine LnA.mk _ (List.length_map _) ?_;refine wB (fun hc447=>?_) (fun hc447=>?_)
             ·replace hl27:=af hc447 hl27;obtain⟨n303,hx570,hl27⟩:=ab hl27;(conv=>whnf);refine SeqG.mk Unit (fun y=>[(3,.ptr 3 b2 0),(7,.sl 45 hd2),(13,.d (I b20)),(14,.d (I n303)),(15,.d (I i100))]) (fun y=>[(3,.cells b2 [.d (.list 1 (List.map I ra2.fBowlers)),.d (.list 2 (List.map DeskLane.enc ra2.fLanes)),.d (.list 1 (List.map eL ra2.fKept)),.d (.list 6 (List.map RateSheet.enc ra2.fSheets)),.d (.list 1 (List.map I ra2.fWithdrawn)),.d (.list 3 (List.map LadderResult.enc ra2.fResults))]),(45,.arr hd2 3 1 false (List.map I l13))]) (fun _=>True) ?_ ?_
              ·refine ws ?_;obtain⟨x400,hx572,hx570⟩:=ab hx570;(conv=>whnf);refine Side.mk rfl ⟨_,aC hx572,ak _ hx572,?_⟩;refine wB (fun hc449=>?_) (fun hc449=>?_)
               ·replace hx570:=af hc449 hx570;cases hx570;(conv=>whnf);exact⟨(),trivial,xT⟩
               ·replace hx570:=ag hc449 hx570;cases hx570;(conv=>whnf);exact⟨(),trivial,xT⟩
              ·rintro _ _;(conv=>whnf);exact⟨(n301,(n303,w64 (i100+1))),hl27,xT,Nat.lt_succ_self _⟩
             ·replace hl27:=ag hc447 hl27;cases hl27;(conv=>whnf);exact⟨(),trivial,xT⟩
           ·rintro _ _;obtain⟨x402,hx574,hl23⟩:=ab hl23;(conv=>whnf);refine Side.mk ⟨rfl,rfl⟩ (Need.mk (aL _ hx574) ?_);(conv=>whnf);refine Side.mk ⟨rfl,rfl⟩ ⟨_,Int.natCast_nonneg _,bX _ hx574,?_⟩;refine wB (fun hc450=>?_) (fun hc450=>?_)
            ·replace hl23:=af hc450 hl23;(conv=>whnf);cases hl23;exact rfl
            ·replace hl23:=ag hc450 hl23;(conv=>whnf);exact⟨(),hl23,xT⟩
          ·rintro _ h;unfold FJ at h;(conv=>whnf);exact⟨(n253,w64 (b20+1)),h,xT,Nat.lt_succ_self _⟩
         ·replace hl23:=ag hc400 hl23;(conv=>whnf);exact⟨(),hl23,xT⟩
       ·clear h;rintro _ h;unfold FI at h;obtain⟨r50,hx364,h⟩:=ab h;(conv=>whnf);refine CallG.pure _ (jR hN hx364) ?_;(conv=>whnf);cases h;exact rfl
end Go.Proofs.YthbomkehodjepaaGreatDoor
