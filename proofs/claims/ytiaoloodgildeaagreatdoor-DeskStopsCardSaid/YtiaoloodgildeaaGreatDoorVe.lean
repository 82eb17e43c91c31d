/-
  Walks: what the typed functions compute, the program’s functions return.
-/
import Derived.Test.YtiaoloodgildeaaGreatDoorWe
import Derived.Test.YtiaoloodgildeaaGreatDoorVa
import Derived.Test.YtiaoloodgildeaaGreatDoorVb
import Derived.Test.YtiaoloodgildeaaGreatDoorVc
import Derived.Test.YtiaoloodgildeaaGreatDoorVd
namespace Go.Proofs.YtiaoloodgildeaaGreatDoor
open Go Go.Abs Go.Kp
set_option maxRecDepth 100000
set_option maxHeartbeats 8000000
set_option linter.all false
theorem mM{N:Nat}(hN:N≤1073741824){c1:Int}{c2:Int}{c3:Int}{c4:List LadderResult}{c5:List LadderPair}{m1:List (Int×LadderResult)}{l1:List (Ar2 Int)}{bo1:Nat}{bo2:Nat}{ho1:Value}{Q:((List (LadderSpot×LadderCheapest)))→Prop}(h:cB N c1 c2 c3 c4 c5 m1 l1 Q) :
    ACalls Tryz.prog 139 [.ptr 440040 bo1 0] [(440040,.cells bo1 (cD c1 c2 c3 c4 c5 440038 bo2 1695055 ho1)),(440038,.map bo2 (List.map eMR m1)),(1695055,.arr ho1 96 2 false (List.map eA2 l1))] (fun ae os=>∃r:(List (LadderSpot×LadderCheapest)),Q r∧(fun ae os=>∃y:Nat,True∧ae=.ret (.mp 2700017 y)∧os=[(440040,.cells bo1 (cD c1 c2 c3 c4 c5 440038 bo2 1695055 ho1)),(440038,.map bo2 (List.map eMR m1)),(1695055,.arr ho1 96 2 false (List.map eA2 l1)),(2700017,.map y (List.map eSC r))]) ae os):=by
  refine bt (fresh:=false) al ap ⟨[],[],[],[],[15,17,21,1002,1004,1014,1017],2700000,[]⟩ Tryz.func139 rfl Tryz.call139 rfl ?_
  unfold cB at h
  (conv=>whnf);intro b2;(conv=>whnf);refine SeqG.mk ((List (LadderSpot×LadderCheapest))) (fun y=>[(3,.mp 2700017 b2)]) (fun y=>[(2700017,.map b2 (List.map eSC y)),(440040,.cells bo1 (cD c1 c2 c3 c4 c5 440038 bo2 1695055 ho1)),(440038,.map bo2 (List.map eMR m1)),(1695055,.arr ho1 96 2 false (List.map eA2 l1))]) (fun y=>cf N y Q) ?_ ?_
  ·(conv=>whnf);refine sr ?_;(conv=>whnf);refine LnA.mk _ (List.length_map _) ?_;(conv=>whnf)
   refine LoopG.mk (Nat×(Int×Int×(List (LadderSpot×LadderCheapest)))) (fun y=>[(0,.ptr 440040 bo1 0),(3,.mp 2700017 b2),(21,.d (.list 4 (List.map LadderPair.enc c5))),(22,.d (I y.2.1)),(23,.d (I y.2.2.1))]) (fun y=>[(440040,.cells bo1 (cD c1 c2 c3 c4 c5 440038 bo2 1695055 ho1)),(2700017,.map b2 (List.map eSC y.2.2.2)),(440038,.map bo2 (List.map eMR m1)),(1695055,.arr ho1 96 2 false (List.map eA2 l1))]) (fun y=>aG (fun rr x=>am N c1 c2 c3 c4 c5 m1 l1 rr x.1 x.2.1 x.2.2) y.1 y.2 Q) (fun y=>y.1) (N,((c5.length:Int),0,([]:List (LadderSpot×LadderCheapest)))) h (Sub.eq rfl ?_ ?_) ?_
   ·(repeat ((conv=>whnf);refine nr ?_));exact trivial
   ·(iterate 4 ((conv=>whnf);refine no ?_));exact trivial
   ·rintro⟨n42,⟨v4697,v4698,m535⟩⟩ hl42;obtain⟨n42,rfl,hl42⟩:=gO hl42;replace hl42:am N c1 c2 c3 c4 c5 m1 l1 (aG (fun rr x=>am N c1 c2 c3 c4 c5 m1 l1 rr x.1 x.2.1 x.2.2) n42) v4697 v4698 m535 Q:=hl42;rw[am]at hl42;(conv=>whnf);refine Br.mk (fun hc5412=>?_) (fun hc5412=>?_)
    ·replace hl42:=dF hc5412 hl42;(conv=>whnf)
     refine SeqG.mk ((List (LadderSpot×LadderCheapest))) (fun y=>[(0,.ptr 440040 bo1 0),(3,.mp 2700017 b2),(21,.d (.list 4 (List.map LadderPair.enc c5))),(22,.d (I v4697)),(23,.d (I v4698))]) (fun y=>[(440040,.cells bo1 (cD c1 c2 c3 c4 c5 440038 bo2 1695055 ho1)),(2700017,.map b2 (List.map eSC y)),(440038,.map bo2 (List.map eMR m1)),(1695055,.arr ho1 96 2 false (List.map eA2 l1))]) (fun y=>cY N v4697 v4698 (aG (fun rr x=>am N c1 c2 c3 c4 c5 m1 l1 rr x.1 x.2.1 x.2.2) n42) y Q) ?_ ?_
     ·obtain⟨x816,hx3478,hl42⟩:=bw hl42;(conv=>whnf);refine Side.mk rfl ⟨_,aC hx3478,ak _ hx3478,?_⟩;(conv=>whnf);intro b2490;(iterate 2 ((conv=>whnf);refine sr ?_));obtain⟨r1872,hx3480,hl42⟩:=bw hl42;(conv=>whnf)
      refine CallG.own (iB (bo1:=bo1) (bo2:=b2) (bo3:=bo2) (ho1:=ho1) hN hx3480) id [(2700005,.cells b2490 [.d (I x816.fFirst.fPlayer),.d (I x816.fFirst.fMatch),.d (I x816.fSecond.fPlayer),.d (I x816.fSecond.fMatch)])] _ (fun y=>[(440040,.cells bo1 (cD c1 c2 c3 c4 c5 440038 bo2 1695055 ho1)),(2700017,.map b2 (List.map eSC m535)),(440038,.map bo2 (List.map eMR m1)),(1695055,.arr ho1 96 2 false (List.map eA2 l1)),(3905014,.map y (List.map eII r1872)),(2700005,.cells b2490 [.d (I x816.fFirst.fPlayer),.d (I x816.fFirst.fMatch),.d (I x816.fSecond.fPlayer),.d (I x816.fSecond.fMatch)])]) (ac _) (ai (ai (ai (ai trivial)))) rfl (ai (ai (ai (ai trivial)))) (ai trivial) (fun _=>AV.le_refl _) (fun _=>rfl) ?_
      rintro b2492 _;(conv=>whnf);refine sr ?_;intro ib90;(conv=>whnf)
      refine LoopG.mk (Nat×((List (LadderSpot×LadderCheapest))×(List (Int×Int)))) (fun y=>[(0,.ptr 440040 bo1 0),(3,.mp 2700017 b2),(4,.d (I v4698)),(5,.ptr 2700005 b2490 0),(21,.d (.list 4 (List.map LadderPair.enc c5))),(22,.d (I v4697)),(23,.d (I v4698)),(33,.it 2700033 ib90)]) (fun y=>[(440040,.cells bo1 (cD c1 c2 c3 c4 c5 440038 bo2 1695055 ho1)),(2700017,.map b2 (List.map eSC y.2.1)),(2700005,.cells b2490 [.d (I x816.fFirst.fPlayer),.d (I x816.fFirst.fMatch),.d (I x816.fSecond.fPlayer),.d (I x816.fSecond.fMatch)]),(2700033,.mit ib90 3905014 b2492 (List.map eII r1872) (List.map eII y.2.2) none),(440038,.map bo2 (List.map eMR m1)),(1695055,.arr ho1 96 2 false (List.map eA2 l1)),(3905014,.map b2492 (List.map eII r1872))]) (fun y=>aG (fun rr x=>au N c1 c2 c3 c4 c5 m1 l1 v4697 v4698 (aG (fun rr x=>am N c1 c2 c3 c4 c5 m1 l1 rr x.1 x.2.1 x.2.2) n42) x816 rr x.1 x.2) y.1 y.2 Q) (fun y=>y.1) (N,(m535,r1872)) hl42 (Sub.eq rfl ?_ ?_) ?_
      ·(repeat ((conv=>whnf);refine nr ?_));exact trivial
      ·(iterate 7 ((conv=>whnf);refine no ?_));exact trivial
      ·rintro⟨n49,⟨m624,rem468⟩⟩ hl49;obtain⟨n49,rfl,hl49⟩:=gO hl49;replace hl49:au N c1 c2 c3 c4 c5 m1 l1 v4697 v4698 (aG (fun rr x=>am N c1 c2 c3 c4 c5 m1 l1 rr x.1 x.2.1 x.2.2) n42) x816 (aG (fun rr x=>au N c1 c2 c3 c4 c5 m1 l1 v4697 v4698 (aG (fun rr x=>am N c1 c2 c3 c4 c5 m1 l1 rr x.1 x.2.1 x.2.2) n42) x816 rr x.1 x.2) n49) m624 rem468 Q:=hl49;rw[au]at hl49;(conv=>whnf);refine Side.mk ⟨rfl,rfl,rfl⟩ (NextG.of eII rem468 rfl (fun h0=>?_) ?_)
       ·replace hl49:=pY hl49 h0;(conv=>whnf);refine⟨m624,hl49,Sub.eq rfl ?_ ?_⟩
        ·(repeat ((conv=>whnf);refine nr ?_));exact trivial
        ·(iterate 4 ((conv=>whnf);refine no ?_));exact trivial
       ·rintro⟨k282,v5481⟩ rem470 hs;replace hl49:=pZ hl49 hs;(conv=>whnf);refine Side.mk ⟨rfl,rfl,rfl⟩ ?_;(conv=>whnf);refine sr ?_;obtain⟨r1986,hx3690,hl49⟩:=bw hl49;(conv=>whnf)
        refine CallG.own (iB (bo1:=bo1) (bo2:=b2) (bo3:=bo2) (ho1:=ho1) hN hx3690) (fun k=>(cond (Nat.beq k 3905014) 13905014 k)) [(2700005,.cells b2490 [.d (I x816.fFirst.fPlayer),.d (I x816.fFirst.fMatch),.d (I x816.fSecond.fPlayer),.d (I x816.fSecond.fMatch)]),(2700033,.mit ib90 3905014 b2492 (List.map eII r1872) (List.map eII rem470) (some (I k282,I v5481))),(3905014,.map b2492 (List.map eII r1872))] (fun y=>.mp 13905014 y) (fun y=>[(440040,.cells bo1 (cD c1 c2 c3 c4 c5 440038 bo2 1695055 ho1)),(2700017,.map b2 (List.map eSC m624)),(440038,.map bo2 (List.map eMR m1)),(1695055,.arr ho1 96 2 false (List.map eA2 l1)),(13905014,.map y (List.map eII r1986)),(2700005,.cells b2490 [.d (I x816.fFirst.fPlayer),.d (I x816.fFirst.fMatch),.d (I x816.fSecond.fPlayer),.d (I x816.fSecond.fMatch)]),(2700033,.mit ib90 3905014 b2492 (List.map eII r1872) (List.map eII rem470) (some (I k282,I v5481))),(3905014,.map b2492 (List.map eII r1872))]) (ac _) (ai (ai (ai (ai trivial)))) rfl (ai (ai (ai (ai trivial)))) (ai (ai (ai trivial))) (fun _=>AV.le_mp _ _ _) (fun _=>rfl) ?_
        rintro b2642 _;(conv=>whnf);refine sr ?_;intro ib96;(conv=>whnf)
        refine LoopG.mk (Nat×((List (LadderSpot×LadderCheapest))×(List (Int×Int)))) (fun y=>[(0,.ptr 440040 bo1 0),(3,.mp 2700017 b2),(4,.d (I v4698)),(5,.ptr 2700005 b2490 0),(6,.d (I k282)),(7,.d (I v5481)),(21,.d (.list 4 (List.map LadderPair.enc c5))),(22,.d (I v4697)),(23,.d (I v4698)),(33,.it 2700033 ib90),(44,.it 2700044 ib96)]) (fun y=>[(440040,.cells bo1 (cD c1 c2 c3 c4 c5 440038 bo2 1695055 ho1)),(2700017,.map b2 (List.map eSC y.2.1)),(2700005,.cells b2490 [.d (I x816.fFirst.fPlayer),.d (I x816.fFirst.fMatch),.d (I x816.fSecond.fPlayer),.d (I x816.fSecond.fMatch)]),(2700033,.mit ib90 3905014 b2492 (List.map eII r1872) (List.map eII rem470) none),(2700044,.mit ib96 13905014 b2642 (List.map eII r1986) (List.map eII y.2.2) none),(440038,.map bo2 (List.map eMR m1)),(1695055,.arr ho1 96 2 false (List.map eA2 l1)),(3905014,.map b2492 (List.map eII r1872)),(13905014,.map b2642 (List.map eII r1986))]) (fun y=>aG (fun rr x=>aw N c1 c2 c3 c4 c5 m1 l1 v4698 (aG (fun rr x=>au N c1 c2 c3 c4 c5 m1 l1 v4697 v4698 (aG (fun rr x=>am N c1 c2 c3 c4 c5 m1 l1 rr x.1 x.2.1 x.2.2) n42) x816 rr x.1 x.2) n49) k282 v5481 rem470 rr x.1 x.2) y.1 y.2 Q) (fun y=>y.1) (N,(m624,r1986)) hl49 (Sub.eq rfl ?_ ?_) ?_
        ·(repeat ((conv=>whnf);refine nr ?_));exact trivial
        ·(iterate 3 ((conv=>whnf);refine no ?_));(conv=>whnf);refine Need.mk (OLe.mit _ _ _ _ _ _) ?_;(iterate 5 ((conv=>whnf);refine no ?_));exact trivial
        ·rintro⟨n50,⟨m636,rem478⟩⟩ hl50;obtain⟨n50,rfl,hl50⟩:=gO hl50;replace hl50:aw N c1 c2 c3 c4 c5 m1 l1 v4698 (aG (fun rr x=>au N c1 c2 c3 c4 c5 m1 l1 v4697 v4698 (aG (fun rr x=>am N c1 c2 c3 c4 c5 m1 l1 rr x.1 x.2.1 x.2.2) n42) x816 rr x.1 x.2) n49) k282 v5481 rem470 (aG (fun rr x=>aw N c1 c2 c3 c4 c5 m1 l1 v4698 (aG (fun rr x=>au N c1 c2 c3 c4 c5 m1 l1 v4697 v4698 (aG (fun rr x=>am N c1 c2 c3 c4 c5 m1 l1 rr x.1 x.2.1 x.2.2) n42) x816 rr x.1 x.2) n49) k282 v5481 rem470 rr x.1 x.2) n50) m636 rem478 Q:=hl50;rw[aw]at hl50;(conv=>whnf);refine Side.mk ⟨rfl,rfl,rfl⟩ (NextG.of eII rem478 rfl (fun h0=>?_) ?_)
         ·replace hl50:=pY hl50 h0;(conv=>whnf);refine⟨(n49,(m636,rem470)),hl50,Sub.eq rfl ?_ ?_,Nat.lt_succ_self _⟩
          ·(repeat ((conv=>whnf);refine nr ?_));exact trivial
          ·(iterate 7 ((conv=>whnf);refine no ?_));exact trivial
         ·rintro⟨k288,v5586⟩ rem480 hs;replace hl50:=pZ hl50 hs;(conv=>whnf);refine Side.mk ⟨rfl,rfl,rfl⟩ ?_;obtain⟨r2024,hx3760,hl50⟩:=bw hl50;(conv=>whnf)
          refine CallG.own (kG (bo1:=bo1) (bo2:=bo2) (ho1:=ho1) hN hx3760) id [(2700017,.map b2 (List.map eSC m636)),(2700005,.cells b2490 [.d (I x816.fFirst.fPlayer),.d (I x816.fFirst.fMatch),.d (I x816.fSecond.fPlayer),.d (I x816.fSecond.fMatch)]),(2700033,.mit ib90 3905014 b2492 (List.map eII r1872) (List.map eII rem470) none),(2700044,.mit ib96 13905014 b2642 (List.map eII r1986) (List.map eII rem480) (some (I k288,I v5586))),(3905014,.map b2492 (List.map eII r1872)),(13905014,.map b2642 (List.map eII r1986))] _ (fun y=>[(440040,.cells bo1 (cD c1 c2 c3 c4 c5 440038 bo2 1695055 ho1)),(440038,.map bo2 (List.map eMR m1)),(1695055,.arr ho1 96 2 false (List.map eA2 l1)),(2700017,.map b2 (List.map eSC m636)),(2700005,.cells b2490 [.d (I x816.fFirst.fPlayer),.d (I x816.fFirst.fMatch),.d (I x816.fSecond.fPlayer),.d (I x816.fSecond.fMatch)]),(2700033,.mit ib90 3905014 b2492 (List.map eII r1872) (List.map eII rem470) none),(2700044,.mit ib96 13905014 b2642 (List.map eII r1986) (List.map eII rem480) (some (I k288,I v5586))),(3905014,.map b2492 (List.map eII r1872)),(13905014,.map b2642 (List.map eII r1986))]) (ac _) (ai (ai (ai trivial))) rfl (ai (ai (ai trivial))) (ai (ai (ai (ai (ai (ai trivial)))))) (fun _=>AV.le_refl _) (fun _=>rfl) ?_
          rintro _ _;(conv=>whnf);intro hd1928;(conv=>whnf);refine Side.mk rfl (LnA.lit 2 rfl ?_);(conv=>whnf);refine LoopG.unr 3 ?_;(conv=>whnf)
          refine SeqG.mk ((List (LadderSpot×LadderCheapest))×(List (Ar2 Int))) (fun y=>[(0,.ptr 440040 bo1 0),(3,.mp 2700017 b2),(4,.d (I v4698)),(5,.ptr 2700005 b2490 0),(6,.d (I k282)),(7,.d (I v5481)),(9,.d (I v5586)),(10,.d (I r2024)),(21,.d (.list 4 (List.map LadderPair.enc c5))),(22,.d (I v4697)),(23,.d (I v4698)),(33,.it 2700033 ib90),(44,.it 2700044 ib96),(61,.sl 2700061 hd1928),(62,.i .i64 2),(63,.i .i64 0)]) (fun y=>[(440040,.cells bo1 (cD c1 c2 c3 c4 c5 440038 bo2 1695055 ho1)),(2700017,.map b2 (List.map eSC y.1)),(2700005,.cells b2490 [.d (I x816.fFirst.fPlayer),.d (I x816.fFirst.fMatch),.d (I x816.fSecond.fPlayer),.d (I x816.fSecond.fMatch)]),(2700033,.mit ib90 3905014 b2492 (List.map eII r1872) (List.map eII rem470) none),(2700044,.mit ib96 13905014 b2642 (List.map eII r1986) (List.map eII rem480) (some (I k288,I v5586))),(2700061,.arr hd1928 96 2 false (List.map eA2 y.2)),(440038,.map bo2 (List.map eMR m1)),(1695055,.arr ho1 96 2 false (List.map eA2 l1)),(3905014,.map b2492 (List.map eII r1872)),(13905014,.map b2642 (List.map eII r1986))]) (fun y=>aV N v4698 v5481 (aG (fun rr x=>aw N c1 c2 c3 c4 c5 m1 l1 v4698 (aG (fun rr x=>au N c1 c2 c3 c4 c5 m1 l1 v4697 v4698 (aG (fun rr x=>am N c1 c2 c3 c4 c5 m1 l1 rr x.1 x.2.1 x.2.2) n42) x816 rr x.1 x.2) n49) k282 v5481 rem470 rr x.1 x.2) n50) v5586 rem480 r2024 y.1 y.2 Q) ?_ ?_
          ·obtain⟨x888,hx3786,hl50⟩:=bw hl50;(conv=>whnf);refine Side.mk ⟨rfl,rfl⟩ (Need.mk (aL (fun x:Ar2 Int=>(.agg [I x.a0,I x.a1]:D)) hx3786) ?_);(conv=>whnf);refine Side.mk ⟨rfl,rfl⟩ ⟨_,Int.natCast_nonneg _,bX (fun x:Ar2 Int=>(.agg [I x.a0,I x.a1]:D)) hx3786,?_⟩;(conv=>whnf);intro b2710;(conv=>whnf);refine sr ?_;(conv=>whnf)
           refine SeqG.mk (Bool×(List (Ar2 Int))) (fun y=>[(0,.ptr 440040 bo1 0),(3,.mp 2700017 b2),(4,.d (I v4698)),(5,.ptr 2700005 b2490 0),(6,.d (I k282)),(7,.d (I v5481)),(9,.d (I v5586)),(10,.d (I r2024)),(12,.ptr 2700012 b2710 0),(21,.d (.list 4 (List.map LadderPair.enc c5))),(22,.d (I v4697)),(23,.d (I v4698)),(33,.it 2700033 ib90),(44,.it 2700044 ib96),(61,.sl 2700061 hd1928),(62,.i .i64 2),(63,.i .i64 0),(74,.d (.bool y.1))]) (fun y=>[(440040,.cells bo1 (cD c1 c2 c3 c4 c5 440038 bo2 1695055 ho1)),(2700017,.map b2 (List.map eSC m636)),(2700005,.cells b2490 [.d (I x816.fFirst.fPlayer),.d (I x816.fFirst.fMatch),.d (I x816.fSecond.fPlayer),.d (I x816.fSecond.fMatch)]),(2700012,.cells b2710 [.d (I x888.a0),.d (I x888.a1)]),(2700033,.mit ib90 3905014 b2492 (List.map eII r1872) (List.map eII rem470) none),(2700044,.mit ib96 13905014 b2642 (List.map eII r1986) (List.map eII rem480) (some (I k288,I v5586))),(2700061,.arr hd1928 96 2 false (List.map eA2 y.2)),(440038,.map bo2 (List.map eMR m1)),(1695055,.arr ho1 96 2 false (List.map eA2 l1)),(3905014,.map b2492 (List.map eII r1872)),(13905014,.map b2642 (List.map eII r1986))]) (fun y=>ba N v4698 v5481 m636 (aG (fun rr x=>aw N c1 c2 c3 c4 c5 m1 l1 v4698 (aG (fun rr x=>au N c1 c2 c3 c4 c5 m1 l1 v4697 v4698 (aG (fun rr x=>am N c1 c2 c3 c4 c5 m1 l1 rr x.1 x.2.1 x.2.2) n42) x816 rr x.1 x.2) n49) k282 v5481 rem470 rr x.1 x.2) n50) v5586 rem480 r2024 x888 y.1 y.2 Q) ?_ ?_
           ·(conv=>whnf);refine Br.mk (fun hc6492=>?_) (fun hc6492=>?_)
            ·replace hl50:=dF hc6492 hl50;(conv=>whnf);refine IxG.mk 0 rfl (by decide) ?_;(conv=>whnf);refine sr ?_;(conv=>whnf);refine⟨(!decide (r2024=x888.a0),[(Ar2.mk k282 k288),(Ar2.mk k288 k282)]),hl50,Sub.eq rfl ?_ ?_⟩
             ·(repeat ((conv=>whnf);refine nr ?_));exact trivial
             ·(iterate 11 ((conv=>whnf);refine no ?_));exact trivial
            ·replace hl50:=dG hc6492 hl50;(conv=>whnf);refine⟨(false,[(Ar2.mk k282 k288),(Ar2.mk k288 k282)]),hl50,Sub.eq rfl ?_ ?_⟩
             ·(repeat ((conv=>whnf);refine nr ?_));exact trivial
             ·(iterate 11 ((conv=>whnf);refine no ?_));exact trivial
           ·rintro⟨v5626,l1081⟩ h;unfold ba at h;(conv=>whnf);refine Br.mk (fun hc6482=>?_) (fun hc6482=>?_)
            ·replace h:=dF hc6482 h;(conv=>whnf);refine⟨(m636,l1081),h,Sub.eq rfl ?_ ?_⟩
             ·(repeat ((conv=>whnf);refine nr ?_));exact trivial
             ·(iterate 10 ((conv=>whnf);refine no ?_));exact trivial
            ·replace h:=dG hc6482 h;(conv=>whnf);intro hd1942;obtain⟨r2038,hx3788,h⟩:=bw h;(conv=>whnf);refine sr ?_;(conv=>whnf);refine CallG.pure _ (je hN hx3788) ?_;(conv=>whnf)
             refine SeqG.mk Int (fun y=>[(0,.ptr 440040 bo1 0),(3,.mp 2700017 b2),(4,.d (I v4698)),(5,.ptr 2700005 b2490 0),(6,.d (I k282)),(7,.d (I v5481)),(9,.d (I v5586)),(10,.d (I r2024)),(12,.ptr 2700012 b2710 0),(13,.d (I y)),(21,.d (.list 4 (List.map LadderPair.enc c5))),(22,.d (I v4697)),(23,.d (I v4698)),(33,.it 2700033 ib90),(44,.it 2700044 ib96),(61,.sl 2700061 hd1928),(62,.i .i64 2),(63,.i .i64 0)]) (fun y=>[(440040,.cells bo1 (cD c1 c2 c3 c4 c5 440038 bo2 1695055 ho1)),(2700017,.map b2 (List.map eSC m636)),(2700005,.cells b2490 [.d (I x816.fFirst.fPlayer),.d (I x816.fFirst.fMatch),.d (I x816.fSecond.fPlayer),.d (I x816.fSecond.fMatch)]),(2700012,.cells b2710 [.d (I x888.a0),.d (I x888.a1)]),(2700033,.mit ib90 3905014 b2492 (List.map eII r1872) (List.map eII rem470) none),(2700044,.mit ib96 13905014 b2642 (List.map eII r1986) (List.map eII rem480) (some (I k288,I v5586))),(2700061,.arr hd1928 96 2 false (List.map eA2 l1081)),(440038,.map bo2 (List.map eMR m1)),(1695055,.arr ho1 96 2 false (List.map eA2 l1)),(3905014,.map b2492 (List.map eII r1872)),(13905014,.map b2642 (List.map eII r1986))]) (fun y=>aY N v4698 v5481 m636 (aG (fun rr x=>aw N c1 c2 c3 c4 c5 m1 l1 v4698 (aG (fun rr x=>au N c1 c2 c3 c4 c5 m1 l1 v4697 v4698 (aG (fun rr x=>am N c1 c2 c3 c4 c5 m1 l1 rr x.1 x.2.1 x.2.2) n42) x816 rr x.1 x.2) n49) k282 v5481 rem470 rr x.1 x.2) n50) v5586 rem480 r2024 x888 l1081 y Q) ?_ ?_
             ·(conv=>whnf)
              refine SeqG.mk Bool (fun y=>[(0,.ptr 440040 bo1 0),(3,.mp 2700017 b2),(4,.d (I v4698)),(5,.ptr 2700005 b2490 0),(6,.d (I k282)),(7,.d (I v5481)),(9,.d (I v5586)),(10,.d (I r2024)),(12,.ptr 2700012 b2710 0),(13,.d (I r2038)),(21,.d (.list 4 (List.map LadderPair.enc c5))),(22,.d (I v4697)),(23,.d (I v4698)),(33,.it 2700033 ib90),(44,.it 2700044 ib96),(61,.sl 2700061 hd1928),(62,.i .i64 2),(63,.i .i64 0),(87,.d (.bool y))]) (fun y=>[(440040,.cells bo1 (cD c1 c2 c3 c4 c5 440038 bo2 1695055 ho1)),(2700017,.map b2 (List.map eSC m636)),(2700005,.cells b2490 [.d (I x816.fFirst.fPlayer),.d (I x816.fFirst.fMatch),.d (I x816.fSecond.fPlayer),.d (I x816.fSecond.fMatch)]),(2700012,.cells b2710 [.d (I x888.a0),.d (I x888.a1)]),(2700033,.mit ib90 3905014 b2492 (List.map eII r1872) (List.map eII rem470) none),(2700044,.mit ib96 13905014 b2642 (List.map eII r1986) (List.map eII rem480) (some (I k288,I v5586))),(2700061,.arr hd1928 96 2 false (List.map eA2 l1081)),(440038,.map bo2 (List.map eMR m1)),(1695055,.arr ho1 96 2 false (List.map eA2 l1)),(3905014,.map b2492 (List.map eII r1872)),(13905014,.map b2642 (List.map eII r1986))]) (fun y=>aZ N v4698 v5481 m636 (aG (fun rr x=>aw N c1 c2 c3 c4 c5 m1 l1 v4698 (aG (fun rr x=>au N c1 c2 c3 c4 c5 m1 l1 v4697 v4698 (aG (fun rr x=>am N c1 c2 c3 c4 c5 m1 l1 rr x.1 x.2.1 x.2.2) n42) x816 rr x.1 x.2) n49) k282 v5481 rem470 rr x.1 x.2) n50) v5586 rem480 r2024 x888 l1081 r2038 y Q) ?_ ?_
              ·(conv=>whnf);refine Br.mk (fun hc6491=>?_) (fun hc6491=>?_)
               ·replace h:=dF hc6491 h;(conv=>whnf);refine IxG.mk 0 rfl (by decide) ?_;(conv=>whnf);refine sr ?_;(conv=>whnf);refine IxG.mk 1 rfl (by decide) ?_;(conv=>whnf);refine sr ?_;(conv=>whnf);refine⟨decide (x888.a1<x888.a0),h,Sub.eq rfl ?_ ?_⟩
                ·(repeat ((conv=>whnf);refine nr ?_));exact trivial
                ·(iterate 11 ((conv=>whnf);refine no ?_));exact trivial
               ·replace h:=dG hc6491 h;(conv=>whnf);refine⟨false,h,Sub.eq rfl ?_ ?_⟩
                ·(repeat ((conv=>whnf);refine nr ?_));exact trivial
                ·(iterate 11 ((conv=>whnf);refine no ?_));exact trivial
              ·clear h;rintro v5634 h;unfold aZ at h;(conv=>whnf);refine Br.mk (fun hc6490=>?_) (fun hc6490=>?_)
               ·replace h:=dF hc6490 h;(conv=>whnf);intro hd1944;obtain⟨r2040,hx3792,h⟩:=bw h;(conv=>whnf);refine sr ?_;(conv=>whnf);refine CallG.pure _ (je hN hx3792) ?_;(conv=>whnf);refine⟨r2040,h,Sub.eq rfl ?_ ?_⟩
                ·(repeat ((conv=>whnf);refine nr ?_));exact trivial
                ·(iterate 11 ((conv=>whnf);refine no ?_));exact trivial
               ·replace h:=dG hc6490 h;(conv=>whnf);refine⟨r2038,h,Sub.eq rfl ?_ ?_⟩
                ·(repeat ((conv=>whnf);refine nr ?_));exact trivial
                ·(iterate 11 ((conv=>whnf);refine no ?_));exact trivial
             ·clear h;rintro cost864 h;unfold aY at h;(conv=>whnf);refine IxG.mk 0 rfl (by decide) ?_;(conv=>whnf);refine sr ?_;(conv=>whnf);intro b2712;(iterate 2 ((conv=>whnf);refine sr ?_));obtain⟨⟨v5630,is864⟩,hx3791,h⟩:=bw h;(conv=>whnf);refine Side.mk rfl (Need.mk rfl (Need.mk (bd (m:=m636) (fun x:LadderSpot=>.agg [I x.fMatch,I x.fPlayer]) (fun x:LadderCheapest=>.agg [I x.fUpsets,I x.fOther]) fun _=>rfl) (LkG.mk (.agg [I v5630.fUpsets,I v5630.fOther]) is864 (ji (eK:=(fun x:LadderSpot=>.agg [I x.fMatch,I x.fPlayer])) (eV:=(fun x:LadderCheapest=>.agg [I x.fUpsets,I x.fOther])) LadderSpot.eqc hx3791) (jj (eK:=(fun x:LadderSpot=>.agg [I x.fMatch,I x.fPlayer])) (eV:=(fun x:LadderCheapest=>.agg [I x.fUpsets,I x.fOther])) LadderSpot.eqc hx3791) ?_)));(conv=>whnf);intro b2714;(conv=>whnf)
              refine sr ?_;(conv=>whnf)
              refine SeqG.mk Bool (fun y=>[(0,.ptr 440040 bo1 0),(3,.mp 2700017 b2),(4,.d (I v4698)),(5,.ptr 2700005 b2490 0),(6,.d (I k282)),(7,.d (I v5481)),(9,.d (I v5586)),(10,.d (I r2024)),(12,.ptr 2700012 b2710 0),(13,.d (I cost864)),(14,.ptr 2700014 b2712 0),(21,.d (.list 4 (List.map LadderPair.enc c5))),(22,.d (I v4697)),(23,.d (I v4698)),(33,.it 2700033 ib90),(44,.it 2700044 ib96),(61,.sl 2700061 hd1928),(62,.i .i64 2),(63,.i .i64 0),(108,.d (.bool y))]) (fun y=>[(440040,.cells bo1 (cD c1 c2 c3 c4 c5 440038 bo2 1695055 ho1)),(2700017,.map b2 (List.map eSC m636)),(2700005,.cells b2490 [.d (I x816.fFirst.fPlayer),.d (I x816.fFirst.fMatch),.d (I x816.fSecond.fPlayer),.d (I x816.fSecond.fMatch)]),(2700012,.cells b2710 [.d (I x888.a0),.d (I x888.a1)]),(2700014,.cells b2712 [.d (I v4698),.d (I x888.a0)]),(2700033,.mit ib90 3905014 b2492 (List.map eII r1872) (List.map eII rem470) none),(2700044,.mit ib96 13905014 b2642 (List.map eII r1986) (List.map eII rem480) (some (I k288,I v5586))),(2700061,.arr hd1928 96 2 false (List.map eA2 l1081)),(440038,.map bo2 (List.map eMR m1)),(1695055,.arr ho1 96 2 false (List.map eA2 l1)),(3905014,.map b2492 (List.map eII r1872)),(13905014,.map b2642 (List.map eII r1986))]) (fun y=>bq N v4698 v5481 m636 (aG (fun rr x=>aw N c1 c2 c3 c4 c5 m1 l1 v4698 (aG (fun rr x=>au N c1 c2 c3 c4 c5 m1 l1 v4697 v4698 (aG (fun rr x=>am N c1 c2 c3 c4 c5 m1 l1 rr x.1 x.2.1 x.2.2) n42) x816 rr x.1 x.2) n49) k282 v5481 rem470 rr x.1 x.2) n50) v5586 rem480 r2024 x888 l1081 cost864 y Q) ?_ ?_
              ·(conv=>whnf);refine Br.mk (fun hc6488=>?_) (fun hc6488=>?_)
               ·replace h:=dG hc6488 h;(conv=>whnf);refine sr ?_;(conv=>whnf);refine⟨decide (cost864<v5630.fUpsets),h,Sub.eq rfl ?_ ?_⟩
                ·(repeat ((conv=>whnf);refine nr ?_));exact trivial
                ·(iterate 12 ((conv=>whnf);refine no ?_));exact trivial
               ·replace h:=dF hc6488 h;(conv=>whnf);refine⟨true,h,Sub.eq rfl ?_ ?_⟩
                ·(repeat ((conv=>whnf);refine nr ?_));exact trivial
                ·(iterate 12 ((conv=>whnf);refine no ?_));exact trivial
              ·clear h;rintro v5632 h;unfold bq at h;(conv=>whnf);refine Br.mk (fun hc6487=>?_) (fun hc6487=>?_)
               ·replace h:=dF hc6487 h;(conv=>whnf);refine sr ?_;(conv=>whnf);refine IxG.mk 1 rfl (by decide) ?_;(conv=>whnf);refine sr ?_;(conv=>whnf);refine Side.mk rfl (Need.mk rfl (Need.mk (bd (m:=m636) (fun x:LadderSpot=>.agg [I x.fMatch,I x.fPlayer]) (fun x:LadderCheapest=>.agg [I x.fUpsets,I x.fOther]) fun _=>rfl) (MEqv.mk (List.map (fun p:LadderSpot×LadderCheapest=>(.agg [I p.1.fMatch,I p.1.fPlayer],.agg [I p.2.fUpsets,I p.2.fOther])) (mput m636 (LadderSpot.mk v4698 x888.a0) (LadderCheapest.mk cost864 x888.a1))) (fS (eK:=(fun x:LadderSpot=>.agg [I x.fMatch,I x.fPlayer])) (eV:=(fun x:LadderCheapest=>.agg [I x.fUpsets,I x.fOther])) LadderSpot.eqc m636 (LadderSpot.mk v4698 x888.a0) (LadderCheapest.mk cost864 x888.a1)) ?_)));(conv=>whnf)
                refine⟨((mput m636 (LadderSpot.mk v4698 x888.a0) (LadderCheapest.mk cost864 x888.a1)),l1081),h,Sub.eq rfl ?_ ?_⟩
                ·(repeat ((conv=>whnf);refine nr ?_));exact trivial
                ·(iterate 10 ((conv=>whnf);refine no ?_));exact trivial
               ·replace h:=dG hc6487 h;(conv=>whnf);refine⟨(m636,l1081),h,Sub.eq rfl ?_ ?_⟩
                ·(repeat ((conv=>whnf);refine nr ?_));exact trivial
                ·(iterate 10 ((conv=>whnf);refine no ?_));exact trivial
          ·rintro⟨m638,l1077⟩ h;unfold aV at h;(conv=>whnf)
           refine SeqG.mk ((List (LadderSpot×LadderCheapest))) (fun y=>[(0,.ptr 440040 bo1 0),(3,.mp 2700017 b2),(4,.d (I v4698)),(5,.ptr 2700005 b2490 0),(6,.d (I k282)),(7,.d (I v5481)),(9,.d (I v5586)),(10,.d (I r2024)),(21,.d (.list 4 (List.map LadderPair.enc c5))),(22,.d (I v4697)),(23,.d (I v4698)),(33,.it 2700033 ib90),(44,.it 2700044 ib96),(61,.sl 2700061 hd1928),(62,.i .i64 2),(63,.i .i64 1)]) (fun y=>[(440040,.cells bo1 (cD c1 c2 c3 c4 c5 440038 bo2 1695055 ho1)),(2700017,.map b2 (List.map eSC y)),(2700005,.cells b2490 [.d (I x816.fFirst.fPlayer),.d (I x816.fFirst.fMatch),.d (I x816.fSecond.fPlayer),.d (I x816.fSecond.fMatch)]),(2700033,.mit ib90 3905014 b2492 (List.map eII r1872) (List.map eII rem470) none),(2700044,.mit ib96 13905014 b2642 (List.map eII r1986) (List.map eII rem480) (some (I k288,I v5586))),(2700061,.arr hd1928 96 2 false (List.map eA2 l1077)),(440038,.map bo2 (List.map eMR m1)),(1695055,.arr ho1 96 2 false (List.map eA2 l1)),(3905014,.map b2492 (List.map eII r1872)),(13905014,.map b2642 (List.map eII r1986))]) (fun y=>bi N (aG (fun rr x=>aw N c1 c2 c3 c4 c5 m1 l1 v4698 (aG (fun rr x=>au N c1 c2 c3 c4 c5 m1 l1 v4697 v4698 (aG (fun rr x=>am N c1 c2 c3 c4 c5 m1 l1 rr x.1 x.2.1 x.2.2) n42) x816 rr x.1 x.2) n49) k282 v5481 rem470 rr x.1 x.2) n50) rem480 y Q) ?_ ?_
           ·obtain⟨x886,hx3778,h⟩:=bw h;(conv=>whnf);refine Side.mk ⟨rfl,rfl⟩ (Need.mk (aL _ hx3778) ?_);(conv=>whnf);refine Side.mk ⟨rfl,rfl⟩ ⟨_,Int.natCast_nonneg _,bX _ hx3778,?_⟩;(conv=>whnf);intro b2704;(conv=>whnf);refine sr ?_;(conv=>whnf)
            refine SeqG.mk Bool (fun y=>[(0,.ptr 440040 bo1 0),(3,.mp 2700017 b2),(4,.d (I v4698)),(5,.ptr 2700005 b2490 0),(6,.d (I k282)),(7,.d (I v5481)),(9,.d (I v5586)),(10,.d (I r2024)),(12,.ptr 2700012 b2704 0),(21,.d (.list 4 (List.map LadderPair.enc c5))),(22,.d (I v4697)),(23,.d (I v4698)),(33,.it 2700033 ib90),(44,.it 2700044 ib96),(61,.sl 2700061 hd1928),(62,.i .i64 2),(63,.i .i64 1),(74,.d (.bool y))]) (fun y=>[(440040,.cells bo1 (cD c1 c2 c3 c4 c5 440038 bo2 1695055 ho1)),(2700017,.map b2 (List.map eSC m638)),(2700005,.cells b2490 [.d (I x816.fFirst.fPlayer),.d (I x816.fFirst.fMatch),.d (I x816.fSecond.fPlayer),.d (I x816.fSecond.fMatch)]),(2700012,.cells b2704 [.d (I x886.a0),.d (I x886.a1)]),(2700033,.mit ib90 3905014 b2492 (List.map eII r1872) (List.map eII rem470) none),(2700044,.mit ib96 13905014 b2642 (List.map eII r1986) (List.map eII rem480) (some (I k288,I v5586))),(2700061,.arr hd1928 96 2 false (List.map eA2 l1077)),(440038,.map bo2 (List.map eMR m1)),(1695055,.arr ho1 96 2 false (List.map eA2 l1)),(3905014,.map b2492 (List.map eII r1872)),(13905014,.map b2642 (List.map eII r1986))]) (fun y=>bp N v4698 v5481 (aG (fun rr x=>aw N c1 c2 c3 c4 c5 m1 l1 v4698 (aG (fun rr x=>au N c1 c2 c3 c4 c5 m1 l1 v4697 v4698 (aG (fun rr x=>am N c1 c2 c3 c4 c5 m1 l1 rr x.1 x.2.1 x.2.2) n42) x816 rr x.1 x.2) n49) k282 v5481 rem470 rr x.1 x.2) n50) v5586 rem480 r2024 m638 x886 y Q) ?_ ?_
            ·(conv=>whnf);refine Br.mk (fun hc6477=>?_) (fun hc6477=>?_)
             ·replace h:=dF hc6477 h;(conv=>whnf);refine IxG.mk 0 rfl (by decide) ?_;(conv=>whnf);refine sr ?_;(conv=>whnf);refine⟨!decide (r2024=x886.a0),h,Sub.eq rfl ?_ ?_⟩
              ·(repeat ((conv=>whnf);refine nr ?_));exact trivial
              ·(iterate 11 ((conv=>whnf);refine no ?_));exact trivial
             ·replace h:=dG hc6477 h;(conv=>whnf);refine⟨false,h,Sub.eq rfl ?_ ?_⟩
              ·(repeat ((conv=>whnf);refine nr ?_));exact trivial
              ·(iterate 11 ((conv=>whnf);refine no ?_));exact trivial
            ·clear h;rintro v5614 h;unfold bp at h;(conv=>whnf);refine Br.mk (fun hc6467=>?_) (fun hc6467=>?_)
             ·replace h:=dF hc6467 h;(conv=>whnf);refine⟨m638,h,Sub.eq rfl ?_ ?_⟩
              ·(repeat ((conv=>whnf);refine nr ?_));exact trivial
              ·(iterate 10 ((conv=>whnf);refine no ?_));exact trivial
             ·replace h:=dG hc6467 h;(conv=>whnf);intro hd1938;obtain⟨r2034,hx3780,h⟩:=bw h;(conv=>whnf);refine sr ?_;(conv=>whnf);refine CallG.pure _ (je hN hx3780) ?_;(conv=>whnf)
              refine SeqG.mk Int (fun y=>[(0,.ptr 440040 bo1 0),(3,.mp 2700017 b2),(4,.d (I v4698)),(5,.ptr 2700005 b2490 0),(6,.d (I k282)),(7,.d (I v5481)),(9,.d (I v5586)),(10,.d (I r2024)),(12,.ptr 2700012 b2704 0),(13,.d (I y)),(21,.d (.list 4 (List.map LadderPair.enc c5))),(22,.d (I v4697)),(23,.d (I v4698)),(33,.it 2700033 ib90),(44,.it 2700044 ib96),(61,.sl 2700061 hd1928),(62,.i .i64 2),(63,.i .i64 1)]) (fun y=>[(440040,.cells bo1 (cD c1 c2 c3 c4 c5 440038 bo2 1695055 ho1)),(2700017,.map b2 (List.map eSC m638)),(2700005,.cells b2490 [.d (I x816.fFirst.fPlayer),.d (I x816.fFirst.fMatch),.d (I x816.fSecond.fPlayer),.d (I x816.fSecond.fMatch)]),(2700012,.cells b2704 [.d (I x886.a0),.d (I x886.a1)]),(2700033,.mit ib90 3905014 b2492 (List.map eII r1872) (List.map eII rem470) none),(2700044,.mit ib96 13905014 b2642 (List.map eII r1986) (List.map eII rem480) (some (I k288,I v5586))),(2700061,.arr hd1928 96 2 false (List.map eA2 l1077)),(440038,.map bo2 (List.map eMR m1)),(1695055,.arr ho1 96 2 false (List.map eA2 l1)),(3905014,.map b2492 (List.map eII r1872)),(13905014,.map b2642 (List.map eII r1986))]) (fun y=>bl N v4698 (aG (fun rr x=>aw N c1 c2 c3 c4 c5 m1 l1 v4698 (aG (fun rr x=>au N c1 c2 c3 c4 c5 m1 l1 v4697 v4698 (aG (fun rr x=>am N c1 c2 c3 c4 c5 m1 l1 rr x.1 x.2.1 x.2.2) n42) x816 rr x.1 x.2) n49) k282 v5481 rem470 rr x.1 x.2) n50) rem480 m638 x886 y Q) ?_ ?_
              ·(conv=>whnf)
               refine SeqG.mk Bool (fun y=>[(0,.ptr 440040 bo1 0),(3,.mp 2700017 b2),(4,.d (I v4698)),(5,.ptr 2700005 b2490 0),(6,.d (I k282)),(7,.d (I v5481)),(9,.d (I v5586)),(10,.d (I r2024)),(12,.ptr 2700012 b2704 0),(13,.d (I r2034)),(21,.d (.list 4 (List.map LadderPair.enc c5))),(22,.d (I v4697)),(23,.d (I v4698)),(33,.it 2700033 ib90),(44,.it 2700044 ib96),(61,.sl 2700061 hd1928),(62,.i .i64 2),(63,.i .i64 1),(87,.d (.bool y))]) (fun y=>[(440040,.cells bo1 (cD c1 c2 c3 c4 c5 440038 bo2 1695055 ho1)),(2700017,.map b2 (List.map eSC m638)),(2700005,.cells b2490 [.d (I x816.fFirst.fPlayer),.d (I x816.fFirst.fMatch),.d (I x816.fSecond.fPlayer),.d (I x816.fSecond.fMatch)]),(2700012,.cells b2704 [.d (I x886.a0),.d (I x886.a1)]),(2700033,.mit ib90 3905014 b2492 (List.map eII r1872) (List.map eII rem470) none),(2700044,.mit ib96 13905014 b2642 (List.map eII r1986) (List.map eII rem480) (some (I k288,I v5586))),(2700061,.arr hd1928 96 2 false (List.map eA2 l1077)),(440038,.map bo2 (List.map eMR m1)),(1695055,.arr ho1 96 2 false (List.map eA2 l1)),(3905014,.map b2492 (List.map eII r1872)),(13905014,.map b2642 (List.map eII r1986))]) (fun y=>bn N v4698 (aG (fun rr x=>aw N c1 c2 c3 c4 c5 m1 l1 v4698 (aG (fun rr x=>au N c1 c2 c3 c4 c5 m1 l1 v4697 v4698 (aG (fun rr x=>am N c1 c2 c3 c4 c5 m1 l1 rr x.1 x.2.1 x.2.2) n42) x816 rr x.1 x.2) n49) k282 v5481 rem470 rr x.1 x.2) n50) rem480 m638 x886 r2034 y Q) ?_ ?_
               ·(conv=>whnf);refine Br.mk (fun hc6476=>?_) (fun hc6476=>?_)
                ·replace h:=dF hc6476 h;(conv=>whnf);refine IxG.mk 0 rfl (by decide) ?_;(conv=>whnf);refine sr ?_;(conv=>whnf);refine IxG.mk 1 rfl (by decide) ?_;(conv=>whnf);refine sr ?_;(conv=>whnf);refine⟨decide (x886.a1<x886.a0),h,Sub.eq rfl ?_ ?_⟩
                 ·(repeat ((conv=>whnf);refine nr ?_));exact trivial
                 ·(iterate 11 ((conv=>whnf);refine no ?_));exact trivial
                ·replace h:=dG hc6476 h;(conv=>whnf);refine⟨false,h,Sub.eq rfl ?_ ?_⟩
                 ·(repeat ((conv=>whnf);refine nr ?_));exact trivial
                 ·(iterate 11 ((conv=>whnf);refine no ?_));exact trivial
               ·clear h;rintro v5622 h;unfold bn at h;(conv=>whnf);refine Br.mk (fun hc6475=>?_) (fun hc6475=>?_)
                ·replace h:=dF hc6475 h;(conv=>whnf);intro hd1940;obtain⟨r2036,hx3784,h⟩:=bw h;(conv=>whnf);refine sr ?_;(conv=>whnf);refine CallG.pure _ (je hN hx3784) ?_;(conv=>whnf);refine⟨r2036,h,Sub.eq rfl ?_ ?_⟩
                 ·(repeat ((conv=>whnf);refine nr ?_));exact trivial
                 ·(iterate 11 ((conv=>whnf);refine no ?_));exact trivial
                ·replace h:=dG hc6475 h;(conv=>whnf);refine⟨r2034,h,Sub.eq rfl ?_ ?_⟩
                 ·(repeat ((conv=>whnf);refine nr ?_));exact trivial
                 ·(iterate 11 ((conv=>whnf);refine no ?_));exact trivial
              ·clear h;rintro cost862 h;unfold bl at h;(conv=>whnf);refine IxG.mk 0 rfl (by decide) ?_;(conv=>whnf);refine sr ?_;(conv=>whnf);intro b2706;(iterate 2 ((conv=>whnf);refine sr ?_));obtain⟨⟨v5618,is862⟩,hx3783,h⟩:=bw h;(conv=>whnf);refine Side.mk rfl (Need.mk rfl (Need.mk (bd (m:=m638) (fun x:LadderSpot=>.agg [I x.fMatch,I x.fPlayer]) (fun x:LadderCheapest=>.agg [I x.fUpsets,I x.fOther]) fun _=>rfl) (LkG.mk (.agg [I v5618.fUpsets,I v5618.fOther]) is862 (ji (eK:=(fun x:LadderSpot=>.agg [I x.fMatch,I x.fPlayer])) (eV:=(fun x:LadderCheapest=>.agg [I x.fUpsets,I x.fOther])) LadderSpot.eqc hx3783) (jj (eK:=(fun x:LadderSpot=>.agg [I x.fMatch,I x.fPlayer])) (eV:=(fun x:LadderCheapest=>.agg [I x.fUpsets,I x.fOther])) LadderSpot.eqc hx3783) ?_)));(conv=>whnf);intro b2708;(conv=>whnf)
               refine sr ?_;(conv=>whnf)
               refine SeqG.mk Bool (fun y=>[(0,.ptr 440040 bo1 0),(3,.mp 2700017 b2),(4,.d (I v4698)),(5,.ptr 2700005 b2490 0),(6,.d (I k282)),(7,.d (I v5481)),(9,.d (I v5586)),(10,.d (I r2024)),(12,.ptr 2700012 b2704 0),(13,.d (I cost862)),(14,.ptr 2700014 b2706 0),(21,.d (.list 4 (List.map LadderPair.enc c5))),(22,.d (I v4697)),(23,.d (I v4698)),(33,.it 2700033 ib90),(44,.it 2700044 ib96),(61,.sl 2700061 hd1928),(62,.i .i64 2),(63,.i .i64 1),(108,.d (.bool y))]) (fun y=>[(440040,.cells bo1 (cD c1 c2 c3 c4 c5 440038 bo2 1695055 ho1)),(2700017,.map b2 (List.map eSC m638)),(2700005,.cells b2490 [.d (I x816.fFirst.fPlayer),.d (I x816.fFirst.fMatch),.d (I x816.fSecond.fPlayer),.d (I x816.fSecond.fMatch)]),(2700012,.cells b2704 [.d (I x886.a0),.d (I x886.a1)]),(2700014,.cells b2706 [.d (I v4698),.d (I x886.a0)]),(2700033,.mit ib90 3905014 b2492 (List.map eII r1872) (List.map eII rem470) none),(2700044,.mit ib96 13905014 b2642 (List.map eII r1986) (List.map eII rem480) (some (I k288,I v5586))),(2700061,.arr hd1928 96 2 false (List.map eA2 l1077)),(440038,.map bo2 (List.map eMR m1)),(1695055,.arr ho1 96 2 false (List.map eA2 l1)),(3905014,.map b2492 (List.map eII r1872)),(13905014,.map b2642 (List.map eII r1986))]) (fun y=>bj N v4698 (aG (fun rr x=>aw N c1 c2 c3 c4 c5 m1 l1 v4698 (aG (fun rr x=>au N c1 c2 c3 c4 c5 m1 l1 v4697 v4698 (aG (fun rr x=>am N c1 c2 c3 c4 c5 m1 l1 rr x.1 x.2.1 x.2.2) n42) x816 rr x.1 x.2) n49) k282 v5481 rem470 rr x.1 x.2) n50) rem480 m638 x886 cost862 y Q) ?_ ?_
               ·(conv=>whnf);refine Br.mk (fun hc6473=>?_) (fun hc6473=>?_)
                ·replace h:=dG hc6473 h;(conv=>whnf);refine sr ?_;(conv=>whnf);refine⟨decide (cost862<v5618.fUpsets),h,Sub.eq rfl ?_ ?_⟩
                 ·(repeat ((conv=>whnf);refine nr ?_));exact trivial
                 ·(iterate 12 ((conv=>whnf);refine no ?_));exact trivial
                ·replace h:=dF hc6473 h;(conv=>whnf);refine⟨true,h,Sub.eq rfl ?_ ?_⟩
                 ·(repeat ((conv=>whnf);refine nr ?_));exact trivial
                 ·(iterate 12 ((conv=>whnf);refine no ?_));exact trivial
               ·clear h;rintro v5620 h;unfold bj at h;(conv=>whnf);refine Br.mk (fun hc6472=>?_) (fun hc6472=>?_)
                ·replace h:=dF hc6472 h;(conv=>whnf);refine sr ?_;(conv=>whnf);refine IxG.mk 1 rfl (by decide) ?_;(conv=>whnf);refine sr ?_;(conv=>whnf);refine Side.mk rfl (Need.mk rfl (Need.mk (bd (m:=m638) (fun x:LadderSpot=>.agg [I x.fMatch,I x.fPlayer]) (fun x:LadderCheapest=>.agg [I x.fUpsets,I x.fOther]) fun _=>rfl) (MEqv.mk (List.map (fun p:LadderSpot×LadderCheapest=>(.agg [I p.1.fMatch,I p.1.fPlayer],.agg [I p.2.fUpsets,I p.2.fOther])) (mput m638 (LadderSpot.mk v4698 x886.a0) (LadderCheapest.mk cost862 x886.a1))) (fS (eK:=(fun x:LadderSpot=>.agg [I x.fMatch,I x.fPlayer])) (eV:=(fun x:LadderCheapest=>.agg [I x.fUpsets,I x.fOther])) LadderSpot.eqc m638 (LadderSpot.mk v4698 x886.a0) (LadderCheapest.mk cost862 x886.a1)) ?_)));(conv=>whnf)
                 refine⟨(mput m638 (LadderSpot.mk v4698 x886.a0) (LadderCheapest.mk cost862 x886.a1)),h,Sub.eq rfl ?_ ?_⟩
                 ·(repeat ((conv=>whnf);refine nr ?_));exact trivial
                 ·(iterate 10 ((conv=>whnf);refine no ?_));exact trivial
                ·replace h:=dG hc6472 h;(conv=>whnf);refine⟨m638,h,Sub.eq rfl ?_ ?_⟩
                 ·(repeat ((conv=>whnf);refine nr ?_));exact trivial
                 ·(iterate 10 ((conv=>whnf);refine no ?_));exact trivial
           ·clear h;rintro m640 h;unfold bi at h;(conv=>whnf);refine⟨(n50,(m640,rem480)),h,Sub.eq rfl ?_ ?_,Nat.lt_succ_self _⟩
            ·(repeat ((conv=>whnf);refine nr ?_));exact trivial
            ·(iterate 4 ((conv=>whnf);refine no ?_));(conv=>whnf);refine Need.mk (OLe.mit _ _ _ _ _ _) ?_;(iterate 4 ((conv=>whnf);refine no ?_));exact trivial
     ·rintro m588 h;unfold cY at h;(conv=>whnf);refine⟨(n42,(v4697,w64 (v4698+1),m588)),h,Sub.eq rfl ?_ ?_,Nat.lt_succ_self _⟩
      ·(repeat ((conv=>whnf);refine nr ?_));exact trivial
      ·(iterate 4 ((conv=>whnf);refine no ?_));exact trivial
    ·replace hl42:=dG hc5412 hl42;(conv=>whnf);refine⟨m535,hl42,Sub.eq rfl ?_ ?_⟩
     ·(repeat ((conv=>whnf);refine nr ?_));exact trivial
     ·(iterate 4 ((conv=>whnf);refine no ?_));exact trivial
  ·clear h;rintro m321 h;unfold cf at h;(conv=>whnf);have hv:Q _:=h;exact⟨_,⟨_,hv,b2,trivial,rfl,rfl⟩,aA (ren:=id) (ai (ai (ai (ai trivial))))⟩
theorem mN{N:Nat}(hN:N≤1073741824){c1:Int}{c2:Int}{c3:Int}{c4:List LadderResult}{c5:List LadderPair}{m1:List (Int×LadderResult)}{l1:List (Ar2 Int)}{bo1:Nat}{bo2:Nat}{ho1:Value}{r:Int}(h:gL N c1 c2 c3 c4 c5 m1 l1=some r) :
    ACalls Tryz.prog 140 [.ptr 440040 bo1 0] [(440040,.cells bo1 (cD c1 c2 c3 c4 c5 440038 bo2 1695055 ho1)),(440038,.map bo2 (List.map eMR m1)),(1695055,.arr ho1 96 2 false (List.map eA2 l1))] fun ae os=>∃y:Unit,True∧ae=.ret (.d (I r))∧os=[(440040,.cells bo1 (cD c1 c2 c3 c4 c5 440038 bo2 1695055 ho1)),(440038,.map bo2 (List.map eMR m1)),(1695055,.arr ho1 96 2 false (List.map eA2 l1))]:=by
  refine aJ (fresh:=false) al ap ⟨[],[],[],[],[],1700000,[]⟩ Tryz.func140 rfl Tryz.call140 rfl ?_
  unfold gL at h
  (conv=>whnf);refine sr ?_;(conv=>whnf);refine LnA.mk _ (List.length_map _) ?_;(conv=>whnf);cases h;exact⟨(),trivial,rfl,aA (ren:=id) (ai (ai (ai trivial)))⟩
theorem mO{N:Nat}(hN:N≤1073741824){c1:Int}{c2:Int}{c3:Int}{c4:List LadderResult}{c5:List LadderPair}{m1:List (Int×LadderResult)}{l1:List (Ar2 Int)}{bo1:Nat}{bo2:Nat}{ho1:Value}{Q:(List Int)→Prop}(h:cC N c1 c2 c3 c4 c5 m1 l1 Q) :
    ACalls Tryz.prog 88 [.ptr 440040 bo1 0] [(440040,.cells bo1 (cD c1 c2 c3 c4 c5 440038 bo2 1695055 ho1)),(440038,.map bo2 (List.map eMR m1)),(1695055,.arr ho1 96 2 false (List.map eA2 l1))] (fun ae os=>∃r:(List Int),Q r∧(fun ae os=>∃y:Unit,True∧ae=.ret (.d (.list 1 (List.map I r)))∧os=[(440040,.cells bo1 (cD c1 c2 c3 c4 c5 440038 bo2 1695055 ho1)),(440038,.map bo2 (List.map eMR m1)),(1695055,.arr ho1 96 2 false (List.map eA2 l1))]) ae os):=by
  refine bt (fresh:=false) al ap ⟨[],[],[],[],[1002,1004],1700000,[]⟩ Tryz.func88 rfl Tryz.call88 rfl ?_
  unfold cC at h
  (conv=>whnf);refine CallG.ownW (mM (bo1:=bo1) (bo2:=bo2) (ho1:=ho1) hN h) id [] (fun x y=>.mp 2700017 y) (fun x y=>[(440040,.cells bo1 (cD c1 c2 c3 c4 c5 440038 bo2 1695055 ho1)),(440038,.map bo2 (List.map eMR m1)),(1695055,.arr ho1 96 2 false (List.map eA2 l1)),(2700017,.map y (List.map eSC x))]) (ac _) (ai (ai (ai trivial))) rfl (ai (ai (ai trivial))) trivial (fun _ _=>AV.le_refl _) (fun _ _=>rfl) ?_;clear h;rintro r2 b2 h;(conv=>whnf)
  refine SeqG.mk ((List Int)×Value) (fun y=>[(2,.sl 1700030 y.2)]) (fun y=>[(1700030,.arr y.2 3 1 false (List.map I y.1)),(440040,.cells bo1 (cD c1 c2 c3 c4 c5 440038 bo2 1695055 ho1)),(440038,.map bo2 (List.map eMR m1)),(1695055,.arr ho1 96 2 false (List.map eA2 l1))]) (fun y=>cg N y.1 Q) ?_ ?_
  ·(conv=>whnf);refine sr ?_;(conv=>whnf)
   refine LoopG.mk (Nat×(Int×(List Int))×Value) (fun y=>[(0,.ptr 440040 bo1 0),(2,.sl 1700030 y.2.2),(3,.mp 2700017 b2),(13,.d (I c2)),(14,.d (I y.2.1.1))]) (fun y=>[(440040,.cells bo1 (cD c1 c2 c3 c4 c5 440038 bo2 1695055 ho1)),(1700030,.arr y.2.2 3 1 false (List.map I y.2.1.2)),(2700017,.map b2 (List.map eSC r2)),(440038,.map bo2 (List.map eMR m1)),(1695055,.arr ho1 96 2 false (List.map eA2 l1))]) (fun y=>aG (fun rr x=>aO N c1 c2 c3 c4 c5 m1 l1 r2 rr x.1 x.2) y.1 y.2.1 Q) (fun y=>y.1) (N,(0,[]),(.slice none 0 0)) h (Sub.eq rfl ?_ ?_) ?_
   ·(repeat ((conv=>whnf);refine nr ?_));exact trivial
   ·(conv=>whnf);refine no ?_;(conv=>whnf);refine Need.mk (OLe.nil _ _ _ _) ?_;(iterate 3 ((conv=>whnf);refine no ?_));exact trivial
   ·rintro⟨n2,⟨v28,l30⟩,hd39⟩ hl2;obtain⟨n2,rfl,hl2⟩:=gO hl2;replace hl2:aO N c1 c2 c3 c4 c5 m1 l1 r2 (aG (fun rr x=>aO N c1 c2 c3 c4 c5 m1 l1 r2 rr x.1 x.2) n2) v28 l30 Q:=hl2;rw[aO]at hl2;(conv=>whnf);refine Br.mk (fun hc22=>?_) (fun hc22=>?_)
    ·replace hl2:=dF hc22 hl2;(conv=>whnf);refine SeqG.mk ((List Int)×Value) (fun y=>[(0,.ptr 440040 bo1 0),(2,.sl 1700030 y.2),(3,.mp 2700017 b2),(13,.d (I c2)),(14,.d (I v28))]) (fun y=>[(440040,.cells bo1 (cD c1 c2 c3 c4 c5 440038 bo2 1695055 ho1)),(1700030,.arr y.2 3 1 false (List.map I y.1)),(2700017,.map b2 (List.map eSC r2)),(440038,.map bo2 (List.map eMR m1)),(1695055,.arr ho1 96 2 false (List.map eA2 l1))]) (fun y=>bG N v28 (aG (fun rr x=>aO N c1 c2 c3 c4 c5 m1 l1 r2 rr x.1 x.2) n2) y.1 Q) ?_ ?_
     ·obtain⟨r26,hx58,hl2⟩:=bw hl2;(conv=>whnf)
      refine CallG.own (mN (bo1:=bo1) (bo2:=bo2) (ho1:=ho1) hN hx58) id [(1700030,.arr hd39 3 1 false (List.map I l30)),(2700017,.map b2 (List.map eSC r2))] _ (fun y=>[(440040,.cells bo1 (cD c1 c2 c3 c4 c5 440038 bo2 1695055 ho1)),(440038,.map bo2 (List.map eMR m1)),(1695055,.arr ho1 96 2 false (List.map eA2 l1)),(1700030,.arr hd39 3 1 false (List.map I l30)),(2700017,.map b2 (List.map eSC r2))]) (ac _) (ai (ai (ai trivial))) rfl (ai (ai (ai trivial))) (ai (ai trivial)) (fun _=>AV.le_refl _) (fun _=>rfl) ?_
      rintro _ _;obtain⟨⟨v32,is24⟩,hx59,hl2⟩:=bw hl2;(conv=>whnf);refine Side.mk rfl (Need.mk rfl (Need.mk (bd (m:=r2) (fun x:LadderSpot=>.agg [I x.fMatch,I x.fPlayer]) (fun x:LadderCheapest=>.agg [I x.fUpsets,I x.fOther]) fun _=>rfl) (LkG.mk (.agg [I v32.fUpsets,I v32.fOther]) is24 (ji (eK:=(fun x:LadderSpot=>.agg [I x.fMatch,I x.fPlayer])) (eV:=(fun x:LadderCheapest=>.agg [I x.fUpsets,I x.fOther])) LadderSpot.eqc hx59) (jj (eK:=(fun x:LadderSpot=>.agg [I x.fMatch,I x.fPlayer])) (eV:=(fun x:LadderCheapest=>.agg [I x.fUpsets,I x.fOther])) LadderSpot.eqc hx59) ?_)));(conv=>whnf);intro b26;(conv=>whnf);refine sr ?_;(conv=>whnf);refine Br.mk (fun hc24=>?_) (fun hc24=>?_)
      ·replace hl2:=dF hc24 hl2;(conv=>whnf);intro hd44;obtain⟨l34,hx60,hl2⟩:=bw hl2;(conv=>whnf);refine Side.mk ⟨rfl,rfl⟩ ?_;(conv=>whnf);refine Side.mk ⟨rfl,rfl,rfl⟩ (Need.mk (aD hN hx60 (by decide)) (Eqv.mk (List.map I l34) (aH _ hx60) ?_));(conv=>whnf);intro hd45;(conv=>whnf);refine⟨(l34,hd45),hl2,Sub.eq rfl ?_ ?_⟩
       ·(repeat ((conv=>whnf);refine nr ?_));exact trivial
       ·(iterate 5 ((conv=>whnf);refine no ?_));exact trivial
      ·replace hl2:=dG hc24 hl2;(conv=>whnf);refine⟨(l30,hd39),hl2,Sub.eq rfl ?_ ?_⟩
       ·(repeat ((conv=>whnf);refine nr ?_));exact trivial
       ·(iterate 5 ((conv=>whnf);refine no ?_));exact trivial
     ·rintro⟨l33,hd43⟩ h;unfold bG at h;(conv=>whnf);refine⟨(n2,(w64 (v28+1),l33),hd43),h,Sub.eq rfl ?_ ?_,Nat.lt_succ_self _⟩
      ·(repeat ((conv=>whnf);refine nr ?_));exact trivial
      ·(iterate 5 ((conv=>whnf);refine no ?_));exact trivial
    ·replace hl2:=dG hc22 hl2;(conv=>whnf);refine⟨(l30,hd39),hl2,Sub.eq rfl ?_ ?_⟩
     ·(repeat ((conv=>whnf);refine nr ?_));exact trivial
     ·(iterate 4 ((conv=>whnf);refine no ?_));exact trivial
  ·clear h;rintro⟨l18,hd23⟩ h;unfold cg at h;(conv=>whnf);refine sr ?_;(conv=>whnf);have hv:Q _:=h;exact⟨_,⟨_,hv,(),trivial,rfl,rfl⟩,aA (ren:=id) (ai (ai (ai trivial)))⟩
theorem oh{N:Nat}(hN:N≤1073741824){c1:Int}{c2:Int}{c3:Int}{c4:List LadderResult}{c5:List LadderPair}{m1:List (Int×LadderResult)}{l1:List (Ar2 Int)}{bo1:Nat}{bo2:Nat}{ho1:Value}{r:(List Int)}(h:fq N c1 c2 c3 c4 c5 m1 l1=some r) :
    ACalls Tryz.prog 88 [.ptr 440040 bo1 0] [(440040,.cells bo1 (cD c1 c2 c3 c4 c5 440038 bo2 1695055 ho1)),(440038,.map bo2 (List.map eMR m1)),(1695055,.arr ho1 96 2 false (List.map eA2 l1))] (fun ae os=>∃y:Unit,True∧ae=.ret (.d (.list 1 (List.map I r)))∧os=[(440040,.cells bo1 (cD c1 c2 c3 c4 c5 440038 bo2 1695055 ho1)),(440038,.map bo2 (List.map eMR m1)),(1695055,.arr ho1 96 2 false (List.map eA2 l1))]):=(mO hN (q9 h)).mono (by rintro ae os ⟨x,rfl,hp⟩;exact hp)
theorem oN{N:Nat}(hN:N≤1073741824){c1:LadderCup}{r:(List Int)×Int}(h:eM N c1=some r) :
    ACalls Tryz.prog 49 [.d (.agg [.int .u8 c1.fForm,I c1.fPlayers,I c1.fGames,.list 3 (List.map LadderResult.enc c1.fResults)])] [] fun e os=>e=.ret (.d (.tup [.list 1 (List.map I r.1),I r.2]))∧os=[]:=by
  refine ah (fresh:=false) al ap ⟨[1],[],[],[],[],0,[]⟩ Tryz.func49 rfl Tryz.call49 rfl ?_
  unfold eM at h
  obtain⟨⟨ra2,rb2,rc2,rd2,re2,rf2,rg2,rh2⟩,hx2,h⟩:=ab h;(conv=>whnf);refine CallG.own (oe hN hx2) id [] _ (fun y=>[(440040,.cells y.1 (cD rb2 rc2 rd2 re2 rf2 440038 y.2.1 1695055 y.2.2)),(440038,.map y.2.1 (List.map eMR rg2)),(1695055,.arr y.2.2 96 2 false (List.map eA2 rh2))]) (ac _) trivial rfl trivial trivial (fun _=>AV.le_refl _) (fun _=>rfl) ?_;rintro⟨b3,b4,hd2⟩ _;(conv=>whnf);refine Br.mk (fun hc2=>?_) (fun hc2=>?_)
  ·replace h:=af hc2 h;cases h
  ·replace h:=ag hc2 h;obtain⟨r2,hx4,h⟩:=ab h;(conv=>whnf);refine CallG.own (oh (bo1:=b3) (bo2:=b4) (ho1:=hd2) hN hx4) id [] _ (fun y=>[(440040,.cells b3 (cD rb2 rc2 rd2 re2 rf2 440038 b4 1695055 hd2)),(440038,.map b4 (List.map eMR rg2)),(1695055,.arr hd2 96 2 false (List.map eA2 rh2))]) (ac _) (ai (ai (ai trivial))) rfl (ai (ai (ai trivial))) trivial (fun _=>AV.le_refl _) (fun _=>rfl) ?_;rintro _ _;(conv=>whnf);cases h;exact rfl
theorem oO{N:Nat}(hN:N≤1073741824){words1:List UInt8}{words2:List Int}{r:(List UInt8)}(h:iX N words1 words2=some r) :
    ACalls Tryz.prog 74 [.d (.list 1 [.ifc 9 (.str words1),.ifc 25 (.list 1 (List.map I words2))])] [] fun e os=>e=.ret (.d (.str r))∧os=[]:=by
  refine ah (fresh:=false) al ap ⟨[],[],[],[],[1004],0,[]⟩ Tryz.func74 rfl Tryz.call74 rfl ?_
  unfold iX at h
  (conv=>whnf);refine LnA.lit 2 rfl ?_;(conv=>whnf);refine LoopG.unr 3 ?_;obtain⟨l26,hx54,h⟩:=ab h;(conv=>whnf);refine SeqG.mk Value (fun y=>[(3,.sl 32 y),(11,.d (.list 1 [.ifc 9 (.str words1),.ifc 25 (.list 1 (List.map I words2))])),(12,.i .i64 2),(13,.i .i64 0)]) (fun y=>[(32,.arr y 9 1 false (List.map D.str l26))]) (fun _=>True) ?_ ?_
  ·(conv=>whnf);refine Side.mk rfl ⟨_,by decide,rfl,?_⟩;(conv=>whnf);intro hd42;obtain⟨l27,hx55,hx54⟩:=ab hx54;(conv=>whnf);refine Side.mk ⟨rfl,rfl⟩ ?_;(conv=>whnf);refine Need.mk (j2 (f:=D.str) hN hx55 (by decide)) (Eqv.mk (List.map D.str l27) (kZ D.str hx55) ?_);(conv=>whnf);intro hd43;cases hx54;(conv=>whnf);refine⟨hd43,trivial,Sub.eq rfl ?_ ?_⟩
   ·(repeat ((conv=>whnf);refine nr ?_));exact trivial
   ·(conv=>whnf);refine no ?_;exact trivial
  ·rintro hd41 _;obtain⟨l38,hx80,h⟩:=ab h;(conv=>whnf);refine SeqG.mk Value (fun y=>[(3,.sl 32 y),(11,.d (.list 1 [.ifc 9 (.str words1),.ifc 25 (.list 1 (List.map I words2))])),(12,.i .i64 2),(13,.i .i64 1)]) (fun y=>[(32,.arr y 9 1 false (List.map D.str l38))]) (fun _=>True) ?_ ?_
   ·(conv=>whnf);refine Side.mk rfl ⟨_,by decide,rfl,?_⟩;(conv=>whnf);refine LnA.mk _ (List.length_map _) ?_;(conv=>whnf);refine LoopG.mk (Nat×(Int×Int×(List (List UInt8)))×Value) (fun y=>[(3,.sl 32 y.2.2),(11,.d (.list 1 [.ifc 9 (.str words1),.ifc 25 (.list 1 (List.map I words2))])),(12,.i .i64 2),(13,.i .i64 1),(36,.d (.list 1 (List.map I words2))),(37,.d (I y.2.1.1)),(38,.d (I y.2.1.2.1))]) (fun y=>[(32,.arr y.2.2 9 1 false (List.map D.str y.2.1.2.2))]) (fun y=>aj (fun rr x=>cP N words2 rr x.1 x.2.1 x.2.2) y.1 y.2.1=some l38) (fun y=>y.1) (N,((words2.length:Int),0,l26),hd41) hx80 (Sub.eq rfl ?_ ?_) ?_
    ·(repeat ((conv=>whnf);refine nr ?_));exact trivial
    ·(conv=>whnf);refine no ?_;exact trivial
    ·rintro⟨n4,⟨v35,v36,l46⟩,hd72⟩ hl4;obtain⟨n4,rfl,hl4⟩:=ar hl4;replace hl4:cP N words2 (aj (fun rr x=>cP N words2 rr x.1 x.2.1 x.2.2) n4) v35 v36 l46=some l38:=hl4;rw[cP]at hl4;(conv=>whnf);refine Br.mk (fun hc24=>?_) (fun hc24=>?_)
     ·replace hl4:=af hc24 hl4;obtain⟨x48,hx102,hl4⟩:=ab hl4;(conv=>whnf);refine Side.mk rfl ⟨_,aC hx102,ak _ hx102,?_⟩;obtain⟨r24,hx103,hl4⟩:=ab hl4;(conv=>whnf);refine CallG.pure _ (my hN hx103) ?_;(conv=>whnf);intro hd75;obtain⟨l48,hx104,hl4⟩:=ab hl4;(conv=>whnf);refine Side.mk ⟨rfl,rfl⟩ ?_;(conv=>whnf);refine Side.mk ⟨rfl,rfl,rfl⟩ (Need.mk (aD hN hx104 (by decide)) (Eqv.mk (List.map D.str l48) (aH _ hx104) ?_));(conv=>whnf);intro hd76;(conv=>whnf);refine⟨(n4,(v35,w64 (v36+1),l48),hd76),hl4,Sub.eq rfl ?_ ?_,Nat.lt_succ_self _⟩
      ·(repeat ((conv=>whnf);refine nr ?_));exact trivial
      ·(conv=>whnf);refine no ?_;exact trivial
     ·replace hl4:=ag hc24 hl4;cases hl4;(conv=>whnf);refine⟨hd72,trivial,Sub.eq rfl ?_ ?_⟩
      ·(repeat ((conv=>whnf);refine nr ?_));exact trivial
      ·(conv=>whnf);refine no ?_;exact trivial
   ·rintro hd60 _;obtain⟨r26,hx106,h⟩:=ab h;(conv=>whnf);refine sr ?_;(conv=>whnf);refine CallG.pure _ (sw hN hx106) ?_;(conv=>whnf);cases h;exact rfl
theorem ru{N:Nat}(hN:N≤1073741824){lines1:List (List UInt8)}{r:(List UInt8)×Int}(h:gM N lines1=some r) :
    ACalls Tryz.prog 38 [.d (.list 1 (List.map D.str lines1))] [] fun e os=>e=.ret (.d (.tup [.str r.1,I r.2]))∧os=[]:=by
  refine ah (fresh:=false) al ap ⟨[],[],[7],[],[11,1007,1009,1015,1017,1019,1027],0,[]⟩ Tryz.func38 rfl Tryz.call38 rfl ?_
  unfold gM at h
  obtain⟨r4,hx4,h⟩:=ab h;(conv=>whnf);refine CallG.pure _ (gP hN hx4) ?_;(conv=>whnf);refine Br.mk (fun hc2=>?_) (fun hc2=>?_)
  ·replace h:=af hc2 h;cases h
  ·replace h:=ag hc2 h;obtain⟨⟨ra2,rb2⟩,hx6,h⟩:=ab h;(conv=>whnf);refine CallG.own (i7 hN hx6) id [] _ (fun y=>[kW y rb2]) (ac _) trivial rfl trivial trivial (fun _=>AV.le_refl _) (fun _=>rfl) ?_;rintro b2 _;(conv=>whnf);intro b4;obtain⟨bs11,hx64,h⟩:=ab h;(conv=>whnf)
   refine SeqG.mk Value (fun y=>[(5,.ptr 540003 b2 0),(7,.ptr 7 b4 0),(8,.fn (.func 72) [] [.ptr 7 b4 0])]) (fun y=>[kW b2 rb2,(7,.bld b4 148 5 y bs11)]) (fun _=>True) ?_ ?_
   ·(conv=>whnf);refine sr ?_;(conv=>whnf);refine LnA.mk _ (List.length_map _) ?_;(conv=>whnf)
    refine LoopG.mk (Nat×(Int×Int×(List UInt8))×Value) (fun y=>[(5,.ptr 540003 b2 0),(7,.ptr 7 b4 0),(8,.fn (.func 72) [] [.ptr 7 b4 0]),(37,.d (.list 2 (List.map DeskLane.enc rb2.fState.fLanes))),(38,.d (I y.2.1.1)),(39,.d (I y.2.1.2.1))]) (fun y=>[kW b2 rb2,(7,.bld b4 148 5 y.2.2 y.2.1.2.2)]) (fun y=>aj (fun rr x=>dK N rb2 rr x.1 x.2.1 x.2.2) y.1 y.2.1=some bs11) (fun y=>y.1) (N,((rb2.fState.fLanes.length:Int),0,([]:List UInt8)),(.slice none 0 0)) hx64 (Sub.eq rfl ?_ ?_) ?_
    ·(repeat ((conv=>whnf);refine nr ?_));exact trivial
    ·(iterate 2 ((conv=>whnf);refine no ?_));exact trivial
    ·rintro⟨n2,⟨v17,v18,bs19⟩,hd39⟩ hl2;obtain⟨n2,rfl,hl2⟩:=ar hl2;replace hl2:dK N rb2 (aj (fun rr x=>dK N rb2 rr x.1 x.2.1 x.2.2) n2) v17 v18 bs19=some bs11:=hl2;rw[dK]at hl2;(conv=>whnf);refine Br.mk (fun hc24=>?_) (fun hc24=>?_)
     ·replace hl2:=af hc24 hl2;obtain⟨bs21,hx112,hl2⟩:=ab hl2;(conv=>whnf);refine SeqG.mk Value (fun y=>[(5,.ptr 540003 b2 0),(7,.ptr 7 b4 0),(8,.fn (.func 72) [] [.ptr 7 b4 0]),(37,.d (.list 2 (List.map DeskLane.enc rb2.fState.fLanes))),(38,.d (I v17)),(39,.d (I v18))]) (fun y=>[kW b2 rb2,(7,.bld b4 148 5 y bs21)]) (fun _=>True) ?_ ?_
      ·obtain⟨x24,hx114,hx112⟩:=ab hx112;(conv=>whnf);refine Side.mk rfl ⟨_,aC hx114,ak _ hx114,?_⟩;(conv=>whnf);intro b116;(iterate 2 ((conv=>whnf);refine sr ?_));(conv=>whnf);refine Br.mk (fun hc26=>?_) (fun hc26=>?_)
       ·replace hx112:=af hc26 hx112;obtain⟨g24,hx117,hx112⟩:=ab hx112;(conv=>whnf)
        refine SeqG.mk Nat (fun y=>[(5,.ptr 540003 b2 0),(7,.ptr 7 b4 0),(8,.fn (.func 72) [] [.ptr 7 b4 0]),(9,.d (I v18)),(10,.ptr 10 b116 0),(11,.ptr 11 y 0),(37,.d (.list 2 (List.map DeskLane.enc rb2.fState.fLanes))),(38,.d (I v17)),(39,.d (I v18))]) (fun y=>[kW b2 rb2,(7,.bld b4 148 5 hd39 bs19),(10,.cells b116 [.d (I x24.fBowler),.d (.list 1 (List.map I x24.fBalls))]),(11,.cells y [.d (.list 1 (List.map eL g24.fFrames)),.d (.list 1 (List.map I g24.fCounts)),.d (I g24.fStanding),.d (.bool g24.fDone)])]) (fun _=>True) ?_ ?_
        ·obtain⟨r50,hx118,hx117⟩:=ab hx117;obtain⟨⟨ra26,rb26⟩,hx119,hx117⟩:=ab hx117;(conv=>whnf);refine DrawG.mk (.take 1 (.take 2 (.alt 0 [2,1] (.alt 3 [1] (.take 4 (.take 5 (.take 6 (.alt 7 [6,5,4,1] (.alt 8 [6] (.take 9 .done) .nil) .nil)))) (.alt 7 [2,1] (.alt 3 [1] (.take 4 (.take 5 (.take 6 (.alt 8 [6] (.take 9 .done) .nil)))) .nil) .nil)) (.alt 7 [2,1] (.alt 0 [2,1] (.alt 3 [1] (.take 4 (.take 5 (.take 6 (.alt 8 [6] (.take 9 .done) .nil)))) .nil) .nil) .nil)))) (by kernel_rfl) ?_;(conv=>whnf);refine sr ?_;(conv=>whnf);refine Both.mk ?_ ?_
         ·(conv=>whnf);refine CallG.pure _ (fP hN hx118) ?_;(conv=>whnf);refine sr ?_;(iterate 2 ((conv=>whnf);refine nl ?_));(conv=>whnf);refine Both.mk ?_ ?_
          ·(conv=>whnf);refine CallG.pure _ (cm hN hx119) ?_;(conv=>whnf);refine nl ?_;(conv=>whnf);refine Both.mk ?_ trivial;(conv=>whnf);intro b122;(iterate 4 ((conv=>whnf);refine nl ?_));(conv=>whnf);refine Both.mk ?_ trivial;(conv=>whnf);refine sr ?_;(conv=>whnf);refine nl ?_;cases hx117;(conv=>whnf);refine⟨b122,trivial,Sub.eq rfl ?_ ?_⟩
           ·(repeat ((conv=>whnf);refine nr ?_));exact trivial
           ·(iterate 4 ((conv=>whnf);refine no ?_));exact trivial
          ·(conv=>whnf);refine Both.mk ?_ trivial;(conv=>whnf);intro b123;(conv=>whnf);refine sr ?_;(iterate 2 ((conv=>whnf);refine nl ?_));(conv=>whnf);refine Both.mk ?_ trivial;(conv=>whnf);refine CallG.pure _ (cm hN hx119) ?_;(conv=>whnf);refine nl ?_;(conv=>whnf);refine Both.mk ?_ trivial;(conv=>whnf);refine sr ?_;(conv=>whnf);refine nl ?_;cases hx117;(conv=>whnf);refine⟨b123,trivial,Sub.eq rfl ?_ ?_⟩
           ·(repeat ((conv=>whnf);refine nr ?_));exact trivial
           ·(iterate 4 ((conv=>whnf);refine no ?_));exact trivial
         ·(conv=>whnf);refine Both.mk ?_ trivial;(conv=>whnf);intro b124;(conv=>whnf);refine sr ?_;(iterate 2 ((conv=>whnf);refine nl ?_));(conv=>whnf);refine Both.mk ?_ trivial;(conv=>whnf);refine CallG.pure _ (fP hN hx118) ?_;(conv=>whnf);refine sr ?_;(iterate 2 ((conv=>whnf);refine nl ?_));(conv=>whnf);refine Both.mk ?_ trivial;(conv=>whnf);refine CallG.pure _ (cm hN hx119) ?_;(conv=>whnf);refine nl ?_;(conv=>whnf);refine Both.mk ?_ trivial;(conv=>whnf);refine sr ?_;(conv=>whnf);refine nl ?_;cases hx117;(conv=>whnf);refine⟨b124,trivial,Sub.eq rfl ?_ ?_⟩
          ·(repeat ((conv=>whnf);refine nr ?_));exact trivial
          ·(iterate 4 ((conv=>whnf);refine no ?_));exact trivial
        ·rintro bb24 _;(iterate 2 ((conv=>whnf);refine sr ?_));(conv=>whnf);intro hd44;obtain⟨r51,hx120,hx112⟩:=ab hx112;(conv=>whnf);refine sr ?_;(conv=>whnf);refine CallG.pure _ (rp hN hx120) ?_;obtain⟨r52,hx121,hx112⟩:=ab hx112;(conv=>whnf)
         refine CallG.own (jc (bo1:=b4) (ho1:=hd39) hN hx121) id [kW b2 rb2,(10,.cells b116 [.d (I x24.fBowler),.d (.list 1 (List.map I x24.fBalls))]),(11,.cells bb24 [.d (.list 1 (List.map eL g24.fFrames)),.d (.list 1 (List.map I g24.fCounts)),.d (I g24.fStanding),.d (.bool g24.fDone)]),(66,.arr hd44 20 1 true [.ifc 9 (.str ([108,97,110,101]:List UInt8)),.ifc 3 (I v18),.ifc 9 (.str ([98,111,119,108,101,114]:List UInt8)),.ifc 3 (I x24.fBowler),.ifc 9 (.str ([99,111,117,110,116,115]:List UInt8)),.ifc 25 (.list 1 (List.map I g24.fCounts))])] _ (fun y=>[(7,.bld b4 148 5 y r52),kW b2 rb2,(10,.cells b116 [.d (I x24.fBowler),.d (.list 1 (List.map I x24.fBalls))]),(11,.cells bb24 [.d (.list 1 (List.map eL g24.fFrames)),.d (.list 1 (List.map I g24.fCounts)),.d (I g24.fStanding),.d (.bool g24.fDone)]),(66,.arr hd44 20 1 true [.ifc 9 (.str ([108,97,110,101]:List UInt8)),.ifc 3 (I v18),.ifc 9 (.str ([98,111,119,108,101,114]:List UInt8)),.ifc 3 (I x24.fBowler),.ifc 9 (.str ([99,111,117,110,116,115]:List UInt8)),.ifc 25 (.list 1 (List.map I g24.fCounts))])]) (ac _) (ai trivial) rfl (ai trivial) (ai (ai (ai (ai trivial)))) (fun _=>AV.le_refl _) (fun _=>rfl) ?_
         rintro hd45 _;cases hx112;(conv=>whnf);refine⟨hd45,trivial,Sub.eq rfl ?_ ?_⟩
         ·(repeat ((conv=>whnf);refine nr ?_));exact trivial
         ·(iterate 2 ((conv=>whnf);refine no ?_));exact trivial
       ·replace hx112:=ag hc26 hx112;cases hx112;(conv=>whnf);refine⟨hd39,trivial,Sub.eq rfl ?_ ?_⟩
        ·(repeat ((conv=>whnf);refine nr ?_));exact trivial
        ·(iterate 2 ((conv=>whnf);refine no ?_));exact trivial
      ·rintro hd43 _;(conv=>whnf);refine⟨(n2,(v17,w64 (v18+1),bs21),hd43),hl2,Sub.eq rfl ?_ ?_,Nat.lt_succ_self _⟩
       ·(repeat ((conv=>whnf);refine nr ?_));exact trivial
       ·(iterate 2 ((conv=>whnf);refine no ?_));exact trivial
     ·replace hl2:=ag hc24 hl2;cases hl2;(conv=>whnf);refine⟨hd39,trivial,Sub.eq rfl ?_ ?_⟩
      ·(repeat ((conv=>whnf);refine nr ?_));exact trivial
      ·(iterate 2 ((conv=>whnf);refine no ?_));exact trivial
   ·rintro hd23 _;obtain⟨r54,hx124,h⟩:=ab h;(conv=>whnf);refine CallG.own (ik (bo1:=b2) hN hx124) id [(7,.bld b4 148 5 hd23 bs11)] _ (fun y=>[kW b2 rb2,(7,.bld b4 148 5 hd23 bs11)]) (ac _) (ai trivial) rfl (ai trivial) (ai trivial) (fun _=>AV.le_refl _) (fun _=>rfl) ?_;rintro _ _;obtain⟨⟨ra28,rb28⟩,hx125,h⟩:=ab h;(conv=>whnf);refine CallG.pure _ (oM hN hx125) ?_;obtain⟨bs29,hx303,h⟩:=ab h;(conv=>whnf)
    refine SeqG.mk Value (fun y=>[(5,.ptr 540003 b2 0),(7,.ptr 7 b4 0),(8,.fn (.func 72) [] [.ptr 7 b4 0])]) (fun y=>[kW b2 rb2,(7,.bld b4 148 5 y bs29)]) (fun _=>True) ?_ ?_
    ·(conv=>whnf);refine sr ?_;(conv=>whnf);refine LnA.mk _ (List.length_map _) ?_;(conv=>whnf)
     refine LoopG.mk (Nat×(Int×Int×(List UInt8))×Value) (fun y=>[(5,.ptr 540003 b2 0),(7,.ptr 7 b4 0),(8,.fn (.func 72) [] [.ptr 7 b4 0]),(13,.d (.list 1 (List.map I ra28))),(80,.d (.list 1 (List.map eL rb2.fState.fKept))),(81,.d (I y.2.1.1)),(82,.d (I y.2.1.2.1))]) (fun y=>[kW b2 rb2,(7,.bld b4 148 5 y.2.2 y.2.1.2.2)]) (fun y=>aj (fun rr x=>dM N rb2 ra28 rr x.1 x.2.1 x.2.2) y.1 y.2.1=some bs29) (fun y=>y.1) (N,((rb2.fState.fKept.length:Int),0,bs11),hd23) hx303 (Sub.eq rfl ?_ ?_) ?_
     ·(repeat ((conv=>whnf);refine nr ?_));exact trivial
     ·(iterate 2 ((conv=>whnf);refine no ?_));exact trivial
     ·rintro⟨n24,⟨v135,v136,bs35⟩,hd79⟩ hl24;obtain⟨n24,rfl,hl24⟩:=ar hl24;replace hl24:dM N rb2 ra28 (aj (fun rr x=>dM N rb2 ra28 rr x.1 x.2.1 x.2.2) n24) v135 v136 bs35=some bs29:=hl24;rw[dM]at hl24;(conv=>whnf);refine Br.mk (fun hc158=>?_) (fun hc158=>?_)
      ·replace hl24:=af hc158 hl24;obtain⟨bs36,hx451,hl24⟩:=ab hl24;(conv=>whnf);refine SeqG.mk Value (fun y=>[(5,.ptr 540003 b2 0),(7,.ptr 7 b4 0),(8,.fn (.func 72) [] [.ptr 7 b4 0]),(13,.d (.list 1 (List.map I ra28))),(80,.d (.list 1 (List.map eL rb2.fState.fKept))),(81,.d (I v135)),(82,.d (I v136))]) (fun y=>[kW b2 rb2,(7,.bld b4 148 5 y bs36)]) (fun _=>True) ?_ ?_
       ·obtain⟨x312,hx453,hx451⟩:=ab hx451;(conv=>whnf);refine Side.mk rfl ⟨_,aC hx453,ak _ hx453,?_⟩;obtain⟨_,hx466,hx451⟩:=ab hx451;(conv=>whnf)
        refine SeqG.mk Unit (fun y=>[(5,.ptr 540003 b2 0),(7,.ptr 7 b4 0),(8,.fn (.func 72) [] [.ptr 7 b4 0]),(13,.d (.list 1 (List.map I ra28))),(15,.d (I v136)),(16,.d (.list 1 (List.map I x312))),(17,.i .i64 0),(80,.d (.list 1 (List.map eL rb2.fState.fKept))),(81,.d (I v135)),(82,.d (I v136))]) (fun y=>[kW b2 rb2,(7,.bld b4 148 5 hd79 bs35)]) (fun _=>True) ?_ ?_
        ·(conv=>whnf);refine LnA.mk _ (List.length_map _) ?_;(conv=>whnf)
         refine LoopG.mk (Nat×Int) (fun y=>[(5,.ptr 540003 b2 0),(7,.ptr 7 b4 0),(8,.fn (.func 72) [] [.ptr 7 b4 0]),(13,.d (.list 1 (List.map I ra28))),(15,.d (I v136)),(16,.d (.list 1 (List.map I x312))),(17,.i .i64 0),(80,.d (.list 1 (List.map eL rb2.fState.fKept))),(81,.d (I v135)),(82,.d (I v136)),(87,.d (.list 1 (List.map I ra28))),(88,.d (I y.2)),(89,.i .i64 0)]) (fun y=>[kW b2 rb2,(7,.bld b4 148 5 hd79 bs35)]) (fun y=>aj (fun rr x=>dL N ra28 rr x) y.1 y.2=some ()) (fun y=>y.1) (N,(ra28.length:Int)) hx466 (Sub.eq rfl ?_ ?_) ?_
         ·(repeat ((conv=>whnf);refine nr ?_));exact trivial
         ·(iterate 2 ((conv=>whnf);refine no ?_));exact trivial
         ·rintro⟨n28,v156⟩ hl28;obtain⟨n28,rfl,hl28⟩:=ar hl28;replace hl28:dL N ra28 (aj (fun rr x=>dL N ra28 rr x) n28) v156=some ():=hl28;rw[dL]at hl28;(conv=>whnf);refine Br.mk (fun hc182=>?_) (fun hc182=>?_)
          ·replace hl28:=af hc182 hl28;obtain⟨x336,hx478,hl28⟩:=ab hl28;(conv=>whnf);refine Side.mk rfl ⟨_,aC hx478,ak _ hx478,?_⟩;cases hl28
          ·replace hl28:=ag hc182 hl28;(conv=>whnf);refine⟨(),trivial,Sub.eq rfl ?_ ?_⟩
           ·(repeat ((conv=>whnf);refine nr ?_));exact trivial
           ·(iterate 2 ((conv=>whnf);refine no ?_));exact trivial
        ·rintro _ _;(conv=>whnf);refine LnA.mk _ (List.length_map _) ?_;(conv=>whnf);intro hd83;obtain⟨r77,hx479,hx451⟩:=ab hx451;(conv=>whnf);refine sr ?_;(conv=>whnf);refine CallG.pure _ (qg hN hx479) ?_;obtain⟨r78,hx480,hx451⟩:=ab hx451;(conv=>whnf)
         refine CallG.own (jc (bo1:=b4) (ho1:=hd79) hN hx480) id [kW b2 rb2,(119,.arr hd83 20 1 true [.ifc 9 (.str ([98,111,119,108,101,114]:List UInt8)),.ifc 3 (I v136),.ifc 9 (.str ([107,101,112,116]:List UInt8)),.ifc 3 (I (x312.length:Int)),.ifc 9 (.str ([115,104,101,101,116,115]:List UInt8)),.ifc 3 (I 0)])] _ (fun y=>[(7,.bld b4 148 5 y r78),kW b2 rb2,(119,.arr hd83 20 1 true [.ifc 9 (.str ([98,111,119,108,101,114]:List UInt8)),.ifc 3 (I v136),.ifc 9 (.str ([107,101,112,116]:List UInt8)),.ifc 3 (I (x312.length:Int)),.ifc 9 (.str ([115,104,101,101,116,115]:List UInt8)),.ifc 3 (I 0)])]) (ac _) (ai trivial) rfl (ai trivial) (ai (ai trivial)) (fun _=>AV.le_refl _) (fun _=>rfl) ?_
         rintro hd84 _;cases hx451;(conv=>whnf);refine⟨hd84,trivial,Sub.eq rfl ?_ ?_⟩
         ·(repeat ((conv=>whnf);refine nr ?_));exact trivial
         ·(iterate 2 ((conv=>whnf);refine no ?_));exact trivial
       ·rintro hd82 _;(conv=>whnf);refine⟨(n24,(v135,w64 (v136+1),bs36),hd82),hl24,Sub.eq rfl ?_ ?_,Nat.lt_succ_self _⟩
        ·(repeat ((conv=>whnf);refine nr ?_));exact trivial
        ·(iterate 2 ((conv=>whnf);refine no ?_));exact trivial
      ·replace hl24:=ag hc158 hl24;cases hl24;(conv=>whnf);refine⟨hd79,trivial,Sub.eq rfl ?_ ?_⟩
       ·(repeat ((conv=>whnf);refine nr ?_));exact trivial
       ·(iterate 2 ((conv=>whnf);refine no ?_));exact trivial
    ·rintro hd65 _;obtain⟨bs38,hx487,h⟩:=ab h;(conv=>whnf);refine SeqG.mk Value (fun y=>[(7,.ptr 7 b4 0)]) (fun y=>[(7,.bld b4 148 5 y bs38)]) (fun _=>True) ?_ ?_
     ·(conv=>whnf);refine sr ?_;(conv=>whnf);refine LnA.mk _ (List.length_map _) ?_;(conv=>whnf);refine Br.mk (fun hc184=>?_) (fun hc184=>?_)
      ·replace hx487:=af hc184 hx487;obtain⟨r84,hx490,hx487⟩:=ab hx487;(conv=>whnf);refine CallG.own (qh (bo1:=b2) hN hx490) id [(7,.bld b4 148 5 hd65 bs29)] _ (fun y=>[kW b2 rb2,(7,.bld b4 148 5 hd65 bs29)]) (ac _) (ai trivial) rfl (ai trivial) (ai trivial) (fun _=>AV.le_refl _) (fun _=>rfl) ?_;rintro _ _;obtain⟨⟨ra32,rb32⟩,hx491,hx487⟩:=ab hx487;(conv=>whnf);refine CallG.pure _ (oN hN hx491) ?_;(conv=>whnf);intro hd89
       obtain⟨r85,hx492,hx487⟩:=ab hx487;(conv=>whnf);refine sr ?_;(conv=>whnf);refine CallG.pure _ (oO hN hx492) ?_;obtain⟨r86,hx493,hx487⟩:=ab hx487;(conv=>whnf)
       refine CallG.own (jc (bo1:=b4) (ho1:=hd65) hN hx493) id [kW b2 rb2,(140,.arr hd89 20 1 true [.ifc 9 (.str ([100,117,101,108,115]:List UInt8)),.ifc 25 (.list 1 (List.map I ra32))])] _ (fun y=>[(7,.bld b4 148 5 y r86),kW b2 rb2,(140,.arr hd89 20 1 true [.ifc 9 (.str ([100,117,101,108,115]:List UInt8)),.ifc 25 (.list 1 (List.map I ra32))])]) (ac _) (ai trivial) rfl (ai trivial) (ai (ai trivial)) (fun _=>AV.le_refl _) (fun _=>rfl) ?_
       rintro hd90 _;cases hx487;(conv=>whnf);refine⟨hd90,trivial,Sub.eq rfl ?_ ?_⟩
       ·(repeat ((conv=>whnf);refine nr ?_));exact trivial
       ·(conv=>whnf);refine no ?_;exact trivial
      ·replace hx487:=ag hc184 hx487;cases hx487;(conv=>whnf);refine⟨hd65,trivial,Sub.eq rfl ?_ ?_⟩
       ·(repeat ((conv=>whnf);refine nr ?_));exact trivial
       ·(conv=>whnf);refine no ?_;exact trivial
     ·rintro hd88 _;obtain⟨r88,hx495,h⟩:=ab h;(conv=>whnf);refine CallG.own (xl (k:=7) (bo:=b4) (ho:=hd88) hN hx495) id [] _ (fun y=>[]) (ac _) (ai trivial) rfl (ai trivial) trivial (fun _=>AV.le_refl _) (fun _=>rfl) ?_;rintro _ _;(conv=>whnf);cases h;exact rfl
theorem mt{N:Nat}(hN:N≤1073741824){s1:List UInt8}{index1:Int}{r:DeskHead}(h:e9 N s1 index1=some r) :
    ACalls Tryz.prog 145 [.d (.str s1),.d (I index1)] [] fun e os=>e=.ret (.d (.agg [I r.fLong,I r.fCheck]))∧os=[]:=by
  refine ah (fresh:=false) al ap ⟨[],[],[],[],[1002],0,[]⟩ Tryz.func145 rfl Tryz.call145 rfl ?_
  unfold e9 at h
  (conv=>whnf);intro b2;obtain⟨check6,hx13,h⟩:=ab h;(conv=>whnf);refine SeqG.mk Unit (fun y=>[(0,.d (.str s1)),(4,.ptr 4 b2 0),(5,.d (I check6))]) (fun y=>[(4,.cells b2 [.d (I 0),.d (I 0)])]) (fun _=>True) ?_ ?_
  ·(conv=>whnf);refine Eqv.mk (List.map (fun x=>.int .u8 x) (bytesI s1)) (sQ _) ?_;(conv=>whnf);refine LnA.mk _ (List.length_map _) ?_;(conv=>whnf);refine LoopG.mk (Nat×(Int×(List Int)×Int×Int)) (fun y=>[(0,.d (.str s1)),(4,.ptr 4 b2 0),(5,.d (I y.2.1)),(12,.d (.list 1 (List.map (fun x=>.int .u8 x) y.2.2.1))),(13,.d (I y.2.2.2.1)),(14,.d (I y.2.2.2.2))]) (fun y=>[(4,.cells b2 [.d (I 0),.d (I 0)])]) (fun y=>aj (fun rr x=>bM N rr x.1 x.2.1 x.2.2.1 x.2.2.2) y.1 y.2=some check6) (fun y=>y.1) (N,(w64 (13*(w64 (index1+1))),bytesI s1,((bytesI s1).length:Int),0)) hx13 (Sub.eq rfl ?_ ?_) ?_
   ·(repeat ((conv=>whnf);refine nr ?_));exact trivial
   ·(conv=>whnf);refine no ?_;exact trivial
   ·rintro⟨n2,⟨check11,v26,v27,v28⟩⟩ hl2;obtain⟨n2,rfl,hl2⟩:=ar hl2;replace hl2:bM N (aj (fun rr x=>bM N rr x.1 x.2.1 x.2.2.1 x.2.2.2) n2) check11 v26 v27 v28=some check6:=hl2;rw[bM]at hl2;(conv=>whnf);refine Br.mk (fun hc12=>?_) (fun hc12=>?_)
    ·replace hl2:=af hc12 hl2;obtain⟨x24,hx25,hl2⟩:=ab hl2;(conv=>whnf);refine Side.mk rfl ⟨_,aC hx25,ak _ hx25,?_⟩;(conv=>whnf);refine⟨(n2,(w64 (check11+(w64 ((w64 (v28+2))*(w64 ((w64 x24)+1))))),v26,v27,w64 (v28+1))),hl2,Sub.eq rfl ?_ ?_,Nat.lt_succ_self _⟩
     ·(repeat ((conv=>whnf);refine nr ?_));exact trivial
     ·(conv=>whnf);refine no ?_;exact trivial
    ·replace hl2:=ag hc12 hl2;cases hl2;(conv=>whnf);refine⟨(),trivial,Sub.eq rfl ?_ ?_⟩
     ·(repeat ((conv=>whnf);refine nr ?_));exact trivial
     ·(conv=>whnf);refine no ?_;exact trivial
  ·rintro _ _;(conv=>whnf);refine Need.mk (by decide) ?_;(iterate 2 ((conv=>whnf);refine sr ?_));(conv=>whnf);cases h;exact rfl
theorem mu{N:Nat}(hN:N≤1073741824){n1:Int}{many1:Int}{r:(List UInt8)}(h:dm N n1 many1=some r) :
    ACalls Tryz.prog 185 [.d (I n1),.d (I many1)] [] fun e os=>e=.ret (.d (.str r))∧os=[]:=by
  refine ah (fresh:=false) al ap ⟨[],[],[],[],[5,1002],0,[5]⟩ Tryz.func185 rfl Tryz.call185 rfl ?_
  unfold dm at h
  (conv=>whnf);intro b2;obtain⟨b19,hx7,h⟩:=ab h;(conv=>whnf);refine SeqG.mk Unit (fun y=>[(1,.d (I many1)),(5,.ptr 5 b2 0)]) (fun y=>[(5,.cells b2 [.d (.int .u8 b19.a0),.d (.int .u8 b19.a1),.d (.int .u8 b19.a2),.d (.int .u8 b19.a3),.d (.int .u8 b19.a4)])]) (fun _=>True) ?_ ?_
  ·(conv=>whnf);refine LoopG.mk (Nat×(Int×Int×(Ar5 Int))) (fun y=>[(0,.d (I y.2.1)),(1,.d (I many1)),(5,.ptr 5 b2 0),(6,.d (I y.2.2.1))]) (fun y=>[(5,.cells b2 [.d (.int .u8 y.2.2.2.a0),.d (.int .u8 y.2.2.2.a1),.d (.int .u8 y.2.2.2.a2),.d (.int .u8 y.2.2.2.a3),.d (.int .u8 y.2.2.2.a4)])]) (fun y=>aj (fun rr x=>aF N rr x.1 x.2.1 x.2.2) y.1 y.2=some b19) (fun y=>y.1) (N,(n1,w64 (many1-1),(Ar5.mk 0 0 0 0 0))) hx7 (Sub.eq rfl ?_ ?_) ?_
   ·(repeat ((conv=>whnf);refine nr ?_));exact trivial
   ·(conv=>whnf);refine no ?_;exact trivial
   ·rintro⟨n11,⟨n10,i10,b31⟩⟩ hl2;obtain⟨n11,rfl,hl2⟩:=ar hl2;replace hl2:aF N (aj (fun rr x=>aF N rr x.1 x.2.1 x.2.2) n11) n10 i10 b31=some b19:=hl2;rw[aF]at hl2;(conv=>whnf);refine Br.mk (fun hc112=>?_) (fun hc112=>?_)
    ·replace hl2:=af hc112 hl2;obtain⟨b35,hx13,hl2⟩:=ab hl2;(conv=>whnf);refine SeqG.mk Unit (fun y=>[(0,.d (I n10)),(1,.d (I many1)),(5,.ptr 5 b2 0),(6,.d (I i10))]) (fun y=>[(5,.cells b2 [.d (.int .u8 b35.a0),.d (.int .u8 b35.a1),.d (.int .u8 b35.a2),.d (.int .u8 b35.a3),.d (.int .u8 b35.a4)])]) (fun _=>True) ?_ ?_
     ·(conv=>whnf);refine Need.mk (by decide) ?_;rcases eP (decide (i10=0))with hc128 | hc128
      ·replace hx13:=af hc128 hx13;(conv=>whnf);refine IxG.mk 0 (of_decide_eq_true hc128) (by decide) ?_;(conv=>whnf);refine sr ?_;cases hx13;(conv=>whnf);refine⟨(),trivial,Sub.eq rfl ?_ ?_⟩
       ·(repeat ((conv=>whnf);refine nr ?_));exact trivial
       ·(conv=>whnf);refine no ?_;exact trivial
      ·replace hx13:=ag hc128 hx13;rcases eP (decide (i10=1))with hc129 | hc129
       ·replace hx13:=af hc129 hx13;(conv=>whnf);refine IxG.mk 1 (of_decide_eq_true hc129) (by decide) ?_;(conv=>whnf);refine sr ?_;cases hx13;(conv=>whnf);refine⟨(),trivial,Sub.eq rfl ?_ ?_⟩
        ·(repeat ((conv=>whnf);refine nr ?_));exact trivial
        ·(conv=>whnf);refine no ?_;exact trivial
       ·replace hx13:=ag hc129 hx13;rcases eP (decide (i10=2))with hc130 | hc130
        ·replace hx13:=af hc130 hx13;(conv=>whnf);refine IxG.mk 2 (of_decide_eq_true hc130) (by decide) ?_;(conv=>whnf);refine sr ?_;cases hx13;(conv=>whnf);refine⟨(),trivial,Sub.eq rfl ?_ ?_⟩
         ·(repeat ((conv=>whnf);refine nr ?_));exact trivial
         ·(conv=>whnf);refine no ?_;exact trivial
        ·replace hx13:=ag hc130 hx13;rcases eP (decide (i10=3))with hc131 | hc131
         ·replace hx13:=af hc131 hx13;(conv=>whnf);refine IxG.mk 3 (of_decide_eq_true hc131) (by decide) ?_;(conv=>whnf);refine sr ?_;cases hx13;(conv=>whnf);refine⟨(),trivial,Sub.eq rfl ?_ ?_⟩
          ·(repeat ((conv=>whnf);refine nr ?_));exact trivial
          ·(conv=>whnf);refine no ?_;exact trivial
         ·replace hx13:=ag hc131 hx13;rcases eP (decide (i10=4))with hc132 | hc132
          ·replace hx13:=af hc132 hx13;(conv=>whnf);refine IxG.mk 4 (of_decide_eq_true hc132) (by decide) ?_;(conv=>whnf);refine sr ?_;cases hx13;(conv=>whnf);refine⟨(),trivial,Sub.eq rfl ?_ ?_⟩
           ·(repeat ((conv=>whnf);refine nr ?_));exact trivial
           ·(conv=>whnf);refine no ?_;exact trivial
          ·replace hx13:=ag hc132 hx13;cases hx13
     ·rintro _ _;(conv=>whnf);refine Need.mk (by decide) ?_;(conv=>whnf);refine⟨(n11,(w64 (Int.tdiv n10 10),w64 (i10-1),b35)),hl2,Sub.eq rfl ?_ ?_,Nat.lt_succ_self _⟩
      ·(repeat ((conv=>whnf);refine nr ?_));exact trivial
      ·(conv=>whnf);refine no ?_;exact trivial
    ·replace hl2:=ag hc112 hl2;cases hl2;(conv=>whnf);refine⟨(),trivial,Sub.eq rfl ?_ ?_⟩
     ·(repeat ((conv=>whnf);refine nr ?_));exact trivial
     ·(conv=>whnf);refine no ?_;exact trivial
  ·rintro _ _;obtain⟨l2,hx15,h⟩:=ab h;(conv=>whnf);refine sr ?_;(conv=>whnf);refine ArrS.mk (List.map (fun x=>.int .u8 x) [b19.a0,b19.a1,b19.a2,b19.a3,b19.a4]) rfl rfl (tP _ fun _=>rfl) ?_;(conv=>whnf);refine Need.mk (ui hx15 rfl) (Eqv.mk (List.map (fun x=>.int .u8 x) l2) (vG _ hx15) ?_);(conv=>whnf);refine sr ?_;(conv=>whnf);refine StrG.mk l2 rfl ?_;(conv=>whnf);cases h;exact rfl
theorem fB{N:Nat}(hN:N≤1073741824){hv1:DeskHead}{r:(List UInt8)}(h:dz N hv1=some r) :
    ACalls Tryz.prog 146 [.d (.agg [I hv1.fLong,I hv1.fCheck])] [] fun e os=>e=.ret (.d (.str r))∧os=[]:=by
  refine ah (fresh:=false) al ap ⟨[1],[],[],[],[],0,[]⟩ Tryz.func146 rfl Tryz.call146 rfl ?_
  unfold dz at h
  (conv=>whnf);refine DrawG.mk (.take 0 (.take 1 (.take 5 (.take 6 (.alt 2 [6,5,0] (.take 3 (.take 4 (.alt 7 [4,3,5,0] (.take 8 (.take 9 (.take 10 .done))) .nil))) .nil))))) (by kernel_rfl) ?_;(conv=>whnf);refine Both.mk ?_ trivial;obtain⟨r3,hx7,h⟩:=ab h;(conv=>whnf);refine CallG.pure _ (mu hN hx7) ?_;(iterate 3 ((conv=>whnf);refine nl ?_));obtain⟨s5,hx8,h⟩:=ab h;obtain⟨s6,hx9,h⟩:=ab h;(conv=>whnf);refine Need.mk (eO hN hx8) ?_;(conv=>whnf);refine Need.mk (eO hN hx9) ?_;(conv=>whnf);refine Both.mk ?_ trivial;obtain⟨r4,hx10,h⟩:=ab h;(conv=>whnf);refine CallG.pure _ (mu hN hx10) ?_;(conv=>whnf);refine Need.mk (eO hN hx9) ?_;(conv=>whnf);refine nl ?_;(conv=>whnf);refine Need.mk (eO hN hx8) ?_;(iterate 2 ((conv=>whnf);refine nl ?_));(conv=>whnf);refine nl ?_
  obtain⟨s7,hx11,h⟩:=ab h;obtain⟨s8,hx12,h⟩:=ab h;(conv=>whnf);refine Need.mk (eO hN hx11) ?_;(conv=>whnf);refine Need.mk (eO hN hx12) ?_;(conv=>whnf);cases h;exact rfl
theorem up{N:Nat}(hN:N≤1073741824){lines1:List (List UInt8)}{r:(List Int)}(h:jE N lines1=some r) :
    ACalls Tryz.prog 92 [.d (.list 1 (List.map D.str lines1))] [] fun e os=>e=.ret (.d (.list 1 (List.map (fun x=>.int .u8 x) r)))∧os=[]:=by
  refine ah (fresh:=false) al ap ⟨[],[],[],[],[1002],0,[]⟩ Tryz.func92 rfl Tryz.call92 rfl ?_
  unfold jE at h
  obtain⟨l11,hx43,h⟩:=ab h;(conv=>whnf);refine SeqG.mk Value (fun y=>[(3,.sl 21 y)]) (fun y=>[(21,.arr y 5 1 false (List.map (fun x=>.int .u8 x) l11))]) (fun _=>True) ?_ ?_
  ·(conv=>whnf);refine LnA.mk _ (List.length_map _) ?_;(conv=>whnf);refine LoopG.mk (Nat×(Int×Int×(List Int))×Value) (fun y=>[(3,.sl 21 y.2.2),(6,.d (.list 1 (List.map D.str lines1))),(7,.d (I y.2.1.1)),(8,.d (I y.2.1.2.1))]) (fun y=>[(21,.arr y.2.2 5 1 false (List.map (fun x=>.int .u8 x) y.2.1.2.2))]) (fun y=>aj (fun rr x=>cH N lines1 rr x.1 x.2.1 x.2.2) y.1 y.2.1=some l11) (fun y=>y.1) (N,((lines1.length:Int),0,[]),(.slice none 0 0)) hx43 (Sub.eq rfl ?_ ?_) ?_
   ·(repeat ((conv=>whnf);refine nr ?_));exact trivial
   ·(conv=>whnf);refine Need.mk (OLe.nil _ _ _ _) ?_;exact trivial
   ·rintro⟨n2,⟨v17,v18,l19⟩,hd19⟩ hl2;obtain⟨n2,rfl,hl2⟩:=ar hl2;replace hl2:cH N lines1 (aj (fun rr x=>cH N lines1 rr x.1 x.2.1 x.2.2) n2) v17 v18 l19=some l11:=hl2;rw[cH]at hl2;(conv=>whnf);refine Br.mk (fun hc12=>?_) (fun hc12=>?_)
    ·replace hl2:=af hc12 hl2;obtain⟨x24,hx80,hl2⟩:=ab hl2;(conv=>whnf);refine Side.mk rfl ⟨_,aC hx80,ak _ hx80,?_⟩;obtain⟨r23,hx81,hl2⟩:=ab hl2;(conv=>whnf);refine CallG.pure _ (mt hN hx81) ?_;obtain⟨r24,hx82,hl2⟩:=ab hl2;(conv=>whnf);refine CallG.pure _ (fB hN hx82) ?_;obtain⟨s23,hx83,hl2⟩:=ab hl2;(conv=>whnf);refine Need.mk (eO hN hx83) ?_;obtain⟨s24,hx84,hl2⟩:=ab hl2;(conv=>whnf);refine Need.mk (eO hN hx84) ?_;obtain⟨l21,hx85,hl2⟩:=ab hl2;(conv=>whnf);refine Side.mk ⟨rfl,rfl,rfl⟩ (Eqv.mk (List.map (fun x=>.int .u8 x) (bytesI (((r24++x24)++([10]:List UInt8))))) (sQ _) ?_);(conv=>whnf);refine Side.mk ⟨rfl,rfl,rfl⟩ (Need.mk (vH hN hx85) (Eqv.mk (List.map (fun x=>.int .u8 x) l21) (aH _ hx85) ?_));(conv=>whnf);intro hd21;(conv=>whnf)
     refine⟨(n2,(v17,w64 (v18+1),l21),hd21),hl2,Sub.eq rfl ?_ ?_,Nat.lt_succ_self _⟩
     ·(repeat ((conv=>whnf);refine nr ?_));exact trivial
     ·(conv=>whnf);refine no ?_;exact trivial
    ·replace hl2:=ag hc12 hl2;cases hl2;(conv=>whnf);refine⟨hd19,trivial,Sub.eq rfl ?_ ?_⟩
     ·(repeat ((conv=>whnf);refine nr ?_));exact trivial
     ·(conv=>whnf);refine no ?_;exact trivial
  ·rintro hd11 _;(conv=>whnf);refine sr ?_;(conv=>whnf);cases h;exact rfl
end Go.Proofs.YtiaoloodgildeaaGreatDoor
