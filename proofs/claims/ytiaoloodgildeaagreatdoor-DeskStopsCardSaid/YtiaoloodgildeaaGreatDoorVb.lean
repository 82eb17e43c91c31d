/-
  Walks: what the typed functions compute, the program’s functions return.
-/
import Derived.Test.YtiaoloodgildeaaGreatDoorWe
import Derived.Test.YtiaoloodgildeaaGreatDoorVa
namespace Go.Proofs.YtiaoloodgildeaaGreatDoor
open Go Go.Abs Go.Kp
set_option maxRecDepth 100000
set_option maxHeartbeats 8000000
set_option linter.all false
theorem mH{N:Nat}(hN:N≤1073741824){l1:FrameLaw}{sheet1:List Int}{r:(List Int)}(h:gC N l1 sheet1=some r) :
    ACalls Tryz.prog 82 [.d (.agg [I l1.fFrames,I l1.fPins,I l1.fBalls,I l1.fTap]),.d (.list 1 (List.map I sheet1))] [] fun e os=>e=.ret (.d (.list 1 (List.map I r)))∧os=[]:=by
  refine ah (fresh:=false) al ap ⟨[2],[],[],[],[13,1004,1016,1022],0,[]⟩ Tryz.func82 rfl Tryz.call82 rfl ?_
  unfold gC at h
  (conv=>whnf);intro b2;(conv=>whnf);intro b5;(conv=>whnf);intro b6;obtain⟨l3,hx2,h⟩:=ab h;(conv=>whnf);refine Need.mk (vI hN hx2 (by decide)) (Eqv.mk (List.map I l3) (wC _ hx2 rfl) ?_);(conv=>whnf);intro hd2;(conv=>whnf);intro b8;(conv=>whnf);refine sr ?_;obtain⟨⟨l359,l360,l361⟩,hx475,h⟩:=ab h;(conv=>whnf);refine SeqG.mk (Value×Value×Value) (fun y=>[(4,.nils 1),(5,.ptr 5 b2 0),(6,.ptr 6 b5 0),(7,.ptr 7 b6 0)]) (fun y=>[(5,.cells b2 [.sl 28 y.1]),(6,.cells b5 [.sl 47 y.2.1]),(7,.cells b6 [.sl 50 y.2.2]),(28,.arr y.1 3 1 true (List.map I l359)),(47,.arr y.2.1 3 1 false (List.map I l360)),(50,.arr y.2.2 3 1 false (List.map I l361))]) (fun _=>True) ?_ ?_
  ·obtain⟨⟨ra16,rb16⟩,hx477,hx475⟩:=ab hx475;(conv=>whnf);refine CallG.pure _ (eR hN hx477) ?_;(conv=>whnf);intro lp2 rc14;refine IterG.mk _ _ ⟨[],[],[],[],[7],2000,[]⟩ Tryz.func128 rfl Tryz.call128 rfl rfl ?_;obtain⟨r76,hx479,hx475⟩:=ab hx475;(conv=>whnf);refine CallG.pure _ (cE hN hx479) ?_;(conv=>whnf);intro b48;(conv=>whnf);refine sr ?_;(conv=>whnf);refine LnA.mk _ (List.length_map _) ?_;(conv=>whnf)
   refine LoopG.mk (Nat×(Int×Int×FramePlay×(List Int)×(List Int)×(List Int)×(List Int))×Value×Value×Value) (fun y=>[(0,.fn (.yield lp2) [] []),(4,.ptr 2004 b48 0),(13,.d (.list 1 (List.map I rb16))),(14,.d (I y.2.1.1)),(15,.d (I y.2.1.2.1))]) (fun y=>[(2004,.cells b48 [.d (I y.2.1.2.2.1.fLaw.fFrames),.d (I y.2.1.2.2.1.fLaw.fPins),.d (I y.2.1.2.2.1.fLaw.fBalls),.d (I y.2.1.2.2.1.fLaw.fTap),.d (I y.2.1.2.2.1.fAt.fFrame),.d (I y.2.1.2.2.1.fAt.fThrown),.d (I y.2.1.2.2.1.fAt.fStanding),.d (.bool y.2.1.2.2.1.fAt.fFresh),.d (I y.2.1.2.2.1.fAt.fNeed),.d (I y.2.1.2.2.1.fAt.fAfter.a0),.d (I y.2.1.2.2.1.fAt.fAfter.a1)]),(5,.cells b2 [.sl 28 y.2.2.1]),(6,.cells b5 [.sl 47 y.2.2.2.1]),(7,.cells b6 [.sl 50 y.2.2.2.2]),(8,.cells b8 [.sl 18 hd2]),(1000,.loop lp2 rc14 none),(28,.arr y.2.2.1 3 1 true (List.map I y.2.1.2.2.2.1)),(47,.arr y.2.2.2.1 3 1 false (List.map I y.2.1.2.2.2.2.1)),(50,.arr y.2.2.2.2 3 1 false (List.map I y.2.1.2.2.2.2.2.1)),(18,.arr hd2 3 1 false (List.map I y.2.1.2.2.2.2.2.2))]) (fun y=>aj (fun rr x=>ca N l1 rb16 rr x.1 x.2.1 x.2.2.1 x.2.2.2.1 x.2.2.2.2.1 x.2.2.2.2.2.1 x.2.2.2.2.2.2) y.1 y.2.1=some (l359,l360,l361)) (fun y=>y.1) (N,((rb16.length:Int),0,r76,[],[],[],l3),(.slice none 0 0),(.slice none 0 0),(.slice none 0 0)) hx475 (Sub.eq rfl ?_ ?_) ?_
   ·(repeat ((conv=>whnf);refine nr ?_));exact trivial
   ·(conv=>whnf);refine no ?_;(conv=>whnf);refine Need.mk (OLe.cells _ _ _ (by repeat (first | exact trivial | ((conv=>whnf);refine Need.mk rfl ?_)))) ?_;(conv=>whnf);refine Need.mk (OLe.cells _ _ _ (by repeat (first | exact trivial | ((conv=>whnf);refine Need.mk rfl ?_)))) ?_;(conv=>whnf);refine Need.mk (OLe.cells _ _ _ (by repeat (first | exact trivial | ((conv=>whnf);refine Need.mk rfl ?_)))) ?_;(iterate 2 ((conv=>whnf);refine no ?_));(conv=>whnf);refine Need.mk (OLe.nil _ _ _ _) ?_;(conv=>whnf);refine Need.mk (OLe.nil _ _ _ _) ?_;(conv=>whnf);refine Need.mk (OLe.nil _ _ _ _) ?_;(conv=>whnf);refine no ?_;exact trivial
   ·rintro⟨n10,⟨end10,n9,c8,l598,l599,l600,l601⟩,hd630,hd631,hd632⟩ hl2;obtain⟨n10,rfl,hl2⟩:=ar hl2;replace hl2:ca N l1 rb16 (aj (fun rr x=>ca N l1 rb16 rr x.1 x.2.1 x.2.2.1 x.2.2.2.1 x.2.2.2.2.1 x.2.2.2.2.2.1 x.2.2.2.2.2.2) n10) end10 n9 c8 l598 l599 l600 l601=some (l359,l360,l361):=hl2;rw[ca]at hl2;(conv=>whnf);refine Br.mk (fun hc272=>?_) (fun hc272=>?_)
    ·replace hl2:=af hc272 hl2;obtain⟨x288,hx871,hl2⟩:=ab hl2;(conv=>whnf);refine Side.mk rfl ⟨_,aC hx871,ak _ hx871,?_⟩;(conv=>whnf);refine sr ?_;obtain⟨r140,hx875,hl2⟩:=ab hl2;(conv=>whnf);refine CallG.pure _ (fA hN hx875) ?_;(conv=>whnf);refine Br.mk (fun hc300=>?_) (fun hc300=>?_)
     ·replace hl2:=af hc300 hl2;(conv=>whnf);refine Side.mk ⟨rfl,rfl⟩ ?_;cases hl2;(conv=>whnf);refine⟨(hd630,hd631,hd632),trivial,Sub.eq rfl ?_ ?_⟩
      ·(repeat ((conv=>whnf);refine nr ?_));exact trivial
      ·(iterate 6 ((conv=>whnf);refine no ?_));exact trivial
     ·replace hl2:=ag hc300 hl2;(conv=>whnf);refine sr ?_;obtain⟨⟨ra28,rb28,rc26⟩,hx877,hl2⟩:=ab hl2;(conv=>whnf);refine CallG.pure _ (aS hN hx877) ?_;(conv=>whnf);intro b80;(conv=>whnf);refine sr ?_;obtain⟨⟨l700,l701,l702,l703⟩,hx930,hl2⟩:=ab hl2;(conv=>whnf)
      refine SeqG.mk (Value×Value×Value) (fun y=>[(0,.fn (.yield lp2) [] []),(4,.ptr 2004 b48 0),(8,.ptr 2008 b80 0),(13,.d (.list 1 (List.map I rb16))),(14,.d (I end10)),(15,.d (I n9)),(43,.b false)]) (fun y=>[(2004,.cells b48 [.d (I c8.fLaw.fFrames),.d (I c8.fLaw.fPins),.d (I c8.fLaw.fBalls),.d (I c8.fLaw.fTap),.d (I c8.fAt.fFrame),.d (I c8.fAt.fThrown),.d (I c8.fAt.fStanding),.d (.bool c8.fAt.fFresh),.d (I c8.fAt.fNeed),.d (I c8.fAt.fAfter.a0),.d (I c8.fAt.fAfter.a1)]),(2008,.cells b80 [.d (I ra28.fLaw.fFrames),.d (I ra28.fLaw.fPins),.d (I ra28.fLaw.fBalls),.d (I ra28.fLaw.fTap),.d (I ra28.fAt.fFrame),.d (I ra28.fAt.fThrown),.d (I ra28.fAt.fStanding),.d (.bool ra28.fAt.fFresh),.d (I ra28.fAt.fNeed),.d (I ra28.fAt.fAfter.a0),.d (I ra28.fAt.fAfter.a1)]),(5,.cells b2 [.sl 28 y.1]),(6,.cells b5 [.sl 47 y.2.1]),(7,.cells b6 [.sl 50 y.2.2]),(8,.cells b8 [.sl 18 hd2]),(1000,.loop lp2 rc14 none),(28,.arr y.1 3 1 true (List.map I l700)),(47,.arr y.2.1 3 1 false (List.map I l701)),(50,.arr y.2.2 3 1 false (List.map I l702)),(18,.arr hd2 3 1 false (List.map I l703))]) (fun _=>True) ?_ ?_
      ·(iterate 2 ((conv=>whnf);refine sr ?_));(conv=>whnf);refine Side.mk ⟨rfl,rfl,rfl⟩ ?_;(conv=>whnf);intro b84;(iterate 3 ((conv=>whnf);refine sr ?_));(conv=>whnf);intro hd743;obtain⟨l705,hx932,hx930⟩:=ab hx930;(conv=>whnf);refine Side.mk ⟨rfl,rfl⟩ ?_;(conv=>whnf);refine Side.mk ⟨rfl,rfl,rfl⟩ (Need.mk (aD hN hx932 (by decide)) (Eqv.mk (List.map I l705) (aH _ hx932) ?_));(conv=>whnf);intro hd744;(iterate 3 ((conv=>whnf);refine sr ?_));obtain⟨x308,hx934,hx930⟩:=ab hx930;(conv=>whnf);refine Side.mk ⟨rfl,rfl⟩ (Need.mk (aL _ hx934) ?_);(conv=>whnf);refine Side.mk ⟨rfl,rfl⟩ ⟨_,Int.natCast_nonneg _,bX _ hx934,?_⟩;(conv=>whnf);refine Side.mk ⟨rfl,rfl⟩ (Need.mk (aL _ hx934) ?_);(conv=>whnf)
       refine Side.mk ⟨rfl,rfl⟩ ⟨_,Int.natCast_nonneg _,bX _ hx934,?_⟩;(conv=>whnf);refine Eqv.mk (List.map I (List.set l601 (Int.toNat c8.fAt.fFrame) (w64 (x308+1)))) (j1 _ _ _ _ rfl) ?_;(iterate 2 ((conv=>whnf);refine sr ?_));(conv=>whnf);refine Br.mk (fun hc319=>?_) (fun hc319=>?_)
       ·replace hx930:=af hc319 hx930;(conv=>whnf);refine sr ?_;(conv=>whnf);intro hd747;obtain⟨l707,hx936,hx930⟩:=ab hx930;(conv=>whnf);refine Side.mk ⟨rfl,rfl⟩ ?_;(conv=>whnf);refine Side.mk ⟨rfl,rfl,rfl⟩ (Need.mk (aD hN hx936 (by decide)) (Eqv.mk (List.map I l707) (aH _ hx936) ?_));(conv=>whnf);intro hd748;(iterate 2 ((conv=>whnf);refine sr ?_));(conv=>whnf);intro hd751;obtain⟨l709,hx938,hx930⟩:=ab hx930;(conv=>whnf);refine Side.mk ⟨rfl,rfl⟩ ?_;(conv=>whnf);refine Side.mk ⟨rfl,rfl,rfl⟩ (Need.mk (aD hN hx938 (by decide)) (Eqv.mk (List.map I l709) (aH _ hx938) ?_));(conv=>whnf);intro hd752;(conv=>whnf);refine sr ?_;obtain⟨x310,hx942,hx930⟩:=ab hx930;obtain⟨l711,hx943,hx930⟩:=ab hx930;obtain⟨r148,hx944,hx930⟩:=ab hx930;(conv=>whnf)
        refine DrawG.mk (.take 0 (.take 1 (.take 2 (.take 3 (.take 4 (.take 5 (.take 6 (.take 7 (.take 8 (.alt 9 [7,6,5,4,3,2,1] (.alt 10 [7,6,5,4,3,2,1] (.take 11 .done) .nil) .nil)))))))))) (by kernel_rfl) ?_;(iterate 3 ((conv=>whnf);refine sr ?_));(conv=>whnf);refine Side.mk ⟨rfl,rfl⟩ (Need.mk (aL _ hx942) ?_);(conv=>whnf);refine Side.mk ⟨rfl,rfl⟩ ⟨_,Int.natCast_nonneg _,bX _ hx942,?_⟩;(conv=>whnf);refine Both.mk ?_ trivial;(conv=>whnf);refine sr ?_;(conv=>whnf);refine Need.mk (lT _ hx943) (Eqv.mk (List.map I l711) (nW _ hx943) ?_);(conv=>whnf);refine Side.mk ⟨rfl,rfl⟩ ⟨_,Int.natCast_nonneg _,bX _ hx942,?_⟩;(conv=>whnf);refine nl ?_;(conv=>whnf);refine Side.mk ⟨rfl,rfl⟩ (Need.mk (aL _ hx942) ?_);(conv=>whnf);refine nl ?_;(conv=>whnf);refine sr ?_;(conv=>whnf);refine nl ?_;(conv=>whnf)
        refine nl ?_;(conv=>whnf);refine sr ?_;(iterate 3 ((conv=>whnf);refine nl ?_));(conv=>whnf);refine Both.mk ?_ trivial;(conv=>whnf);refine CallG.pure _ (gv hN hx944) ?_;(conv=>whnf);refine Side.mk ⟨rfl,rfl⟩ ⟨_,Int.natCast_nonneg _,bX _ hx942,?_⟩;(conv=>whnf);refine nl ?_;(conv=>whnf);refine Side.mk ⟨rfl,rfl⟩ (Need.mk (aL _ hx942) ?_);(conv=>whnf);refine nl ?_;(conv=>whnf);refine sr ?_;(iterate 2 ((conv=>whnf);refine nl ?_));(conv=>whnf);refine sr ?_;(iterate 3 ((conv=>whnf);refine nl ?_));obtain⟨⟨v96,l713⟩,hx945,hx930⟩:=ab hx930;(conv=>whnf)
        refine SeqG.mk Unit (fun y=>[(7,.ptr 7 b6 0),(8,.ptr 8 b8 0),(10,.ptr 10 b84 0),(81,.d (.bool v96))]) (fun y=>[(7,.cells b6 [.sl 50 hd752]),(8,.cells b8 [.sl 18 hd2]),(10,.cells b84 [.d (I x288),.d (I c8.fAt.fFrame),.d (I rb28),.d (I ra28.fLaw.fFrames),.d (I ra28.fLaw.fPins),.d (I ra28.fLaw.fBalls),.d (I ra28.fLaw.fTap),.d (I ra28.fAt.fFrame),.d (I ra28.fAt.fThrown),.d (I ra28.fAt.fStanding),.d (.bool ra28.fAt.fFresh),.d (I ra28.fAt.fNeed),.d (I ra28.fAt.fAfter.a0),.d (I ra28.fAt.fAfter.a1)]),(5,.cells b2 [.sl 28 hd744]),(6,.cells b5 [.sl 47 hd748]),(2004,.cells b48 [.d (I c8.fLaw.fFrames),.d (I c8.fLaw.fPins),.d (I c8.fLaw.fBalls),.d (I c8.fLaw.fTap),.d (I c8.fAt.fFrame),.d (I c8.fAt.fThrown),.d (I c8.fAt.fStanding),.d (.bool c8.fAt.fFresh),.d (I c8.fAt.fNeed),.d (I c8.fAt.fAfter.a0),.d (I c8.fAt.fAfter.a1)]),(2008,.cells b80 [.d (I ra28.fLaw.fFrames),.d (I ra28.fLaw.fPins),.d (I ra28.fLaw.fBalls),.d (I ra28.fLaw.fTap),.d (I ra28.fAt.fFrame),.d (I ra28.fAt.fThrown),.d (I ra28.fAt.fStanding),.d (.bool ra28.fAt.fFresh),.d (I ra28.fAt.fNeed),.d (I ra28.fAt.fAfter.a0),.d (I ra28.fAt.fAfter.a1)]),(50,.arr hd752 3 1 false (List.map I l709)),(18,.arr hd2 3 1 false (List.map I l713)),(28,.arr hd744 3 1 true (List.map I l705)),(47,.arr hd748 3 1 false (List.map I l707))]) (fun _=>True) ?_ ?_
        ·(conv=>whnf);refine sr ?_;(conv=>whnf);refine Br.mk (fun hc322=>?_) (fun hc322=>?_)
         ·replace hx945:=af hc322 hx945;(conv=>whnf);refine Br.mk (fun hc323=>?_) (fun hc323=>?_)
          ·replace hx945:=af hc323 hx945;(iterate 2 ((conv=>whnf);refine sr ?_));(conv=>whnf);refine Side.mk ⟨rfl,rfl⟩ (Need.mk (aL _ hx942) ?_);(conv=>whnf);refine Side.mk ⟨rfl,rfl⟩ ⟨_,Int.natCast_nonneg _,bX _ hx942,?_⟩;cases hx945;(conv=>whnf);refine⟨(),trivial,Sub.eq rfl ?_ ?_⟩
           ·(repeat ((conv=>whnf);refine nr ?_));exact trivial
           ·(iterate 11 ((conv=>whnf);refine no ?_));exact trivial
          ·replace hx945:=ag hc323 hx945;cases hx945;(conv=>whnf);refine⟨(),trivial,Sub.eq rfl ?_ ?_⟩
           ·(repeat ((conv=>whnf);refine nr ?_));exact trivial
           ·(iterate 11 ((conv=>whnf);refine no ?_));exact trivial
         ·replace hx945:=ag hc322 hx945;cases hx945;(conv=>whnf);refine⟨(),trivial,Sub.eq rfl ?_ ?_⟩
          ·(repeat ((conv=>whnf);refine nr ?_));exact trivial
          ·(iterate 11 ((conv=>whnf);refine no ?_));exact trivial
        ·rintro _ _;(conv=>whnf);refine Br.mk (fun hc324=>?_) (fun hc324=>?_)
         ·replace hx930:=af hc324 hx930;obtain⟨x311,hx946,hx930⟩:=ab hx930;obtain⟨x312,hx947,hx930⟩:=ab hx930;(conv=>whnf);refine DrawG.mk (.take 0 (.take 1 (.take 2 (.take 3 (.take 4 (.take 5 (.take 6 (.take 7 (.take 8 (.take 9 (.alt 10 [] .done .nil))))))))))) (by kernel_rfl) ?_;(iterate 4 ((conv=>whnf);refine sr ?_));(conv=>whnf);refine Side.mk ⟨rfl,rfl⟩ (Need.mk (aL _ hx946) ?_);(conv=>whnf);refine Side.mk ⟨rfl,rfl⟩ ⟨_,Int.natCast_nonneg _,bX _ hx946,?_⟩;(conv=>whnf);refine Side.mk ⟨rfl,rfl⟩ (Need.mk (aL _ hx947) ?_);(conv=>whnf);refine Both.mk ?_ trivial;(conv=>whnf);refine Side.mk ⟨rfl,rfl⟩ ⟨_,Int.natCast_nonneg _,bX _ hx947,?_⟩;(conv=>whnf);refine Eqv.mk (List.map I (List.set l709 (Int.toNat c8.fAt.fFrame) (w64 (3-x311)))) (j1 _ _ _ _ rfl) ?_;cases hx930
          (conv=>whnf);refine⟨(hd744,hd748,hd752),trivial,Sub.eq rfl ?_ ?_⟩
          ·(repeat ((conv=>whnf);refine nr ?_));exact trivial
          ·(iterate 11 ((conv=>whnf);refine no ?_));exact trivial
         ·replace hx930:=ag hc324 hx930;cases hx930;(conv=>whnf);refine⟨(hd744,hd748,hd752),trivial,Sub.eq rfl ?_ ?_⟩
          ·(repeat ((conv=>whnf);refine nr ?_));exact trivial
          ·(iterate 11 ((conv=>whnf);refine no ?_));exact trivial
       ·replace hx930:=ag hc319 hx930;cases hx930;(conv=>whnf);refine⟨(hd744,hd631,hd632),trivial,Sub.eq rfl ?_ ?_⟩
        ·(repeat ((conv=>whnf);refine nr ?_));exact trivial
        ·(iterate 11 ((conv=>whnf);refine no ?_));exact trivial
      ·rintro⟨hd738,hd739,hd740⟩ _;(iterate 2 ((conv=>whnf);refine sr ?_));(conv=>whnf);refine⟨(n10,(end10,w64 (n9+1),ra28,l700,l701,l702,l703),hd738,hd739,hd740),hl2,Sub.eq rfl ?_ ?_,Nat.lt_succ_self _⟩
       ·(repeat ((conv=>whnf);refine nr ?_));exact trivial
       ·(iterate 10 ((conv=>whnf);refine no ?_));exact trivial
    ·replace hl2:=ag hc272 hl2;(conv=>whnf);refine Side.mk ⟨rfl,rfl⟩ ?_;cases hl2;(conv=>whnf);refine⟨(hd630,hd631,hd632),trivial,Sub.eq rfl ?_ ?_⟩
     ·(repeat ((conv=>whnf);refine nr ?_));exact trivial
     ·(iterate 6 ((conv=>whnf);refine no ?_));exact trivial
  ·rintro⟨hd378,hd379,hd380⟩ _;(conv=>whnf);refine SeqG.mk ((List Int)×Value) (fun y=>[(4,.sl 132 y.2)]) (fun y=>[(132,.arr y.2 3 1 false (List.map I y.1))]) (fun y=>eB N y.1=some r) ?_ ?_
   ·(conv=>whnf);refine sr ?_;(conv=>whnf);refine Side.mk rfl (LnA.mk _ (List.length_map _) ?_);(conv=>whnf);refine LoopG.mk (Nat×(Int×Int×Int×(List Int))×Value) (fun y=>[(4,.sl 132 y.2.2),(5,.ptr 5 b2 0),(7,.ptr 7 b6 0),(12,.d (I y.2.1.1)),(92,.sl 47 hd379),(93,.d (I y.2.1.2.1)),(94,.d (I y.2.1.2.2.1))]) (fun y=>[(132,.arr y.2.2 3 1 false (List.map I y.2.1.2.2.2)),(5,.cells b2 [.sl 28 hd378]),(7,.cells b6 [.sl 50 hd380]),(47,.arr hd379 3 1 false (List.map I l360)),(28,.arr hd378 3 1 true (List.map I l359)),(50,.arr hd380 3 1 false (List.map I l361))]) (fun y=>aj (fun rr x=>cb N l359 l360 l361 rr x.1 x.2.1 x.2.2.1 x.2.2.2) y.1 y.2.1=some r) (fun y=>y.1) (N,(0,(l360.length:Int),0,[]),(.slice none 0 0)) h (Sub.eq rfl ?_ ?_) ?_
    ·(repeat ((conv=>whnf);refine nr ?_));exact trivial
    ·(conv=>whnf);refine Need.mk (OLe.nil _ _ _ _) ?_;(iterate 5 ((conv=>whnf);refine no ?_));exact trivial
    ·rintro⟨n24,⟨from8,v113,v114,l762⟩,hd813⟩ hl4;obtain⟨n24,rfl,hl4⟩:=ar hl4;replace hl4:cb N l359 l360 l361 (aj (fun rr x=>cb N l359 l360 l361 rr x.1 x.2.1 x.2.2.1 x.2.2.2) n24) from8 v113 v114 l762=some r:=hl4;rw[cb]at hl4;(conv=>whnf);refine Br.mk (fun hc368=>?_) (fun hc368=>?_)
     ·replace hl4:=af hc368 hl4;obtain⟨x394,hx1120,hl4⟩:=ab hl4;(conv=>whnf);refine Side.mk ⟨rfl,rfl⟩ (Need.mk (aL _ hx1120) ?_);(conv=>whnf);refine Side.mk ⟨rfl,rfl⟩ ⟨_,Int.natCast_nonneg _,bX _ hx1120,?_⟩;obtain⟨x398,hx1124,hl4⟩:=ab hl4;(conv=>whnf);refine DrawG.mk (.take 0 (.take 1 (.take 2 (.take 3 (.take 4 (.take 5 (.take 6 (.take 7 (.take 8 .done))))))))) (by kernel_rfl) ?_;(conv=>whnf);refine sr ?_;(conv=>whnf);refine Side.mk ⟨rfl,rfl⟩ (Need.mk (aL _ hx1124) ?_);(conv=>whnf);refine Side.mk ⟨rfl,rfl⟩ ⟨_,Int.natCast_nonneg _,bX _ hx1124,?_⟩;(conv=>whnf);refine sr ?_;(conv=>whnf);refine Side.mk rfl (LnA.mk _ (List.length_map _) ?_);(conv=>whnf);refine Br.mk (fun hc374=>?_) (fun hc374=>?_)
      ·replace hl4:=af hc374 hl4;(conv=>whnf);refine sr ?_;(conv=>whnf);cases hl4;exact rfl
      ·replace hl4:=ag hc374 hl4;obtain⟨l768,hx1127,hl4⟩:=ab hl4;obtain⟨r186,hx1128,hl4⟩:=ab hl4;(conv=>whnf);refine DrawG.mk (.take 0 (.take 1 (.take 2 (.take 3 (.take 4 (.take 5 (.take 6 (.take 7 (.alt 8 [6,5,4,3,2] (.alt 9 [6,5,4,3,2] (.take 10 .done) .nil) .nil))))))))) (by kernel_rfl) ?_;(iterate 2 ((conv=>whnf);refine sr ?_));(conv=>whnf);refine Side.mk ⟨rfl,rfl⟩ (Need.mk (aL _ hx1124) ?_);(conv=>whnf);refine Side.mk ⟨rfl,rfl⟩ ⟨_,Int.natCast_nonneg _,bX _ hx1124,?_⟩;(conv=>whnf);refine Both.mk ?_ trivial;(conv=>whnf);refine sr ?_;(conv=>whnf);refine Need.mk (dt _ hx1127) (Eqv.mk (List.map I l768) (dA _ hx1127) ?_);(conv=>whnf);refine Side.mk ⟨rfl,rfl⟩ ⟨_,Int.natCast_nonneg _,bX _ hx1124,?_⟩;(conv=>whnf);refine nl ?_;(conv=>whnf);refine Side.mk ⟨rfl,rfl⟩ (Need.mk (aL _ hx1124) ?_);(conv=>whnf)
       refine nl ?_;(conv=>whnf);refine nl ?_;(conv=>whnf);refine sr ?_;(iterate 2 ((conv=>whnf);refine nl ?_));(conv=>whnf);refine Both.mk ?_ trivial;(conv=>whnf);refine CallG.pure _ (gv hN hx1128) ?_;(conv=>whnf);refine Side.mk ⟨rfl,rfl⟩ ⟨_,Int.natCast_nonneg _,bX _ hx1124,?_⟩;(conv=>whnf);refine nl ?_;(conv=>whnf);refine Side.mk ⟨rfl,rfl⟩ (Need.mk (aL _ hx1124) ?_);(iterate 2 ((conv=>whnf);refine nl ?_));(conv=>whnf);refine sr ?_;(iterate 2 ((conv=>whnf);refine nl ?_));obtain⟨n28,hx1131,hl4⟩:=ab hl4;(conv=>whnf)
       refine SeqG.mk Unit (fun y=>[(4,.sl 132 hd813),(5,.ptr 5 b2 0),(7,.ptr 7 b6 0),(14,.d (I x394)),(15,.d (I n28)),(92,.sl 47 hd379),(93,.d (I v113)),(94,.d (I v114))]) (fun y=>[(132,.arr hd813 3 1 false (List.map I l762)),(5,.cells b2 [.sl 28 hd378]),(7,.cells b6 [.sl 50 hd380]),(47,.arr hd379 3 1 false (List.map I l360)),(28,.arr hd378 3 1 true (List.map I l359)),(50,.arr hd380 3 1 false (List.map I l361))]) (fun _=>True) ?_ ?_
       ·(conv=>whnf);refine Br.mk (fun hc376=>?_) (fun hc376=>?_)
        ·replace hx1131:=af hc376 hx1131;obtain⟨x400,hx1132,hx1131⟩:=ab hx1131;(conv=>whnf);refine Side.mk ⟨rfl,rfl⟩ (Need.mk (aL _ hx1132) ?_);(conv=>whnf);refine Side.mk ⟨rfl,rfl⟩ ⟨_,Int.natCast_nonneg _,bX _ hx1132,?_⟩;(conv=>whnf);intro hd821;obtain⟨r188,hx1133,hx1131⟩:=ab hx1131;(conv=>whnf);refine sr ?_;(conv=>whnf);refine CallG.pure _ (gv hN hx1133) ?_;cases hx1131;(conv=>whnf);refine⟨(),trivial,Sub.eq rfl ?_ ?_⟩
         ·(repeat ((conv=>whnf);refine nr ?_));exact trivial
         ·(iterate 6 ((conv=>whnf);refine no ?_));exact trivial
        ·replace hx1131:=ag hc376 hx1131;cases hx1131;(conv=>whnf);refine⟨(),trivial,Sub.eq rfl ?_ ?_⟩
         ·(repeat ((conv=>whnf);refine nr ?_));exact trivial
         ·(iterate 6 ((conv=>whnf);refine no ?_));exact trivial
       ·rintro _ _;(conv=>whnf);intro hd824;obtain⟨l770,hx1135,hl4⟩:=ab hl4;(conv=>whnf);refine Side.mk ⟨rfl,rfl⟩ ?_;(conv=>whnf);refine Side.mk ⟨rfl,rfl,rfl⟩ (Need.mk (aD hN hx1135 (by decide)) (Eqv.mk (List.map I l770) (aH _ hx1135) ?_));(conv=>whnf);intro hd825;(conv=>whnf);refine⟨(n24,(x394,v113,w64 (v114+1),l770),hd825),hl4,Sub.eq rfl ?_ ?_,Nat.lt_succ_self _⟩
        ·(repeat ((conv=>whnf);refine nr ?_));exact trivial
        ·(iterate 6 ((conv=>whnf);refine no ?_));exact trivial
     ·replace hl4:=ag hc368 hl4;(conv=>whnf);refine⟨(l762,hd813),hl4,Sub.eq rfl ?_ ?_⟩
      ·(repeat ((conv=>whnf);refine nr ?_));exact trivial
      ·(conv=>whnf);refine no ?_;exact trivial
   ·clear h;rintro⟨l742,hd789⟩ h;unfold eB at h;(conv=>whnf);refine sr ?_;(conv=>whnf);cases h;exact rfl
theorem f3{N:Nat}(hN:N≤1073741824){l1:FrameLaw}{sheet1:List Int}{r:FramePlay}(h:dg N l1 sheet1=some r) :
    ACalls Tryz.prog 84 [.d (.agg [I l1.fFrames,I l1.fPins,I l1.fBalls,I l1.fTap]),.d (.list 1 (List.map I sheet1))] [] fun e os=>e=.ret (.d (.agg [I r.fLaw.fFrames,I r.fLaw.fPins,I r.fLaw.fBalls,I r.fLaw.fTap,I r.fAt.fFrame,I r.fAt.fThrown,I r.fAt.fStanding,.bool r.fAt.fFresh,I r.fAt.fNeed,I r.fAt.fAfter.a0,I r.fAt.fAfter.a1]))∧os=[]:=by
  refine ah (fresh:=false) al ap ⟨[2],[],[],[],[1002],0,[]⟩ Tryz.func84 rfl Tryz.call84 rfl ?_
  unfold dg at h
  (conv=>whnf);intro b2;obtain⟨r2,hx2,h⟩:=ab h;(conv=>whnf);refine CallG.pure _ (cE hN hx2) ?_;(conv=>whnf);intro b4;(conv=>whnf);refine sr ?_;obtain⟨p6,hx55,h⟩:=ab h;(conv=>whnf);refine SeqG.mk Unit (fun y=>[(4,.ptr 4 b2 0),(5,.ptr 5 b4 0)]) (fun y=>[(4,.cells b2 [.d (I 0),.d (I 0),.d (I 0),.d (I 0),.d (I 0),.d (I 0),.d (I 0),.d (.bool false),.d (I 0),.d (I 0),.d (I 0)]),(5,.cells b4 [.d (I p6.fLaw.fFrames),.d (I p6.fLaw.fPins),.d (I p6.fLaw.fBalls),.d (I p6.fLaw.fTap),.d (I p6.fAt.fFrame),.d (I p6.fAt.fThrown),.d (I p6.fAt.fStanding),.d (.bool p6.fAt.fFresh),.d (I p6.fAt.fNeed),.d (I p6.fAt.fAfter.a0),.d (I p6.fAt.fAfter.a1)])]) (fun _=>True) ?_ ?_
  ·obtain⟨⟨ra16,rb16⟩,hx57,hx55⟩:=ab hx55;(conv=>whnf);refine CallG.pure _ (eR hN hx57) ?_;(conv=>whnf);intro lp2 rc14;refine IterG.mk _ _ ⟨[],[],[],[],[],2000,[]⟩ Tryz.func128 rfl Tryz.call128 rfl rfl ?_;obtain⟨r30,hx59,hx55⟩:=ab hx55;(conv=>whnf);refine CallG.pure _ (cE hN hx59) ?_;(conv=>whnf);intro b44;(conv=>whnf);refine sr ?_;(conv=>whnf);refine LnA.mk _ (List.length_map _) ?_;(conv=>whnf)
   refine LoopG.mk (Nat×(Int×Int×FramePlay×FramePlay)) (fun y=>[(0,.fn (.yield lp2) [] []),(4,.ptr 2004 b44 0),(13,.d (.list 1 (List.map I rb16))),(14,.d (I y.2.1)),(15,.d (I y.2.2.1))]) (fun y=>[(2004,.cells b44 [.d (I y.2.2.2.1.fLaw.fFrames),.d (I y.2.2.2.1.fLaw.fPins),.d (I y.2.2.2.1.fLaw.fBalls),.d (I y.2.2.2.1.fLaw.fTap),.d (I y.2.2.2.1.fAt.fFrame),.d (I y.2.2.2.1.fAt.fThrown),.d (I y.2.2.2.1.fAt.fStanding),.d (.bool y.2.2.2.1.fAt.fFresh),.d (I y.2.2.2.1.fAt.fNeed),.d (I y.2.2.2.1.fAt.fAfter.a0),.d (I y.2.2.2.1.fAt.fAfter.a1)]),(4,.cells b2 [.d (I 0),.d (I 0),.d (I 0),.d (I 0),.d (I 0),.d (I 0),.d (I 0),.d (.bool false),.d (I 0),.d (I 0),.d (I 0)]),(5,.cells b4 [.d (I y.2.2.2.2.fLaw.fFrames),.d (I y.2.2.2.2.fLaw.fPins),.d (I y.2.2.2.2.fLaw.fBalls),.d (I y.2.2.2.2.fLaw.fTap),.d (I y.2.2.2.2.fAt.fFrame),.d (I y.2.2.2.2.fAt.fThrown),.d (I y.2.2.2.2.fAt.fStanding),.d (.bool y.2.2.2.2.fAt.fFresh),.d (I y.2.2.2.2.fAt.fNeed),.d (I y.2.2.2.2.fAt.fAfter.a0),.d (I y.2.2.2.2.fAt.fAfter.a1)]),(1000,.loop lp2 rc14 none)]) (fun y=>aj (fun rr x=>cd N rb16 rr x.1 x.2.1 x.2.2.1 x.2.2.2) y.1 y.2=some p6) (fun y=>y.1) (N,((rb16.length:Int),0,r30,r2)) hx55 (Sub.eq rfl ?_ ?_) ?_
   ·(repeat ((conv=>whnf);refine nr ?_));exact trivial
   ·(iterate 4 ((conv=>whnf);refine no ?_));exact trivial
   ·rintro⟨n2,⟨v17,v18,c8,p10⟩⟩ hl2;obtain⟨n2,rfl,hl2⟩:=ar hl2;replace hl2:cd N rb16 (aj (fun rr x=>cd N rb16 rr x.1 x.2.1 x.2.2.1 x.2.2.2) n2) v17 v18 c8 p10=some p6:=hl2;rw[cd]at hl2;(conv=>whnf);refine Br.mk (fun hc32=>?_) (fun hc32=>?_)
    ·replace hl2:=af hc32 hl2;obtain⟨x24,hx101,hl2⟩:=ab hl2;(conv=>whnf);refine Side.mk rfl ⟨_,aC hx101,ak _ hx101,?_⟩;(conv=>whnf);refine sr ?_;obtain⟨r54,hx105,hl2⟩:=ab hl2;(conv=>whnf);refine CallG.pure _ (fA hN hx105) ?_;(conv=>whnf);refine Br.mk (fun hc36=>?_) (fun hc36=>?_)
     ·replace hl2:=af hc36 hl2;(conv=>whnf);refine Side.mk ⟨rfl,rfl⟩ ?_;cases hl2;(conv=>whnf);refine⟨(),trivial,Sub.eq rfl ?_ ?_⟩
      ·(repeat ((conv=>whnf);refine nr ?_));exact trivial
      ·(iterate 2 ((conv=>whnf);refine no ?_));exact trivial
     ·replace hl2:=ag hc36 hl2;(conv=>whnf);refine sr ?_;obtain⟨⟨ra28,rb28,rc26⟩,hx107,hl2⟩:=ab hl2;(conv=>whnf);refine CallG.pure _ (aS hN hx107) ?_;(conv=>whnf);intro b76;(iterate 3 ((conv=>whnf);refine sr ?_));(conv=>whnf);refine Side.mk ⟨rfl,rfl,rfl⟩ ?_;(conv=>whnf);intro b80;(iterate 5 ((conv=>whnf);refine sr ?_));(conv=>whnf);refine⟨(n2,(v17,w64 (v18+1),ra28,ra28)),hl2,Sub.eq rfl ?_ ?_,Nat.lt_succ_self _⟩
      ·(repeat ((conv=>whnf);refine nr ?_));exact trivial
      ·(iterate 4 ((conv=>whnf);refine no ?_));exact trivial
    ·replace hl2:=ag hc32 hl2;(conv=>whnf);refine Side.mk ⟨rfl,rfl⟩ ?_;cases hl2;(conv=>whnf);refine⟨(),trivial,Sub.eq rfl ?_ ?_⟩
     ·(repeat ((conv=>whnf);refine nr ?_));exact trivial
     ·(iterate 2 ((conv=>whnf);refine no ?_));exact trivial
  ·rintro _ _;(iterate 3 ((conv=>whnf);refine sr ?_));(conv=>whnf);cases h;exact rfl
theorem cm{N:Nat}(hN:N≤1073741824){l1:FrameLaw}{balls1:List Int}{r:FrameGame×Int}(h:gm N l1 balls1=some r) :
    ACalls Tryz.prog 45 [.d (.agg [I l1.fFrames,I l1.fPins,I l1.fBalls,I l1.fTap]),.d (.list 1 (List.map I balls1))] [] fun e os=>e=.ret (.d (.tup [.agg [.list 1 (List.map eL r.1.fFrames),.list 1 (List.map I r.1.fCounts),I r.1.fStanding,.bool r.1.fDone],I r.2]))∧os=[]:=by
  refine ah (fresh:=false) al ap ⟨[2],[35],[],[],[1005,1007,1011],0,[]⟩ Tryz.func45 rfl Tryz.call45 rfl ?_
  unfold gm at h
  (conv=>whnf);intro b2;obtain⟨r4,hx4,h⟩:=ab h;(conv=>whnf);refine CallG.pure _ (jK hN hx4) ?_;(conv=>whnf);refine Br.mk (fun hc2=>?_) (fun hc2=>?_)
  ·replace h:=af hc2 h;(iterate 2 ((conv=>whnf);refine sr ?_));(conv=>whnf);cases h;exact rfl
  ·replace h:=ag hc2 h;obtain⟨r6,hx6,h⟩:=ab h;(conv=>whnf);refine CallG.pure _ (mH hN hx6) ?_;(conv=>whnf);intro b4;(conv=>whnf);refine sr ?_;obtain⟨l111,hx163,h⟩:=ab h;(conv=>whnf);refine SeqG.mk (Value×(Nat→Value)) (fun y=>[(1,.d (.list 1 (List.map I balls1))),(2,.d (.ref (.agg [I l1.fFrames,I l1.fPins,I l1.fBalls,I l1.fTap]))),(4,.ptr 4 b2 0),(7,.ptr 7 b4 0)]) (fun y=>[(4,.cells b2 [.nils 1,.nils 1,.d (I 0),.d (.bool false)]),(7,.cells b4 [.sl 36 y.1,.d (.list 1 (List.map I r6)),.d (I 0),.d (.bool false)]),(36,.rows y.1 25 3 1 y.2 none (List.map (List.map I) l111))]) (fun _=>True) ?_ ?_
   ·obtain⟨⟨ra16,rb16⟩,hx165,hx163⟩:=ab hx163;(conv=>whnf);refine CallG.pure _ (eR hN hx165) ?_;(conv=>whnf);intro lp2 rc14;refine IterG.mk _ _ ⟨[],[],[],[],[],2000,[]⟩ Tryz.func128 rfl Tryz.call128 rfl rfl ?_;obtain⟨r34,hx167,hx163⟩:=ab hx163;(conv=>whnf);refine CallG.pure _ (cE hN hx167) ?_;(conv=>whnf);intro b44;(conv=>whnf);refine sr ?_;(conv=>whnf);refine LnA.mk _ (List.length_map _) ?_;(conv=>whnf)
    refine LoopG.mk (Nat×(Int×Int×FramePlay×(List (List Int)))×Value×(Nat→Value)) (fun y=>[(0,.fn (.yield lp2) [] []),(4,.ptr 2004 b44 0),(13,.d (.list 1 (List.map I rb16))),(14,.d (I y.2.1.1)),(15,.d (I y.2.1.2.1))]) (fun y=>[(2004,.cells b44 [.d (I y.2.1.2.2.1.fLaw.fFrames),.d (I y.2.1.2.2.1.fLaw.fPins),.d (I y.2.1.2.2.1.fLaw.fBalls),.d (I y.2.1.2.2.1.fLaw.fTap),.d (I y.2.1.2.2.1.fAt.fFrame),.d (I y.2.1.2.2.1.fAt.fThrown),.d (I y.2.1.2.2.1.fAt.fStanding),.d (.bool y.2.1.2.2.1.fAt.fFresh),.d (I y.2.1.2.2.1.fAt.fNeed),.d (I y.2.1.2.2.1.fAt.fAfter.a0),.d (I y.2.1.2.2.1.fAt.fAfter.a1)]),(4,.cells b2 [.nils 1,.nils 1,.d (I 0),.d (.bool false)]),(7,.cells b4 [.sl 36 y.2.2.1,.d (.list 1 (List.map I r6)),.d (I 0),.d (.bool false)]),(1000,.loop lp2 rc14 none),(36,.rows y.2.2.1 25 3 1 y.2.2.2 none (List.map (List.map I) y.2.1.2.2.2))]) (fun y=>aj (fun rr x=>eC N rb16 rr x.1 x.2.1 x.2.2.1 x.2.2.2) y.1 y.2.1=some l111) (fun y=>y.1) (N,((rb16.length:Int),0,r34,[]),(.slice none 0 0),(fun _=>.slice none 0 0)) hx163 (Sub.eq rfl ?_ ?_) ?_
    ·(repeat ((conv=>whnf);refine nr ?_));exact trivial
    ·(iterate 2 ((conv=>whnf);refine no ?_));(conv=>whnf);refine Need.mk (OLe.cells _ _ _ (by repeat (first | exact trivial | ((conv=>whnf);refine Need.mk rfl ?_)))) ?_;(conv=>whnf);refine no ?_;(conv=>whnf);refine Need.mk (OLe.nilrows _ _ _ _ _) ?_;exact trivial
    ·rintro⟨n2,⟨v17,v18,c8,l179⟩,hd378,hs218⟩ hl2;obtain⟨n2,rfl,hl2⟩:=ar hl2;replace hl2:eC N rb16 (aj (fun rr x=>eC N rb16 rr x.1 x.2.1 x.2.2.1 x.2.2.2) n2) v17 v18 c8 l179=some l111:=hl2;rw[eC]at hl2;(conv=>whnf);refine Br.mk (fun hc114=>?_) (fun hc114=>?_)
     ·replace hl2:=af hc114 hl2;obtain⟨x68,hx293,hl2⟩:=ab hl2;(conv=>whnf);refine Side.mk rfl ⟨_,aC hx293,ak _ hx293,?_⟩;(conv=>whnf);refine sr ?_;obtain⟨r58,hx297,hl2⟩:=ab hl2;(conv=>whnf);refine CallG.pure _ (fA hN hx297) ?_;(conv=>whnf);refine Br.mk (fun hc126=>?_) (fun hc126=>?_)
      ·replace hl2:=af hc126 hl2;(conv=>whnf);refine Side.mk ⟨rfl,rfl⟩ ?_;cases hl2;(conv=>whnf);refine⟨(hd378,hs218),trivial,Sub.eq rfl ?_ ?_⟩
       ·(repeat ((conv=>whnf);refine nr ?_));exact trivial
       ·(iterate 3 ((conv=>whnf);refine no ?_));exact trivial
      ·replace hl2:=ag hc126 hl2;(conv=>whnf);refine sr ?_;obtain⟨⟨ra28,rb28,rc26⟩,hx299,hl2⟩:=ab hl2;(conv=>whnf);refine CallG.pure _ (aS hN hx299) ?_;(conv=>whnf);intro b76;(iterate 3 ((conv=>whnf);refine sr ?_));(conv=>whnf);refine Side.mk ⟨rfl,rfl,rfl⟩ ?_;(conv=>whnf);intro b80;(conv=>whnf);refine sr ?_;obtain⟨l217,hx316,hl2⟩:=ab hl2;(conv=>whnf)
       refine SeqG.mk (Value×(Nat→Value)) (fun y=>[(7,.ptr 7 b4 0),(9,.ptr 9 b80 0)]) (fun y=>[(7,.cells b4 [.sl 36 y.1,.d (.list 1 (List.map I r6)),.d (I 0),.d (.bool false)]),(9,.cells b80 [.d (I x68),.d (I c8.fAt.fFrame),.d (I rb28),.d (I ra28.fLaw.fFrames),.d (I ra28.fLaw.fPins),.d (I ra28.fLaw.fBalls),.d (I ra28.fLaw.fTap),.d (I ra28.fAt.fFrame),.d (I ra28.fAt.fThrown),.d (I ra28.fAt.fStanding),.d (.bool ra28.fAt.fFresh),.d (I ra28.fAt.fNeed),.d (I ra28.fAt.fAfter.a0),.d (I ra28.fAt.fAfter.a1)]),(4,.cells b2 [.nils 1,.nils 1,.d (I 0),.d (.bool false)]),(2004,.cells b44 [.d (I c8.fLaw.fFrames),.d (I c8.fLaw.fPins),.d (I c8.fLaw.fBalls),.d (I c8.fLaw.fTap),.d (I c8.fAt.fFrame),.d (I c8.fAt.fThrown),.d (I c8.fAt.fStanding),.d (.bool c8.fAt.fFresh),.d (I c8.fAt.fNeed),.d (I c8.fAt.fAfter.a0),.d (I c8.fAt.fAfter.a1)]),(2008,.cells b76 [.d (I ra28.fLaw.fFrames),.d (I ra28.fLaw.fPins),.d (I ra28.fLaw.fBalls),.d (I ra28.fLaw.fTap),.d (I ra28.fAt.fFrame),.d (I ra28.fAt.fThrown),.d (I ra28.fAt.fStanding),.d (.bool ra28.fAt.fFresh),.d (I ra28.fAt.fNeed),.d (I ra28.fAt.fAfter.a0),.d (I ra28.fAt.fAfter.a1)]),(36,.rows y.1 25 3 1 y.2 none (List.map (List.map I) l217))]) (fun _=>True) ?_ ?_
       ·(iterate 2 ((conv=>whnf);refine sr ?_));(conv=>whnf);refine Side.mk rfl (LnN.mk _ (List.length_map _) ?_);(conv=>whnf);refine Br.mk (fun hc134=>?_) (fun hc134=>?_)
        ·replace hx316:=af hc134 hx316;(conv=>whnf);refine sr ?_;(conv=>whnf);intro hd453;obtain⟨l218,hx317,hx316⟩:=ab hx316;(conv=>whnf);refine Side.mk ⟨rfl,rfl⟩ ?_;(conv=>whnf);refine Side.mk ⟨rfl,rfl,rfl⟩ (Need.mk (aD (f:=List.map I) hN hx317 (by decide)) (REqv.mk (List.map (List.map I) l218) (aH (List.map I) hx317) ?_));(conv=>whnf);intro hd454 hs264;(conv=>whnf);refine sr ?_;cases hx316;(conv=>whnf);refine⟨(hd454,hs264),trivial,Sub.eq rfl ?_ ?_⟩
         ·(repeat ((conv=>whnf);refine nr ?_));exact trivial
         ·(iterate 6 ((conv=>whnf);refine no ?_));exact trivial
        ·replace hx316:=ag hc134 hx316;cases hx316;(conv=>whnf);refine⟨(hd378,hs218),trivial,Sub.eq rfl ?_ ?_⟩
         ·(repeat ((conv=>whnf);refine nr ?_));exact trivial
         ·(iterate 6 ((conv=>whnf);refine no ?_));exact trivial
       ·rintro⟨hd452,hs263⟩ _;obtain⟨x72,hx318,hl2⟩:=ab hl2;obtain⟨l219,hx319,hl2⟩:=ab hl2;(conv=>whnf);refine DrawG.mk (.take 0 (.take 1 (.take 2 (.take 3 (.take 4 (.take 5 (.take 6 (.take 7 (.take 8 (.take 9 (.take 10 (.take 11 (.alt 12 [10,9,8,7,6,5,4,3,2,1,0] (.alt 13 [10,8,7,6,5,4,3,2,1,0] (.take 14 (.alt 15 [] .done .nil)) .nil) .nil))))))))))))) (by kernel_rfl) ?_;(iterate 4 ((conv=>whnf);refine sr ?_));(conv=>whnf);refine Side.mk ⟨rfl,rfl⟩ (Need.mk (aL _ hx318) ?_);(conv=>whnf);refine Side.mk ⟨rfl,rfl⟩ (Need.mk (qc _ hx318) ?_);(conv=>whnf);refine sr ?_;(conv=>whnf);refine Both.mk ?_ trivial;(conv=>whnf);intro hd457;(conv=>whnf);refine nl ?_;(conv=>whnf);refine Side.mk ⟨rfl,rfl⟩ (Need.mk (qc _ hx318) ?_);(conv=>whnf);refine nl ?_;(conv=>whnf)
        refine Side.mk ⟨rfl,rfl⟩ (Need.mk (aL _ hx318) ?_);(conv=>whnf);refine nl ?_;(conv=>whnf);refine sr ?_;(iterate 2 ((conv=>whnf);refine nl ?_));(conv=>whnf);refine sr ?_;(iterate 2 ((conv=>whnf);refine nl ?_));(conv=>whnf);refine sr ?_;(iterate 2 ((conv=>whnf);refine nl ?_));(conv=>whnf);refine sr ?_;(iterate 2 ((conv=>whnf);refine nl ?_));(conv=>whnf);refine Both.mk ?_ trivial;(conv=>whnf);refine Side.mk ⟨rfl,rfl⟩ ?_;(conv=>whnf);refine Side.mk ⟨rfl,rfl,rfl⟩ ⟨_,ak _ hx318,Need.mk (aD hN hx319 (by decide)) (Eqv.mk (List.map I l219) (aH _ hx319) ?_)⟩;(conv=>whnf);intro hd458;(conv=>whnf);refine nl ?_;(conv=>whnf);refine Side.mk ⟨rfl,rfl⟩ (Need.mk (aL _ hx318) ?_);(conv=>whnf);refine nl ?_;(conv=>whnf);refine sr ?_;(iterate 2 ((conv=>whnf);refine nl ?_));(conv=>whnf);refine sr ?_
        (iterate 2 ((conv=>whnf);refine nl ?_));(conv=>whnf);refine sr ?_;(iterate 2 ((conv=>whnf);refine nl ?_));(conv=>whnf);refine sr ?_;(iterate 2 ((conv=>whnf);refine nl ?_));(conv=>whnf);refine Side.mk ⟨rfl,rfl⟩ (Need.mk (aL _ hx318) ?_);(conv=>whnf);refine Both.mk ?_ trivial;(conv=>whnf);refine Side.mk ⟨rfl,rfl,rfl,rfl,rfl,rfl⟩ (Need.mk (qc _ hx318) (REqv.mk (List.map (List.map I) (List.set l217 (Int.toNat c8.fAt.fFrame) l219)) (j1 _ _ _ _ rfl) ?_));(conv=>whnf);intro hs266;(iterate 2 ((conv=>whnf);refine sr ?_));(conv=>whnf);refine⟨(n2,(v17,w64 (v18+1),ra28,(List.set l217 (Int.toNat c8.fAt.fFrame) l219)),hd452,hs266),hl2,Sub.eq rfl ?_ ?_,Nat.lt_succ_self _⟩
        ·(repeat ((conv=>whnf);refine nr ?_));exact trivial
        ·(iterate 5 ((conv=>whnf);refine no ?_));exact trivial
     ·replace hl2:=ag hc114 hl2;(conv=>whnf);refine Side.mk ⟨rfl,rfl⟩ ?_;cases hl2;(conv=>whnf);refine⟨(hd378,hs218),trivial,Sub.eq rfl ?_ ?_⟩
      ·(repeat ((conv=>whnf);refine nr ?_));exact trivial
      ·(iterate 3 ((conv=>whnf);refine no ?_));exact trivial
   ·rintro⟨hd230,hs134⟩ _;obtain⟨r60,hx321,h⟩:=ab h;(conv=>whnf);refine CallG.pure _ (f3 hN hx321) ?_;(conv=>whnf);intro b82;(conv=>whnf);refine sr ?_;obtain⟨⟨c11,c12⟩,hx324,h⟩:=ab h;(conv=>whnf);refine SeqG.mk Unit (fun y=>[(4,.ptr 4 b2 0),(7,.ptr 7 b4 0)]) (fun y=>[(4,.cells b2 [.nils 1,.nils 1,.d (I 0),.d (.bool false)]),(7,.cells b4 [.sl 36 hd230,.d (.list 1 (List.map I r6)),.d (I c11),.d (.bool c12)]),(36,.rows hd230 25 3 1 hs134 none (List.map (List.map I) l111))]) (fun _=>True) ?_ ?_
    ·(conv=>whnf);refine sr ?_;obtain⟨r64,hx326,hx324⟩:=ab hx324;(conv=>whnf);refine CallG.pure _ (eT hN hx326) ?_;(iterate 2 ((conv=>whnf);refine sr ?_));(conv=>whnf);refine Br.mk (fun hc136=>?_) (fun hc136=>?_)
     ·replace hx324:=af hc136 hx324;(iterate 2 ((conv=>whnf);refine sr ?_));cases hx324;(conv=>whnf);refine⟨(),trivial,Sub.eq rfl ?_ ?_⟩
      ·(repeat ((conv=>whnf);refine nr ?_));exact trivial
      ·(iterate 3 ((conv=>whnf);refine no ?_));exact trivial
     ·replace hx324:=ag hc136 hx324;cases hx324;(conv=>whnf);refine⟨(),trivial,Sub.eq rfl ?_ ?_⟩
      ·(repeat ((conv=>whnf);refine nr ?_));exact trivial
      ·(iterate 3 ((conv=>whnf);refine no ?_));exact trivial
    ·rintro _ _;(iterate 3 ((conv=>whnf);refine sr ?_));(conv=>whnf);refine Side.mk rfl (Eqv.mk (List.map eL l111) (uh I (D.list 1) _) ?_);(conv=>whnf);cases h;exact rfl
def oF (bo1:Nat):(DeskRefusal×DeskWork)⊕DeskWork→AE→List (Nat×Ob)→Prop
  | .inl r=>fun ae os=>∃y:Unit,True∧ae=.pan (.ifc 260 (.agg [I r.1.fE]))∧os=[kW bo1 r.2]
  | .inr r=>fun ae os=>∃y:Unit,True∧ae=.ret (.d (.tup []))∧os=[kW bo1 r]
theorem kb{N:Nat}(hN:N≤1073741824){n1:List Int}{c1:DeskWork}{bo1:Nat}{r:(DeskRefusal×DeskWork)⊕DeskWork}(h:iQ N n1 c1=some r) :
    ACalls Tryz.prog 234 [.ptr 540003 bo1 0,.d (.list 1 (List.map I n1))] [kW bo1 c1] (oF bo1 r):=by
  refine bt (fresh:=false) al ap ⟨[],[],[],[],[2],550000,[]⟩ Tryz.func234 rfl Tryz.call234 rfl ?_
  unfold iQ at h
  obtain⟨x2,hx3,h⟩:=ab h;(conv=>whnf);refine Side.mk rfl ⟨_,aC hx3,ak _ hx3,?_⟩;obtain⟨z2,hx4,h⟩:=ab h;rcases z2 with r3 | r4
  ·(conv=>whnf);refine CallG.panic (fy (bo1:=bo1) hN hx4) id [] (fun y=>[kW bo1 c1]) (ac _) (ai trivial) rfl (ai trivial) trivial (fun _=>rfl) ?_;rintro _ _;(conv=>whnf);cases h;exact⟨_,⟨(),trivial,rfl,rfl⟩,aA (ren:=id) (ai trivial)⟩
  ·(conv=>whnf);refine CallG.own (fy (bo1:=bo1) hN hx4) id [] _ (fun y=>[kW bo1 c1]) (ac _) (ai trivial) rfl (ai trivial) trivial (fun _=>AV.le_refl _) (fun _=>rfl) ?_;rintro _ _;(conv=>whnf);intro b2;(conv=>whnf);refine sr ?_;obtain⟨x4,hx7,h⟩:=ab h;(conv=>whnf);refine DrawG.mk (.take 0 (.take 1 (.take 2 (.take 3 (.take 4 (.alt 5 [3,2,0] (.take 6 (.alt 7 [] .done .nil)) .nil)))))) (by kernel_rfl) ?_;(conv=>whnf);refine sr ?_;(conv=>whnf)
   refine Side.mk rfl ⟨_,aC hx7,ak _ hx7,?_⟩;(conv=>whnf);refine Both.mk ?_ trivial;obtain⟨r6,hx8,h⟩:=ab h;(conv=>whnf);refine CallG.pure _ (lW hN hx8) ?_;(conv=>whnf);refine Side.mk rfl ⟨_,aC hx7,ak _ hx7,?_⟩;(iterate 3 ((conv=>whnf);refine nl ?_));(conv=>whnf);refine Both.mk ?_ trivial;(conv=>whnf);refine sr ?_;obtain⟨e2,hx11,h⟩:=ab h;(conv=>whnf)
   refine SeqG.mk Unit (fun y=>[(0,.ptr 540003 bo1 0),(1,.d (.list 1 (List.map I n1))),(4,.ptr 550004 b2 0),(6,.d (I e2))]) (fun y=>[kW bo1 c1,(550004,.cells b2 [.d (I r4.fBowler),.d (.list 1 (List.map I r6))])]) (fun _=>True) ?_ ?_
   ·obtain⟨r8,hx12,hx11⟩:=ab hx11;obtain⟨⟨ra2,rb2⟩,hx13,hx11⟩:=ab hx11;(conv=>whnf);refine DrawG.mk (.take 1 (.take 2 (.alt 0 [2,1] (.alt 3 [1] (.take 4 (.take 5 (.take 6 (.alt 7 [6,5,4,1] (.alt 8 [6] (.take 9 .done) .nil) .nil)))) (.alt 7 [2,1] (.alt 3 [1] (.take 4 (.take 5 (.take 6 (.alt 8 [6] (.take 9 .done) .nil)))) .nil) .nil)) (.alt 7 [2,1] (.alt 0 [2,1] (.alt 3 [1] (.take 4 (.take 5 (.take 6 (.alt 8 [6] (.take 9 .done) .nil)))) .nil) .nil) .nil)))) (by kernel_rfl) ?_;(conv=>whnf);refine sr ?_;(conv=>whnf);refine Both.mk ?_ ?_
    ·(conv=>whnf);refine CallG.pure _ (fP hN hx12) ?_;(conv=>whnf);refine sr ?_;(iterate 2 ((conv=>whnf);refine nl ?_));(conv=>whnf);refine Both.mk ?_ ?_
     ·(conv=>whnf);refine CallG.pure _ (cm hN hx13) ?_;(conv=>whnf);refine nl ?_;(conv=>whnf);refine Both.mk ?_ trivial;(conv=>whnf);intro b8;(iterate 4 ((conv=>whnf);refine nl ?_));(conv=>whnf);refine Both.mk ?_ trivial;(conv=>whnf);refine sr ?_;(conv=>whnf);refine nl ?_;cases hx11;(conv=>whnf);refine⟨(),trivial,Sub.eq rfl ?_ ?_⟩
      ·(repeat ((conv=>whnf);refine nr ?_));exact trivial
      ·(iterate 2 ((conv=>whnf);refine no ?_));exact trivial
     ·(conv=>whnf);refine Both.mk ?_ trivial;(conv=>whnf);intro b9;(conv=>whnf);refine sr ?_;(iterate 2 ((conv=>whnf);refine nl ?_));(conv=>whnf);refine Both.mk ?_ trivial;(conv=>whnf);refine CallG.pure _ (cm hN hx13) ?_;(conv=>whnf);refine nl ?_;(conv=>whnf);refine Both.mk ?_ trivial;(conv=>whnf);refine sr ?_;(conv=>whnf);refine nl ?_;cases hx11;(conv=>whnf);refine⟨(),trivial,Sub.eq rfl ?_ ?_⟩
      ·(repeat ((conv=>whnf);refine nr ?_));exact trivial
      ·(iterate 2 ((conv=>whnf);refine no ?_));exact trivial
    ·(conv=>whnf);refine Both.mk ?_ trivial;(conv=>whnf);intro b10;(conv=>whnf);refine sr ?_;(iterate 2 ((conv=>whnf);refine nl ?_));(conv=>whnf);refine Both.mk ?_ trivial;(conv=>whnf);refine CallG.pure _ (fP hN hx12) ?_;(conv=>whnf);refine sr ?_;(iterate 2 ((conv=>whnf);refine nl ?_));(conv=>whnf);refine Both.mk ?_ trivial;(conv=>whnf);refine CallG.pure _ (cm hN hx13) ?_;(conv=>whnf);refine nl ?_;(conv=>whnf);refine Both.mk ?_ trivial;(conv=>whnf);refine sr ?_;(conv=>whnf);refine nl ?_;cases hx11;(conv=>whnf);refine⟨(),trivial,Sub.eq rfl ?_ ?_⟩
     ·(repeat ((conv=>whnf);refine nr ?_));exact trivial
     ·(iterate 2 ((conv=>whnf);refine no ?_));exact trivial
   ·rintro _ _;obtain⟨z4,hx15,h⟩:=ab h;rcases z4 with r10 | _
    ·(conv=>whnf)
     refine CallG.panic (aI hN hx15) id [kW bo1 c1,(550004,.cells b2 [.d (I r4.fBowler),.d (.list 1 (List.map I r6))])] (fun y=>[kW bo1 c1,(550004,.cells b2 [.d (I r4.fBowler),.d (.list 1 (List.map I r6))])]) (ac _) trivial rfl trivial (ai (ai trivial)) (fun _=>rfl) ?_
     rintro _ _;(conv=>whnf);cases h;exact⟨_,⟨(),trivial,rfl,rfl⟩,aA (ren:=id) (ai trivial)⟩
    ·(conv=>whnf)
     refine CallG.own (aI hN hx15) id [kW bo1 c1,(550004,.cells b2 [.d (I r4.fBowler),.d (.list 1 (List.map I r6))])] _ (fun y=>[kW bo1 c1,(550004,.cells b2 [.d (I r4.fBowler),.d (.list 1 (List.map I r6))])]) (ac _) trivial rfl trivial (ai (ai trivial)) (fun _=>AV.le_refl _) (fun _=>rfl) ?_
     rintro _ _;obtain⟨x5,hx16,h⟩:=ab h;(conv=>whnf);refine DrawG.mk (.take 0 (.take 1 (.take 2 (.take 3 (.take 4 (.alt 5 [2,1] .done .nil)))))) (by kernel_rfl) ?_;(conv=>whnf);refine Side.mk rfl ⟨_,aC hx16,ak _ hx16,?_⟩;(conv=>whnf);refine sr ?_;(conv=>whnf);refine Both.mk ?_ trivial;obtain⟨r11,hx17,h⟩:=ab h;(conv=>whnf)
     refine CallG.own (ld (bo1:=bo1) hN hx17) id [(550004,.cells b2 [.d (I r4.fBowler),.d (.list 1 (List.map I r6))])] _ (fun y=>[kW bo1 r11,(550004,.cells b2 [.d (I r4.fBowler),.d (.list 1 (List.map I r6))])]) (ac _) (ai trivial) rfl (ai trivial) (ai trivial) (fun _=>AV.le_refl _) (fun _=>rfl) ?_;rintro _ _;(conv=>whnf);refine Side.mk rfl ⟨_,aC hx16,ak _ hx16,?_⟩;(iterate 2 ((conv=>whnf);refine nl ?_));(conv=>whnf);cases h
     exact⟨_,⟨(),trivial,rfl,rfl⟩,aA (ren:=id) (ai trivial)⟩
theorem oG{N:Nat}(hN:N≤1073741824){lane1:Int}{x1:DeskLane}{c1:List Int}{c2:List DeskLane}{c3:List RateSheet}{c4:List Int}{c5:List LadderResult}{l1:List (List Int)}{bo1:Nat}{ho1:Value}{r:(List Int)×(List DeskLane)×(List (List Int))×(List RateSheet)×(List Int)×(List LadderResult)×(List (List Int))}(h:iR N lane1 x1 c1 c2 c3 c4 c5 l1=some r) :
    ACalls Tryz.prog 275 [.ptr 540003 bo1 0,.d (I lane1),.d (.agg [I x1.fBowler,.list 1 (List.map I x1.fBalls)])] [(540003,.cells bo1 [.d (.list 1 (List.map I c1)),.d (.list 2 (List.map DeskLane.enc c2)),.sl 550028 ho1,.d (.list 6 (List.map RateSheet.enc c3)),.d (.list 1 (List.map I c4)),.d (.list 3 (List.map LadderResult.enc c5))]),(550028,.arr ho1 25 1 false (List.map eL l1))] fun ae os=>∃y:Value,True∧ae=.ret (.d (.tup []))∧os=[(540003,.cells bo1 [.d (.list 1 (List.map I r.1)),.d (.list 2 (List.map DeskLane.enc r.2.1)),.d (.list 1 (List.map eL r.2.2.1)),.d (.list 6 (List.map RateSheet.enc r.2.2.2.1)),.d (.list 1 (List.map I r.2.2.2.2.1)),.d (.list 3 (List.map LadderResult.enc r.2.2.2.2.2.1))]),(550028,.arr y 25 1 true (List.map eL r.2.2.2.2.2.2))]:=by
  refine aJ (fresh:=false) al ap ⟨[5],[],[100540003],[],[],560000,[]⟩ Tryz.func275 rfl Tryz.call275 rfl ?_
  unfold iR at h
  (conv=>whnf);refine sr ?_;obtain⟨r2,hx2,h⟩:=ab h;(conv=>whnf);refine CallG.fresh 560012 (jJ hN hx2) ?_;intro hd2;(conv=>whnf);refine sr ?_;obtain⟨x2,hx3,h⟩:=ab h;(conv=>whnf);refine DrawG.mk (.take 0 (.take 1 (.take 2 (.take 3 (.take 4 (.take 5 (.take 6 (.take 7 (.alt 8 [] .done .nil))))))))) (by kernel_rfl) ?_;(conv=>whnf);refine sr ?_;(conv=>whnf);refine Side.mk ⟨rfl,rfl⟩ (Need.mk (aL _ hx3) ?_);(conv=>whnf);refine Both.mk ?_ trivial;(conv=>whnf);refine Side.mk ⟨rfl,rfl⟩ ⟨_,Int.natCast_nonneg _,bX _ hx3,?_⟩;(conv=>whnf);refine Eqv.mk (List.map DeskLane.enc (List.set r2 (Int.toNat lane1) x1)) (j1 _ _ _ _ rfl) ?_;(iterate 3 ((conv=>whnf);refine sr ?_));(conv=>whnf);cases h;exact⟨ho1,trivial,rfl,aA (ren:=id) (ai (ai trivial))⟩
def oa (bo1:Nat):(DeskRefusal×DeskWork)⊕DeskWork→AE→List (Nat×Ob)→Prop
  | .inl r=>fun ae os=>∃y:Unit,True∧ae=.pan (.ifc 260 (.agg [I r.1.fE]))∧os=[kW bo1 r.2]
  | .inr r=>fun ae os=>∃y:Unit,True∧ae=.ret (.d (.tup []))∧os=[kW bo1 r]
theorem jL{N:Nat}(hN:N≤1073741824){n1:List Int}{c1:DeskWork}{bo1:Nat}{r:(DeskRefusal×DeskWork)⊕DeskWork}(h:g8 N n1 c1=some r) :
    ACalls Tryz.prog 236 [.ptr 540003 bo1 0,.d (.list 1 (List.map I n1))] [kW bo1 c1] (oa bo1 r):=by
  refine bt (fresh:=false) al ap ⟨[],[],[100540003],[],[1],550000,[]⟩ Tryz.func236 rfl Tryz.call236 rfl ?_
  unfold g8 at h
  obtain⟨x2,hx3,h⟩:=ab h;(conv=>whnf);refine Side.mk rfl ⟨_,aC hx3,ak _ hx3,?_⟩;obtain⟨z2,hx4,h⟩:=ab h;rcases z2 with r3 | r4
  ·(conv=>whnf);refine CallG.panic (fy (bo1:=bo1) hN hx4) id [] (fun y=>[kW bo1 c1]) (ac _) (ai trivial) rfl (ai trivial) trivial (fun _=>rfl) ?_;rintro _ _;(conv=>whnf);cases h;exact⟨_,⟨(),trivial,rfl,rfl⟩,aA (ren:=id) (ai trivial)⟩
  ·(conv=>whnf);refine CallG.own (fy (bo1:=bo1) hN hx4) id [] _ (fun y=>[kW bo1 c1]) (ac _) (ai trivial) rfl (ai trivial) trivial (fun _=>AV.le_refl _) (fun _=>rfl) ?_;rintro _ _;(conv=>whnf);intro b2;(conv=>whnf);refine sr ?_;obtain⟨c3,hx7,h⟩:=ab h;(conv=>whnf)
   refine SeqG.mk Nat (fun y=>[(0,.ptr 540003 bo1 0),(1,.d (.list 1 (List.map I n1))),(4,.ptr 550004 b2 0),(5,.ptr 550005 y 0)]) (fun y=>[kW bo1 c1,(550004,.cells b2 [.d (I r4.fBowler),.d (.list 1 (List.map I r4.fBalls))]),(550005,.cells y [.d (.list 1 (List.map eL c3.fFrames)),.d (.list 1 (List.map I c3.fCounts)),.d (I c3.fStanding),.d (.bool c3.fDone)])]) (fun _=>True) ?_ ?_
   ·obtain⟨r6,hx8,hx7⟩:=ab hx7;obtain⟨⟨ra2,rb2⟩,hx9,hx7⟩:=ab hx7;(conv=>whnf);refine DrawG.mk (.take 1 (.take 2 (.alt 0 [2,1] (.alt 3 [1] (.take 4 (.take 5 (.take 6 (.alt 7 [6,5,4,1] (.alt 8 [6] (.take 9 .done) .nil) .nil)))) (.alt 7 [2,1] (.alt 3 [1] (.take 4 (.take 5 (.take 6 (.alt 8 [6] (.take 9 .done) .nil)))) .nil) .nil)) (.alt 7 [2,1] (.alt 0 [2,1] (.alt 3 [1] (.take 4 (.take 5 (.take 6 (.alt 8 [6] (.take 9 .done) .nil)))) .nil) .nil) .nil)))) (by kernel_rfl) ?_;(conv=>whnf);refine sr ?_;(conv=>whnf);refine Both.mk ?_ ?_
    ·(conv=>whnf);refine CallG.pure _ (fP hN hx8) ?_;(conv=>whnf);refine sr ?_;(iterate 2 ((conv=>whnf);refine nl ?_));(conv=>whnf);refine Both.mk ?_ ?_
     ·(conv=>whnf);refine CallG.pure _ (cm hN hx9) ?_;(conv=>whnf);refine nl ?_;(conv=>whnf);refine Both.mk ?_ trivial;(conv=>whnf);intro b8;(iterate 4 ((conv=>whnf);refine nl ?_));(conv=>whnf);refine Both.mk ?_ trivial;(conv=>whnf);refine sr ?_;(conv=>whnf);refine nl ?_;cases hx7;(conv=>whnf);refine⟨b8,trivial,Sub.eq rfl ?_ ?_⟩
      ·(repeat ((conv=>whnf);refine nr ?_));exact trivial
      ·(iterate 3 ((conv=>whnf);refine no ?_));exact trivial
     ·(conv=>whnf);refine Both.mk ?_ trivial;(conv=>whnf);intro b9;(conv=>whnf);refine sr ?_;(iterate 2 ((conv=>whnf);refine nl ?_));(conv=>whnf);refine Both.mk ?_ trivial;(conv=>whnf);refine CallG.pure _ (cm hN hx9) ?_;(conv=>whnf);refine nl ?_;(conv=>whnf);refine Both.mk ?_ trivial;(conv=>whnf);refine sr ?_;(conv=>whnf);refine nl ?_;cases hx7;(conv=>whnf);refine⟨b9,trivial,Sub.eq rfl ?_ ?_⟩
      ·(repeat ((conv=>whnf);refine nr ?_));exact trivial
      ·(iterate 3 ((conv=>whnf);refine no ?_));exact trivial
    ·(conv=>whnf);refine Both.mk ?_ trivial;(conv=>whnf);intro b10;(conv=>whnf);refine sr ?_;(iterate 2 ((conv=>whnf);refine nl ?_));(conv=>whnf);refine Both.mk ?_ trivial;(conv=>whnf);refine CallG.pure _ (fP hN hx8) ?_;(conv=>whnf);refine sr ?_;(iterate 2 ((conv=>whnf);refine nl ?_));(conv=>whnf);refine Both.mk ?_ trivial;(conv=>whnf);refine CallG.pure _ (cm hN hx9) ?_;(conv=>whnf);refine nl ?_;(conv=>whnf);refine Both.mk ?_ trivial;(conv=>whnf);refine sr ?_;(conv=>whnf);refine nl ?_;cases hx7;(conv=>whnf);refine⟨b10,trivial,Sub.eq rfl ?_ ?_⟩
     ·(repeat ((conv=>whnf);refine nr ?_));exact trivial
     ·(iterate 3 ((conv=>whnf);refine no ?_));exact trivial
   ·rintro bb2 _;(conv=>whnf);refine sr ?_;obtain⟨z4,hx11,h⟩:=ab h;rcases z4 with r8 | _
    ·(conv=>whnf)
     refine CallG.panic (aI hN hx11) id [kW bo1 c1,(550004,.cells b2 [.d (I r4.fBowler),.d (.list 1 (List.map I r4.fBalls))]),(550005,.cells bb2 [.d (.list 1 (List.map eL c3.fFrames)),.d (.list 1 (List.map I c3.fCounts)),.d (I c3.fStanding),.d (.bool c3.fDone)])] (fun y=>[kW bo1 c1,(550004,.cells b2 [.d (I r4.fBowler),.d (.list 1 (List.map I r4.fBalls))]),(550005,.cells bb2 [.d (.list 1 (List.map eL c3.fFrames)),.d (.list 1 (List.map I c3.fCounts)),.d (I c3.fStanding),.d (.bool c3.fDone)])]) (ac _) trivial rfl trivial (ai (ai (ai trivial))) (fun _=>rfl) ?_
     rintro _ _;(conv=>whnf);cases h;exact⟨_,⟨(),trivial,rfl,rfl⟩,aA (ren:=id) (ai trivial)⟩
    ·(conv=>whnf)
     refine CallG.own (aI hN hx11) id [kW bo1 c1,(550004,.cells b2 [.d (I r4.fBowler),.d (.list 1 (List.map I r4.fBalls))]),(550005,.cells bb2 [.d (.list 1 (List.map eL c3.fFrames)),.d (.list 1 (List.map I c3.fCounts)),.d (I c3.fStanding),.d (.bool c3.fDone)])] _ (fun y=>[kW bo1 c1,(550004,.cells b2 [.d (I r4.fBowler),.d (.list 1 (List.map I r4.fBalls))]),(550005,.cells bb2 [.d (.list 1 (List.map eL c3.fFrames)),.d (.list 1 (List.map I c3.fCounts)),.d (I c3.fStanding),.d (.bool c3.fDone)])]) (ac _) trivial rfl trivial (ai (ai (ai trivial))) (fun _=>AV.le_refl _) (fun _=>rfl) ?_
     rintro _ _;(conv=>whnf);refine sr ?_;obtain⟨r10,hx13,h⟩:=ab h;(conv=>whnf);refine CallG.fresh 550028 (j9 hN hx13) ?_;intro hd2;(conv=>whnf);refine sr ?_;obtain⟨x5,hx17,h⟩:=ab h;obtain⟨x6,hx18,h⟩:=ab h;(conv=>whnf);refine DrawG.mk (.take 0 (.take 1 (.take 2 (.take 3 (.take 4 (.take 5 (.take 6 (.take 7 (.take 8 (.take 9 (.take 10 (.take 11 (.take 12 (.take 13 (.take 14 (.take 15 (.take 16 (.take 17 (.take 18 (.take 19 (.take 20 (.take 21 (.take 22 (.take 23 (.alt 24 [22,21,20,19,18,17,16,14,13,12,11,10,9,8,7,6,5,4,3,2,1,0] (.take 25 (.alt 26 [] .done .nil)) .nil))))))))))))))))))))))))) (by kernel_rfl) ?_;(iterate 4 ((conv=>whnf);refine sr ?_));(conv=>whnf);refine Side.mk ⟨rfl,rfl⟩ (Need.mk (aL _ hx17) ?_);(conv=>whnf)
     refine Side.mk ⟨rfl,rfl⟩ ⟨_,Int.natCast_nonneg _,bX _ hx17,?_⟩;(iterate 2 ((conv=>whnf);refine sr ?_));(conv=>whnf);refine LnA.mk _ (List.length_map _) ?_;(conv=>whnf);refine Side.mk rfl ⟨_,aC hx18,ak _ hx18,?_⟩;(conv=>whnf);refine Both.mk ?_ trivial;obtain⟨r12,hx19,h⟩:=ab h;(conv=>whnf);refine CallG.pure _ (lW hN hx19) ?_;(conv=>whnf);refine Side.mk rfl ⟨_,aC hx18,ak _ hx18,?_⟩;(iterate 2 ((conv=>whnf);refine nl ?_));(conv=>whnf);refine LnA.mk _ (List.length_map _) ?_;(conv=>whnf);refine nl ?_;(conv=>whnf);refine sr ?_;(iterate 2 ((conv=>whnf);refine nl ?_));(conv=>whnf);refine sr ?_;(iterate 2 ((conv=>whnf);refine nl ?_));(conv=>whnf);refine Side.mk ⟨rfl,rfl⟩ (Need.mk (aL _ hx17) ?_);(conv=>whnf);refine nl ?_;(conv=>whnf);refine sr ?_;(conv=>whnf);refine nl ?_;(conv=>whnf)
     refine nl ?_;(conv=>whnf);refine sr ?_;(iterate 5 ((conv=>whnf);refine nl ?_));(conv=>whnf);refine sr ?_;(iterate 2 ((conv=>whnf);refine nl ?_));(conv=>whnf);refine sr ?_;(iterate 5 ((conv=>whnf);refine nl ?_));(conv=>whnf);refine Side.mk ⟨rfl,rfl⟩ (Need.mk (aL _ hx17) ?_);(conv=>whnf);refine Both.mk ?_ trivial;(conv=>whnf);refine Side.mk ⟨rfl,rfl⟩ ⟨_,Int.natCast_nonneg _,bX _ hx17,?_⟩;(conv=>whnf);refine Eqv.mk (List.map eL (List.set r10 (Int.toNat r4.fBowler) r12)) (j1 _ _ _ _ rfl) ?_;obtain⟨x7,hx20,h⟩:=ab h;(conv=>whnf);refine Side.mk rfl ⟨_,aC hx20,ak _ hx20,?_⟩
     obtain⟨⟨ra3,rb3,rc1,rd1,re1,rf1,rg1⟩,hx21,h⟩:=ab h;(conv=>whnf)
     refine CallG.own (oG (bo1:=bo1) (ho1:=hd2) hN hx21) id [(550004,.cells b2 [.d (I r4.fBowler),.d (.list 1 (List.map I r4.fBalls))]),(550005,.cells bb2 [.d (.list 1 (List.map eL c3.fFrames)),.d (.list 1 (List.map I c3.fCounts)),.d (I c3.fStanding),.d (.bool c3.fDone)])] _ (fun y=>[(540003,.cells bo1 [.d (.list 1 (List.map I ra3)),.d (.list 2 (List.map DeskLane.enc rb3)),.d (.list 1 (List.map eL rc1)),.d (.list 6 (List.map RateSheet.enc rd1)),.d (.list 1 (List.map I re1)),.d (.list 3 (List.map LadderResult.enc rf1))]),(550028,.arr y 25 1 true (List.map eL rg1)),(550004,.cells b2 [.d (I r4.fBowler),.d (.list 1 (List.map I r4.fBalls))]),(550005,.cells bb2 [.d (.list 1 (List.map eL c3.fFrames)),.d (.list 1 (List.map I c3.fCounts)),.d (I c3.fStanding),.d (.bool c3.fDone)])]) (ac _) (ai (ai trivial)) rfl (ai (ai trivial)) (ai (ai trivial)) (fun _=>AV.le_refl _) (fun _=>rfl) ?_
     rintro hd3 _;(conv=>whnf);refine sr ?_;(conv=>whnf);cases h;exact⟨_,⟨(),trivial,rfl,rfl⟩,aA (ren:=id) (ai trivial)⟩
def oH (bo1:Nat):(DeskRefusal×DeskWork)⊕DeskWork→AE→List (Nat×Ob)→Prop
  | .inl r=>fun ae os=>∃y:Unit,True∧ae=.pan (.ifc 260 (.agg [I r.1.fE]))∧os=[kW bo1 r.2]
  | .inr r=>fun ae os=>∃y:Unit,True∧ae=.ret (.d (.tup []))∧os=[kW bo1 r]
theorem kc{N:Nat}(hN:N≤1073741824){s1:List UInt8}{c1:DeskWork}{bo1:Nat}{r:(DeskRefusal×DeskWork)⊕DeskWork}(h:iS N s1 c1=some r) :
    ACalls Tryz.prog 151 [.ptr 540003 bo1 0,.d (.str s1)] [kW bo1 c1] (oH bo1 r):=by
  refine bt (fresh:=false) al ap ⟨[],[],[],[],[1,2,1004],550000,[]⟩ Tryz.func151 rfl Tryz.call151 rfl ?_
  unfold iS at h
  obtain⟨r2,hx2,h⟩:=ab h;(conv=>whnf);refine CallG.pure _ (xm hN hx2) ?_;obtain⟨⟨is3,c3⟩,hx6,h⟩:=ab h;(conv=>whnf);refine SeqG.mk Nat (fun y=>[(0,.ptr 540003 bo1 0),(4,.d (.list 1 (List.map D.str r2))),(5,.ptr 550005 y 0),(6,.d (.bool is3))]) (fun y=>[kW bo1 c1,(550005,.cells y [.d (I c3.fMany),.d (az c3.fDo)])]) (fun _=>True) ?_ ?_
  ·obtain⟨x2,hx7,hx6⟩:=ab hx6;obtain⟨r4,hx8,hx6⟩:=ab hx6;obtain⟨⟨v2,is4⟩,hx9,hx6⟩:=ab hx6;(conv=>whnf);refine DrawG.mk (.take 1 (.take 2 (.take 3 (.alt 0 [3,2,1] (.alt 4 [2,1] (.take 5 (.take 6 (.take 7 (.alt 8 [7,6,5,2,1] (.alt 9 [7] (.take 10 .done) .nil) .nil)))) (.alt 8 [3,2,1] (.alt 4 [2,1] (.take 5 (.take 6 (.take 7 (.alt 9 [7] (.take 10 .done) .nil)))) .nil) .nil)) (.alt 8 [3,2,1] (.alt 0 [3,2,1] (.alt 4 [2,1] (.take 5 (.take 6 (.take 7 (.alt 9 [7] (.take 10 .done) .nil)))) .nil) .nil) .nil))))) (by kernel_rfl) ?_;(conv=>whnf);refine Side.mk rfl ⟨_,aC hx7,ak _ hx7,?_⟩;(conv=>whnf);refine Both.mk ?_ ?_
   ·(conv=>whnf)
    refine CallG.own (pj hN hx8) id [kW bo1 c1] _ (fun y=>[(945001,.map y (List.map (fun p=>(.str p.1,.agg [I p.2.fMany,az p.2.fDo])) r4)),kW bo1 c1]) (ac _) trivial rfl trivial (ai trivial) (fun _=>AV.le_refl _) (fun _=>rfl) ?_
    rintro b10 _;(conv=>whnf);refine nl ?_;(conv=>whnf);refine Side.mk rfl ⟨_,aC hx7,ak _ hx7,?_⟩;(iterate 2 ((conv=>whnf);refine nl ?_));(conv=>whnf);refine Both.mk ?_ ?_
    ·(conv=>whnf);refine Side.mk rfl (Need.mk rfl (Need.mk (bd (m:=r4) (fun x:List UInt8=>.str x) (fun x:DeskAct=>.agg [I x.fMany,az x.fDo]) fun _=>rfl) (LkG.mk (.agg [I v2.fMany,az v2.fDo]) is4 (ji (eK:=(fun x:List UInt8=>.str x)) (eV:=(fun x:DeskAct=>.agg [I x.fMany,az x.fDo])) cM hx9) (jj (eK:=(fun x:List UInt8=>.str x)) (eV:=(fun x:DeskAct=>.agg [I x.fMany,az x.fDo])) cM hx9) ?_)));(conv=>whnf);refine Side.mk rfl ⟨_,aC hx7,ak _ hx7,?_⟩;(iterate 2 ((conv=>whnf);refine nl ?_));(conv=>whnf);refine Both.mk ?_ trivial;(conv=>whnf);intro b11;(iterate 3 ((conv=>whnf);refine nl ?_));(conv=>whnf);refine Side.mk rfl ⟨_,aC hx7,ak _ hx7,?_⟩;(iterate 2 ((conv=>whnf);refine nl ?_));(conv=>whnf);refine Both.mk ?_ trivial;(conv=>whnf)
     refine sr ?_;(conv=>whnf);refine nl ?_;cases hx6;(conv=>whnf);refine⟨b11,trivial,Sub.eq rfl ?_ ?_⟩
     ·(repeat ((conv=>whnf);refine nr ?_));exact trivial
     ·(iterate 2 ((conv=>whnf);refine no ?_));exact trivial
    ·(conv=>whnf);refine Both.mk ?_ trivial;(conv=>whnf);intro b12;(conv=>whnf);refine nl ?_;(conv=>whnf);refine Side.mk rfl ⟨_,aC hx7,ak _ hx7,?_⟩;(iterate 2 ((conv=>whnf);refine nl ?_));(conv=>whnf);refine Both.mk ?_ trivial;(conv=>whnf);refine Side.mk rfl (Need.mk rfl (Need.mk (bd (m:=r4) (fun x:List UInt8=>.str x) (fun x:DeskAct=>.agg [I x.fMany,az x.fDo]) fun _=>rfl) (LkG.mk (.agg [I v2.fMany,az v2.fDo]) is4 (ji (eK:=(fun x:List UInt8=>.str x)) (eV:=(fun x:DeskAct=>.agg [I x.fMany,az x.fDo])) cM hx9) (jj (eK:=(fun x:List UInt8=>.str x)) (eV:=(fun x:DeskAct=>.agg [I x.fMany,az x.fDo])) cM hx9) ?_)));(conv=>whnf);refine Side.mk rfl ⟨_,aC hx7,ak _ hx7,?_⟩;(iterate 2 ((conv=>whnf);refine nl ?_));(conv=>whnf);refine Both.mk ?_ trivial;(conv=>whnf);refine sr ?_
     (conv=>whnf);refine nl ?_;cases hx6;(conv=>whnf);refine⟨b12,trivial,Sub.eq rfl ?_ ?_⟩
     ·(repeat ((conv=>whnf);refine nr ?_));exact trivial
     ·(iterate 2 ((conv=>whnf);refine no ?_));exact trivial
   ·(conv=>whnf);refine Both.mk ?_ trivial;(conv=>whnf);intro b13;(conv=>whnf);refine nl ?_;(conv=>whnf);refine Side.mk rfl ⟨_,aC hx7,ak _ hx7,?_⟩;(iterate 2 ((conv=>whnf);refine nl ?_));(conv=>whnf);refine Both.mk ?_ trivial;(conv=>whnf)
    refine CallG.own (pj hN hx8) id [kW bo1 c1,(550005,.cells b13 [.d (I 0),.d .nilfn])] _ (fun y=>[(945001,.map y (List.map (fun p=>(.str p.1,.agg [I p.2.fMany,az p.2.fDo])) r4)),kW bo1 c1,(550005,.cells b13 [.d (I 0),.d .nilfn])]) (ac _) trivial rfl trivial (ai (ai trivial)) (fun _=>AV.le_refl _) (fun _=>rfl) ?_
    rintro b14 _;(conv=>whnf);refine nl ?_;(conv=>whnf);refine Side.mk rfl ⟨_,aC hx7,ak _ hx7,?_⟩;(iterate 2 ((conv=>whnf);refine nl ?_));(conv=>whnf);refine Both.mk ?_ trivial;(conv=>whnf);refine Side.mk rfl (Need.mk rfl (Need.mk (bd (m:=r4) (fun x:List UInt8=>.str x) (fun x:DeskAct=>.agg [I x.fMany,az x.fDo]) fun _=>rfl) (LkG.mk (.agg [I v2.fMany,az v2.fDo]) is4 (ji (eK:=(fun x:List UInt8=>.str x)) (eV:=(fun x:DeskAct=>.agg [I x.fMany,az x.fDo])) cM hx9) (jj (eK:=(fun x:List UInt8=>.str x)) (eV:=(fun x:DeskAct=>.agg [I x.fMany,az x.fDo])) cM hx9) ?_)));(conv=>whnf);refine Side.mk rfl ⟨_,aC hx7,ak _ hx7,?_⟩;(iterate 2 ((conv=>whnf);refine nl ?_));(conv=>whnf);refine Both.mk ?_ trivial;(conv=>whnf);refine sr ?_;(conv=>whnf);refine nl ?_;cases hx6;(conv=>whnf)
    refine⟨b13,trivial,Sub.eq rfl ?_ ?_⟩
    ·(repeat ((conv=>whnf);refine nr ?_));exact trivial
    ·(iterate 2 ((conv=>whnf);refine no ?_));exact trivial
  ·rintro bb2 _;(conv=>whnf);refine SeqG.mk Unit (fun y=>[(0,.ptr 540003 bo1 0),(4,.d (.list 1 (List.map D.str r2))),(5,.ptr 550005 bb2 0)]) (fun y=>[kW bo1 c1,(550005,.cells bb2 [.d (I c3.fMany),.d (az c3.fDo)])]) (fun y=>dQ N c1 r2 c3=some r) ?_ ?_
   ·(conv=>whnf);refine Br.mk (fun hc23=>?_) (fun hc23=>?_)
    ·replace h:=af hc23 h;(conv=>whnf);refine LnA.mk _ (List.length_map _) ?_;(conv=>whnf);refine sr ?_;obtain⟨z19,hx68,h⟩:=ab h;rcases z19 with r35 | _
     ·(conv=>whnf)
      refine CallG.panic (aI hN hx68) id [kW bo1 c1,(550005,.cells bb2 [.d (I c3.fMany),.d (az c3.fDo)])] (fun y=>[kW bo1 c1,(550005,.cells bb2 [.d (I c3.fMany),.d (az c3.fDo)])]) (ac _) trivial rfl trivial (ai (ai trivial)) (fun _=>rfl) ?_
      rintro _ _;(conv=>whnf);cases h;exact⟨_,⟨(),trivial,rfl,rfl⟩,aA (ren:=id) (ai trivial)⟩
     ·(conv=>whnf)
      refine CallG.own (aI hN hx68) id [kW bo1 c1,(550005,.cells bb2 [.d (I c3.fMany),.d (az c3.fDo)])] _ (fun y=>[kW bo1 c1,(550005,.cells bb2 [.d (I c3.fMany),.d (az c3.fDo)])]) (ac _) trivial rfl trivial (ai (ai trivial)) (fun _=>AV.le_refl _) (fun _=>rfl) ?_
      rintro _ _;(conv=>whnf);refine⟨(),h,Sub.eq rfl ?_ ?_⟩
      ·(repeat ((conv=>whnf);refine nr ?_));exact trivial
      ·(iterate 2 ((conv=>whnf);refine no ?_));exact trivial
    ·replace h:=ag hc23 h;obtain⟨z20,hx69,h⟩:=ab h;rcases z20 with r36 | _
     ·(conv=>whnf)
      refine CallG.panic (aI hN hx69) id [kW bo1 c1,(550005,.cells bb2 [.d (I c3.fMany),.d (az c3.fDo)])] (fun y=>[kW bo1 c1,(550005,.cells bb2 [.d (I c3.fMany),.d (az c3.fDo)])]) (ac _) trivial rfl trivial (ai (ai trivial)) (fun _=>rfl) ?_
      rintro _ _;(conv=>whnf);cases h;exact⟨_,⟨(),trivial,rfl,rfl⟩,aA (ren:=id) (ai trivial)⟩
     ·(conv=>whnf)
      refine CallG.own (aI hN hx69) id [kW bo1 c1,(550005,.cells bb2 [.d (I c3.fMany),.d (az c3.fDo)])] _ (fun y=>[kW bo1 c1,(550005,.cells bb2 [.d (I c3.fMany),.d (az c3.fDo)])]) (ac _) trivial rfl trivial (ai (ai trivial)) (fun _=>AV.le_refl _) (fun _=>rfl) ?_
      rintro _ _;(conv=>whnf);refine⟨(),h,Sub.eq rfl ?_ ?_⟩
      ·(repeat ((conv=>whnf);refine nr ?_));exact trivial
      ·(iterate 2 ((conv=>whnf);refine no ?_));exact trivial
   ·clear h;rintro _ h;unfold dQ at h;(conv=>whnf);refine SeqG.mk ((List Int)×Value) (fun y=>[(0,.ptr 540003 bo1 0),(5,.ptr 550005 bb2 0),(7,.sl 550041 y.2)]) (fun y=>[kW bo1 c1,(550005,.cells bb2 [.d (I c3.fMany),.d (az c3.fDo)]),(550041,.arr y.2 3 1 false (List.map I y.1))]) (fun y=>fV N c1 c3 y.1=some r) ?_ ?_
    ·obtain⟨l15,hx43,h⟩:=ab h;(conv=>whnf);refine Need.mk (lT _ hx43) (Eqv.mk (List.map D.str l15) (nW _ hx43) ?_);(conv=>whnf);refine LnA.mk _ (List.length_map _) ?_;(conv=>whnf)
     refine LoopG.mk (Nat×(Int×Int×(List Int))×Value) (fun y=>[(0,.ptr 540003 bo1 0),(5,.ptr 550005 bb2 0),(7,.sl 550041 y.2.2),(31,.d (.list 1 (List.map D.str l15))),(32,.d (I y.2.1.1)),(33,.d (I y.2.1.2.1))]) (fun y=>[kW bo1 c1,(550005,.cells bb2 [.d (I c3.fMany),.d (az c3.fDo)]),(550041,.arr y.2.2 3 1 false (List.map I y.2.1.2.2))]) (fun y=>aj (fun rr x=>cN N c1 c3 l15 rr x.1 x.2.1 x.2.2) y.1 y.2.1=some r) (fun y=>y.1) (N,((l15.length:Int),0,[]),(.slice none 0 0)) h (Sub.eq rfl ?_ ?_) ?_
     ·(repeat ((conv=>whnf);refine nr ?_));exact trivial
     ·(iterate 2 ((conv=>whnf);refine no ?_));(conv=>whnf);refine Need.mk (OLe.nil _ _ _ _) ?_;exact trivial
     ·rintro⟨n2,⟨v19,v20,l23⟩,hd29⟩ hl2;obtain⟨n2,rfl,hl2⟩:=ar hl2;replace hl2:cN N c1 c3 l15 (aj (fun rr x=>cN N c1 c3 l15 rr x.1 x.2.1 x.2.2) n2) v19 v20 l23=some r:=hl2;rw[cN]at hl2;(conv=>whnf);refine Br.mk (fun hc22=>?_) (fun hc22=>?_)
      ·replace hl2:=af hc22 hl2;obtain⟨x26,hx65,hl2⟩:=ab hl2;(conv=>whnf);refine Side.mk rfl ⟨_,aC hx65,ak _ hx65,?_⟩;obtain⟨z18,hx66,hl2⟩:=ab hl2;rcases z18 with r33 | r34
       ·(conv=>whnf)
        refine CallG.own (mr hN hx66) id [kW bo1 c1,(550005,.cells bb2 [.d (I c3.fMany),.d (az c3.fDo)]),(550041,.arr hd29 3 1 false (List.map I l23))] _ (fun y=>[kW bo1 c1,(550005,.cells bb2 [.d (I c3.fMany),.d (az c3.fDo)]),(550041,.arr hd29 3 1 false (List.map I l23))]) (ac _) trivial rfl trivial (ai (ai (ai trivial))) (fun _=>AV.le_refl _) (fun _=>rfl) ?_
        rintro _ _;(conv=>whnf);intro hd32;obtain⟨l25,hx67,hl2⟩:=ab hl2;(conv=>whnf);refine Side.mk ⟨rfl,rfl⟩ ?_;(conv=>whnf);refine Side.mk ⟨rfl,rfl,rfl⟩ (Need.mk (aD hN hx67 (by decide)) (Eqv.mk (List.map I l25) (aH _ hx67) ?_));(conv=>whnf);intro hd33;(conv=>whnf);refine⟨(n2,(v19,w64 (v20+1),l25),hd33),hl2,Sub.eq rfl ?_ ?_,Nat.lt_succ_self _⟩
        ·(repeat ((conv=>whnf);refine nr ?_));exact trivial
        ·(iterate 3 ((conv=>whnf);refine no ?_));exact trivial
       ·(conv=>whnf)
        refine CallG.panic (mr hN hx66) id [kW bo1 c1,(550005,.cells bb2 [.d (I c3.fMany),.d (az c3.fDo)]),(550041,.arr hd29 3 1 false (List.map I l23))] (fun y=>[kW bo1 c1,(550005,.cells bb2 [.d (I c3.fMany),.d (az c3.fDo)]),(550041,.arr hd29 3 1 false (List.map I l23))]) (ac _) trivial rfl trivial (ai (ai (ai trivial))) (fun _=>rfl) ?_
        rintro _ _;(conv=>whnf);cases hl2;exact⟨_,⟨(),trivial,rfl,rfl⟩,aA (ren:=id) (ai trivial)⟩
      ·replace hl2:=ag hc22 hl2;(conv=>whnf);refine⟨(l23,hd29),hl2,Sub.eq rfl ?_ ?_⟩
       ·(repeat ((conv=>whnf);refine nr ?_));exact trivial
       ·(iterate 3 ((conv=>whnf);refine no ?_));exact trivial
    ·clear h;rintro⟨l13,hd17⟩ h;unfold fV at h;(conv=>whnf);refine sr ?_;rcases eP (decide (c3.fDo=0))with hc8 | hc8
     ·replace h:=af hc8 h;rw[of_decide_eq_true hc8];obtain⟨z9,hx38,h⟩:=ab h;rcases z9 with⟨ra1,rb1⟩ | r19
      ·(conv=>whnf);refine sr ?_;(conv=>whnf);refine CallG.panic (jm (bo1:=bo1) hN hx38) id [(550005,.cells bb2 [.d (I c3.fMany),.d (az 0)]),(550041,.arr hd17 3 1 true (List.map I l13))] (fun y=>[kW bo1 rb1,(550005,.cells bb2 [.d (I c3.fMany),.d (az 0)]),(550041,.arr hd17 3 1 true (List.map I l13))]) (ac _) (ai trivial) rfl (ai trivial) (ai (ai trivial)) (fun _=>rfl) ?_;rintro _ _;(conv=>whnf);cases h;exact⟨_,⟨(),trivial,rfl,rfl⟩,aA (ren:=id) (ai trivial)⟩
      ·(conv=>whnf);refine sr ?_;(conv=>whnf);refine CallG.own (jm (bo1:=bo1) hN hx38) id [(550005,.cells bb2 [.d (I c3.fMany),.d (az 0)]),(550041,.arr hd17 3 1 true (List.map I l13))] _ (fun y=>[kW bo1 r19,(550005,.cells bb2 [.d (I c3.fMany),.d (az 0)]),(550041,.arr hd17 3 1 true (List.map I l13))]) (ac _) (ai trivial) rfl (ai trivial) (ai (ai trivial)) (fun _=>AV.le_refl _) (fun _=>rfl) ?_;rintro _ _;(conv=>whnf);cases h
       exact⟨_,⟨(),trivial,rfl,rfl⟩,aA (ren:=id) (ai trivial)⟩
     ·replace h:=ag hc8 h;rcases eP (decide (c3.fDo=1))with hc9 | hc9
      ·replace h:=af hc9 h;rw[of_decide_eq_true hc9];obtain⟨z10,hx39,h⟩:=ab h;rcases z10 with⟨ra2,rb2⟩ | r20
       ·(conv=>whnf);refine sr ?_;(conv=>whnf);refine CallG.panic (ka (bo1:=bo1) hN hx39) id [(550005,.cells bb2 [.d (I c3.fMany),.d (az 1)]),(550041,.arr hd17 3 1 true (List.map I l13))] (fun y=>[kW bo1 rb2,(550005,.cells bb2 [.d (I c3.fMany),.d (az 1)]),(550041,.arr hd17 3 1 true (List.map I l13))]) (ac _) (ai trivial) rfl (ai trivial) (ai (ai trivial)) (fun _=>rfl) ?_;rintro _ _;(conv=>whnf);cases h;exact⟨_,⟨(),trivial,rfl,rfl⟩,aA (ren:=id) (ai trivial)⟩
       ·(conv=>whnf);refine sr ?_;(conv=>whnf);refine CallG.own (ka (bo1:=bo1) hN hx39) id [(550005,.cells bb2 [.d (I c3.fMany),.d (az 1)]),(550041,.arr hd17 3 1 true (List.map I l13))] _ (fun y=>[kW bo1 r20,(550005,.cells bb2 [.d (I c3.fMany),.d (az 1)]),(550041,.arr hd17 3 1 true (List.map I l13))]) (ac _) (ai trivial) rfl (ai trivial) (ai (ai trivial)) (fun _=>AV.le_refl _) (fun _=>rfl) ?_;rintro _ _;(conv=>whnf);cases h
        exact⟨_,⟨(),trivial,rfl,rfl⟩,aA (ren:=id) (ai trivial)⟩
      ·replace h:=ag hc9 h;rcases eP (decide (c3.fDo=2))with hc10 | hc10
       ·replace h:=af hc10 h;rw[of_decide_eq_true hc10];obtain⟨z11,hx40,h⟩:=ab h;rcases z11 with⟨ra3,rb3⟩ | r21
        ·(conv=>whnf);refine sr ?_;(conv=>whnf);refine CallG.panic (kb (bo1:=bo1) hN hx40) id [(550005,.cells bb2 [.d (I c3.fMany),.d (az 2)]),(550041,.arr hd17 3 1 true (List.map I l13))] (fun y=>[kW bo1 rb3,(550005,.cells bb2 [.d (I c3.fMany),.d (az 2)]),(550041,.arr hd17 3 1 true (List.map I l13))]) (ac _) (ai trivial) rfl (ai trivial) (ai (ai trivial)) (fun _=>rfl) ?_;rintro _ _;(conv=>whnf);cases h;exact⟨_,⟨(),trivial,rfl,rfl⟩,aA (ren:=id) (ai trivial)⟩
        ·(conv=>whnf);refine sr ?_;(conv=>whnf);refine CallG.own (kb (bo1:=bo1) hN hx40) id [(550005,.cells bb2 [.d (I c3.fMany),.d (az 2)]),(550041,.arr hd17 3 1 true (List.map I l13))] _ (fun y=>[kW bo1 r21,(550005,.cells bb2 [.d (I c3.fMany),.d (az 2)]),(550041,.arr hd17 3 1 true (List.map I l13))]) (ac _) (ai trivial) rfl (ai trivial) (ai (ai trivial)) (fun _=>AV.le_refl _) (fun _=>rfl) ?_;rintro _ _;(conv=>whnf);cases h
         exact⟨_,⟨(),trivial,rfl,rfl⟩,aA (ren:=id) (ai trivial)⟩
       ·replace h:=ag hc10 h;rcases eP (decide (c3.fDo=3))with hc11 | hc11
        ·replace h:=af hc11 h;rw[of_decide_eq_true hc11];cases h
        ·replace h:=ag hc11 h;rcases eP (decide (c3.fDo=4))with hc12 | hc12
         ·replace h:=af hc12 h;rw[of_decide_eq_true hc12];obtain⟨z12,hx41,h⟩:=ab h;rcases z12 with⟨ra4,rb4⟩ | r22
          ·(conv=>whnf);refine sr ?_;(conv=>whnf);refine CallG.panic (jL (bo1:=bo1) hN hx41) id [(550005,.cells bb2 [.d (I c3.fMany),.d (az 4)]),(550041,.arr hd17 3 1 true (List.map I l13))] (fun y=>[kW bo1 rb4,(550005,.cells bb2 [.d (I c3.fMany),.d (az 4)]),(550041,.arr hd17 3 1 true (List.map I l13))]) (ac _) (ai trivial) rfl (ai trivial) (ai (ai trivial)) (fun _=>rfl) ?_;rintro _ _;(conv=>whnf);cases h;exact⟨_,⟨(),trivial,rfl,rfl⟩,aA (ren:=id) (ai trivial)⟩
          ·(conv=>whnf);refine sr ?_;(conv=>whnf);refine CallG.own (jL (bo1:=bo1) hN hx41) id [(550005,.cells bb2 [.d (I c3.fMany),.d (az 4)]),(550041,.arr hd17 3 1 true (List.map I l13))] _ (fun y=>[kW bo1 r22,(550005,.cells bb2 [.d (I c3.fMany),.d (az 4)]),(550041,.arr hd17 3 1 true (List.map I l13))]) (ac _) (ai trivial) rfl (ai trivial) (ai (ai trivial)) (fun _=>AV.le_refl _) (fun _=>rfl) ?_;rintro _ _;(conv=>whnf);cases h
           exact⟨_,⟨(),trivial,rfl,rfl⟩,aA (ren:=id) (ai trivial)⟩
         ·replace h:=ag hc12 h;rcases eP (decide (c3.fDo=5))with hc13 | hc13
          ·replace h:=af hc13 h;rw[of_decide_eq_true hc13];cases h
          ·replace h:=ag hc13 h;rcases eP (decide (c3.fDo=6))with hc14 | hc14
           ·replace h:=af hc14 h;rw[of_decide_eq_true hc14];cases h
           ·replace h:=ag hc14 h;rcases eP (decide (c3.fDo=7))with hc15 | hc15
            ·replace h:=af hc15 h;rw[of_decide_eq_true hc15];cases h
            ·replace h:=ag hc15 h;rcases eP (decide (c3.fDo=8))with hc16 | hc16
             ·replace h:=af hc16 h;rw[of_decide_eq_true hc16];cases h
             ·replace h:=ag hc16 h;cases h
theorem oI{N:Nat}(hN:N≤1073741824){s1:List UInt8}{c1:DeskWork}{bo1:Nat}{r:Int×DeskWork}(h:iT N s1 c1=some r) :
    ACalls Tryz.prog 95 [.ptr 540003 bo1 0,.d (.str s1)] [kW bo1 c1] (fun ae os=>∃y:Unit,True∧ae=.ret (.d (I r.1))∧os=[kW bo1 r.2]):=by
  unfold iT at h
  split at h
  · cases h
  · rename_i e;cases h;exact vj (kc hN e)
  · rename_i e;cases h;exact vh (kc hN e)
theorem i7{N:Nat}(hN:N≤1073741824){lines1:List (List UInt8)}{r:(List Int)×DeskWork}(h:gn N lines1=some r) :
    ACalls Tryz.prog 61 [.d (.list 1 (List.map D.str lines1))] [] fun ae os=>∃y:Nat,True∧ae=.ret (.tup [.ptr 540003 y 0,.d (.list 1 (List.map I r.1))])∧os=[kW y r.2]:=by
  refine aJ (fresh:=false) al ap ⟨[],[],[],[],[1003],310000,[]⟩ Tryz.func61 rfl Tryz.call61 rfl ?_
  unfold gn at h
  obtain⟨r2,hx2,h⟩:=ab h;(conv=>whnf);refine CallG.own (sg hN hx2) id [] _ (fun y=>[kW y r2]) (ac _) trivial rfl trivial trivial (fun _=>AV.le_refl _) (fun _=>rfl) ?_;rintro b2 _;obtain⟨⟨c5,l11⟩,hx27,h⟩:=ab h;(conv=>whnf)
  refine SeqG.mk Value (fun y=>[(4,.ptr 540003 b2 0),(5,.sl 310020 y)]) (fun y=>[kW b2 c5,(310020,.arr y 33 1 false (List.map I l11))]) (fun _=>True) ?_ ?_
  ·(conv=>whnf);refine LnA.mk _ (List.length_map _) ?_;(conv=>whnf)
   refine LoopG.mk (Nat×(Int×Int×DeskWork×(List Int))×Value) (fun y=>[(4,.ptr 540003 b2 0),(5,.sl 310020 y.2.2),(9,.d (.list 1 (List.map D.str lines1))),(10,.d (I y.2.1.1)),(11,.d (I y.2.1.2.1))]) (fun y=>[kW b2 y.2.1.2.2.1,(310020,.arr y.2.2 33 1 false (List.map I y.2.1.2.2.2))]) (fun y=>aj (fun rr x=>eD N lines1 rr x.1 x.2.1 x.2.2.1 x.2.2.2) y.1 y.2.1=some (c5,l11)) (fun y=>y.1) (N,((lines1.length:Int),0,r2,[]),(.slice none 0 0)) hx27 (Sub.eq rfl ?_ ?_) ?_
   ·(repeat ((conv=>whnf);refine nr ?_));exact trivial
   ·(conv=>whnf);refine no ?_;(conv=>whnf);refine Need.mk (OLe.nil _ _ _ _) ?_;exact trivial
   ·rintro⟨n2,⟨v17,v18,c9,l19⟩,hd29⟩ hl2;obtain⟨n2,rfl,hl2⟩:=ar hl2;replace hl2:eD N lines1 (aj (fun rr x=>eD N lines1 rr x.1 x.2.1 x.2.2.1 x.2.2.2) n2) v17 v18 c9 l19=some (c5,l11):=hl2;rw[eD]at hl2;(conv=>whnf);refine Br.mk (fun hc12=>?_) (fun hc12=>?_)
    ·replace hl2:=af hc12 hl2;obtain⟨x24,hx49,hl2⟩:=ab hl2;(conv=>whnf);refine Side.mk rfl ⟨_,aC hx49,ak _ hx49,?_⟩;obtain⟨⟨ra12,rb12⟩,hx50,hl2⟩:=ab hl2;(conv=>whnf);refine CallG.own (oI (bo1:=b2) hN hx50) id [(310020,.arr hd29 33 1 false (List.map I l19))] _ (fun y=>[kW b2 rb12,(310020,.arr hd29 33 1 false (List.map I l19))]) (ac _) (ai trivial) rfl (ai trivial) (ai trivial) (fun _=>AV.le_refl _) (fun _=>rfl) ?_;rintro _ _
     (conv=>whnf);intro hd32;obtain⟨l21,hx51,hl2⟩:=ab hl2;(conv=>whnf);refine Side.mk ⟨rfl,rfl⟩ ?_;(conv=>whnf);refine Side.mk ⟨rfl,rfl,rfl⟩ (Need.mk (aD hN hx51 (by decide)) (Eqv.mk (List.map I l21) (aH _ hx51) ?_));(conv=>whnf);intro hd33;(conv=>whnf);refine⟨(n2,(v17,w64 (v18+1),rb12,l21),hd33),hl2,Sub.eq rfl ?_ ?_,Nat.lt_succ_self _⟩
     ·(repeat ((conv=>whnf);refine nr ?_));exact trivial
     ·(iterate 2 ((conv=>whnf);refine no ?_));exact trivial
    ·replace hl2:=ag hc12 hl2;cases hl2;(conv=>whnf);refine⟨hd29,trivial,Sub.eq rfl ?_ ?_⟩
     ·(repeat ((conv=>whnf);refine nr ?_));exact trivial
     ·(iterate 2 ((conv=>whnf);refine no ?_));exact trivial
  ·rintro hd17 _;(conv=>whnf);refine sr ?_;(conv=>whnf);cases h;exact⟨b2,trivial,rfl,aA (ren:=id) (ai trivial)⟩
theorem lX{N:Nat}(hN:N≤1073741824) {r:Unit}(h:jl N=some r) :
    ACalls Tryz.prog 109 [.nils 6] [] fun e os=>e=.ret (.nils 6)∧os=[]:=by
  refine ah (fresh:=true) al ap ⟨[],[],[],[],[],0,[]⟩ Tryz.func109 rfl Tryz.call109 rfl ?_
  unfold jl at h
  (conv=>whnf)
  all_goals exact rfl
theorem lY{N:Nat}(hN:N≤1073741824){s1:List RateSheet}{r:(List RateSheet)}(h:dR N s1=some r) :
    ACalls Tryz.prog 109 [.nn 6 (List.map RateSheet.enc s1)] [] fun e os=>∃hd,e=.ret (.sl 0 hd)∧os=[(0,.arr hd 95 6 false (List.map RateSheet.enc r))]:=by
  refine gk al ap ⟨[],[],[],[],[],0,[]⟩ Tryz.func109 rfl Tryz.call109 rfl ?_
  unfold dR at h
  (conv=>whnf);intro hd3;obtain⟨l2,hx2,h⟩:=ab h;(conv=>whnf);refine sr ?_;(conv=>whnf);refine Side.mk ⟨rfl,rfl,rfl⟩ (Need.mk (aD hN hx2 (by decide)) (Eqv.mk (List.map RateSheet.enc l2) (aH _ hx2) ?_));(conv=>whnf);intro hd4;(conv=>whnf);cases h;exact⟨_,_,rfl,rfl⟩
theorem f4{N:Nat}(hN:N≤1073741824){l:List RateSheet}{r:(List RateSheet)}(h:gD N l=some r) :
    ACalls Tryz.prog 109 [.d (.list 6 (List.map RateSheet.enc l))] [] fun e os=>∃hd,e=.ret (.sl 0 hd)∧os=[(0,.arr hd 95 6 false (List.map RateSheet.enc r))]:=by
  unfold gD at h
  refine ACalls.nils_or (fun e=>?_) (lY hN h)
  have e2:=List.map_eq_nil_iff.1 e
  subst e2
  have e3:r=[]:=by simpa [dR,app]using h.symm
  subst e3
  exact ACalls.nil_own (lX hN (r:=()) rfl)
end Go.Proofs.YtiaoloodgildeaaGreatDoor
