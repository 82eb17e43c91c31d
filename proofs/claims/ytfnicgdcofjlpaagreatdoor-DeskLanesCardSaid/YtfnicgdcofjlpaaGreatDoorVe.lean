/-
  Walks: what the typed functions compute, the program’s functions return.
-/
import Derived.Test.YtfnicgdcofjlpaaGreatDoorWe
import Derived.Test.YtfnicgdcofjlpaaGreatDoorVa
import Derived.Test.YtfnicgdcofjlpaaGreatDoorVb
import Derived.Test.YtfnicgdcofjlpaaGreatDoorVd
namespace Go.Proofs.YtfnicgdcofjlpaaGreatDoor
open Go Go.Abs Go.Kp
set_option maxRecDepth 100000
set_option maxHeartbeats 8000000
set_option linter.all false
theorem lZ{N:Nat}(hN:N≤1073741824){s1:DeskState}{r:DeskState}(h:fW N s1=some r) :
    ACalls Tryz.prog 25 [.d (.agg [.list 1 (List.map I s1.fBowlers),.list 2 (List.map DeskLane.enc s1.fLanes),.list 1 (List.map eL s1.fKept),.list 6 (List.map RateSheet.enc s1.fSheets),.list 1 (List.map I s1.fWithdrawn),.list 3 (List.map LadderResult.enc s1.fResults)])] [] fun e os=>e=.ret (.d (.agg [.list 1 (List.map I r.fBowlers),.list 2 (List.map DeskLane.enc r.fLanes),.list 1 (List.map eL r.fKept),.list 6 (List.map RateSheet.enc r.fSheets),.list 1 (List.map I r.fWithdrawn),.list 3 (List.map LadderResult.enc r.fResults)]))∧os=[]:=by
  refine ah (fresh:=false) al ap ⟨[1],[],[],[],[1,1002,1007,1012],0,[]⟩ Tryz.func25 rfl Tryz.call25 rfl ?_
  unfold fW at h
  (conv=>whnf);intro b2;obtain⟨⟨c4,c5,c6⟩,hx4,h⟩:=ab h;(conv=>whnf);refine SeqG.mk Nat (fun y=>[(1,.d (.ref (.agg [.list 1 (List.map I s1.fBowlers),.list 2 (List.map DeskLane.enc s1.fLanes),.list 1 (List.map eL s1.fKept),.list 6 (List.map RateSheet.enc s1.fSheets),.list 1 (List.map I s1.fWithdrawn),.list 3 (List.map LadderResult.enc s1.fResults)]))),(2,.ptr 2 b2 0),(3,.ptr 3 y 0)]) (fun y=>[(2,.cells b2 [.nils 1,.nils 2,.nils 1,.nils 6,.nils 1,.nils 3]),(3,.cells y [.d (.list 1 (List.map I c4)),.nils 2,.nils 1,.d (.list 6 (List.map RateSheet.enc c5)),.d (.list 1 (List.map I c6)),.nils 3])]) (fun _=>True) ?_ ?_
  ·obtain⟨r4,hx5,hx4⟩:=ab hx4;obtain⟨r5,hx6,hx4⟩:=ab hx4;obtain⟨r6,hx7,hx4⟩:=ab hx4;(conv=>whnf);refine DrawG.mk (.take 0 (.take 1 (.take 3 (.take 4 (.take 6 (.take 7 (.alt 2 [7,6,4,3,0] (.alt 5 [7,6,3,0] (.alt 8 [6,3,0] (.alt 9 [6,3,0] (.alt 10 [6,3,0] (.alt 11 [] .done .nil) .nil) (.alt 10 [6,3,0] (.alt 9 [6,3,0] (.alt 11 [] .done .nil) .nil) .nil)) (.alt 10 [7,6,3,0] (.alt 8 [6,3,0] (.alt 9 [6,3,0] (.alt 11 [] .done .nil) .nil) .nil) .nil)) (.alt 10 [7,6,4,3,0] (.alt 5 [7,6,3,0] (.alt 8 [6,3,0] (.alt 9 [6,3,0] (.alt 11 [] .done .nil) .nil) .nil) .nil) .nil)) (.alt 10 [7,6,4,3,1,0] (.alt 2 [7,6,4,3,0] (.alt 5 [7,6,3,0] (.alt 8 [6,3,0] (.alt 9 [6,3,0] (.alt 11 [] .done .nil) .nil) .nil) .nil) .nil) .nil)))))))) (by kernel_rfl) ?_;(conv=>whnf);refine Both.mk ?_ ?_
   ·(conv=>whnf);refine CallG.fresh 12 (bB hN hx5) ?_;intro hd16;(iterate 5 refine wl ?_);(conv=>whnf);refine Both.mk ?_ ?_
    ·(conv=>whnf);refine CallG.fresh 15 (f4 hN hx6) ?_;intro hd17;(iterate 4 refine wl ?_);(conv=>whnf);refine Both.mk ?_ ?_
     ·(conv=>whnf);refine CallG.fresh 18 (bB hN hx7) ?_;intro hd18;(iterate 3 refine wl ?_);(conv=>whnf);refine Both.mk ?_ ?_
      ·(iterate 3 refine ws ?_);(iterate 3 refine wl ?_);refine wb ?_;(conv=>whnf);intro b10;(iterate 3 refine wl ?_);refine wb ?_;refine ws ?_;cases hx4;(conv=>whnf);exact⟨b10,trivial,kW⟩
      ·refine wb ?_;(conv=>whnf);intro b11;(iterate 3 refine wl ?_);refine wb ?_;(iterate 3 refine ws ?_);(iterate 3 refine wl ?_);refine wb ?_;refine ws ?_;cases hx4;(conv=>whnf);exact⟨b11,trivial,kW⟩
     ·refine wb ?_;(conv=>whnf);intro b12;(iterate 4 refine wl ?_);refine wb ?_;(conv=>whnf);refine CallG.fresh 18 (bB hN hx7) ?_;intro hd19;(iterate 3 refine wl ?_);refine wb ?_;(iterate 3 refine ws ?_);(iterate 3 refine wl ?_);refine wb ?_;refine ws ?_;cases hx4;(conv=>whnf);exact⟨b12,trivial,kW⟩
    ·refine wb ?_;(conv=>whnf);intro b13;(iterate 5 refine wl ?_);refine wb ?_;(conv=>whnf);refine CallG.fresh 15 (f4 hN hx6) ?_;intro hd20;(iterate 4 refine wl ?_);refine wb ?_;(conv=>whnf);refine CallG.fresh 18 (bB hN hx7) ?_;intro hd21;(iterate 3 refine wl ?_);refine wb ?_;(iterate 3 refine ws ?_);(iterate 3 refine wl ?_);refine wb ?_;refine ws ?_;cases hx4;(conv=>whnf)
     exact⟨b13,trivial,kW⟩
   ·refine wb ?_;(conv=>whnf);intro b14;(iterate 6 refine wl ?_);refine wb ?_;(conv=>whnf);refine CallG.fresh 12 (bB hN hx5) ?_;intro hd22;(iterate 5 refine wl ?_);refine wb ?_;(conv=>whnf);refine CallG.fresh 15 (f4 hN hx6) ?_;intro hd23;(iterate 4 refine wl ?_);refine wb ?_;(conv=>whnf);refine CallG.fresh 18 (bB hN hx7) ?_;intro hd24;(iterate 3 refine wl ?_);(conv=>whnf)
    refine Both.mk ?_ trivial;(iterate 3 refine ws ?_);(iterate 3 refine wl ?_);refine wb ?_;refine ws ?_;cases hx4;(conv=>whnf);exact⟨b14,trivial,kW⟩
  ·rintro bb2 _;obtain⟨l11,hx32,h⟩:=ab h;(conv=>whnf);refine SeqG.mk Value (fun y=>[(1,.d (.ref (.agg [.list 1 (List.map I s1.fBowlers),.list 2 (List.map DeskLane.enc s1.fLanes),.list 1 (List.map eL s1.fKept),.list 6 (List.map RateSheet.enc s1.fSheets),.list 1 (List.map I s1.fWithdrawn),.list 3 (List.map LadderResult.enc s1.fResults)]))),(2,.ptr 2 b2 0),(3,.ptr 3 bb2 0)]) (fun y=>[(2,.cells b2 [.nils 1,.nils 2,.nils 1,.nils 6,.nils 1,.nils 3]),(3,.cells bb2 [.d (.list 1 (List.map I c4)),.sl 36 y,.nils 1,.d (.list 6 (List.map RateSheet.enc c5)),.d (.list 1 (List.map I c6)),.nils 3]),(36,.arr y 35 2 false (List.map DeskLane.enc l11))]) (fun _=>True) ?_ ?_
   ·(conv=>whnf);refine LnA.mk _ (List.length_map _) ?_;(conv=>whnf)
    refine LoopG.mk (Nat×(Int×Int×(List DeskLane))×Value) (fun y=>[(1,.d (.ref (.agg [.list 1 (List.map I s1.fBowlers),.list 2 (List.map DeskLane.enc s1.fLanes),.list 1 (List.map eL s1.fKept),.list 6 (List.map RateSheet.enc s1.fSheets),.list 1 (List.map I s1.fWithdrawn),.list 3 (List.map LadderResult.enc s1.fResults)]))),(2,.ptr 2 b2 0),(3,.ptr 3 bb2 0),(21,.d (.list 2 (List.map DeskLane.enc s1.fLanes))),(22,.d (I y.2.1.1)),(23,.d (I y.2.1.2.1))]) (fun y=>[(2,.cells b2 [.nils 1,.nils 2,.nils 1,.nils 6,.nils 1,.nils 3]),(3,.cells bb2 [.d (.list 1 (List.map I c4)),.sl 36 y.2.2,.nils 1,.d (.list 6 (List.map RateSheet.enc c5)),.d (.list 1 (List.map I c6)),.nils 3]),(36,.arr y.2.2 35 2 false (List.map DeskLane.enc y.2.1.2.2))]) (fun y=>aj (fun rr x=>bR N s1 rr x.1 x.2.1 x.2.2) y.1 y.2.1=some l11) (fun y=>y.1) (N,((s1.fLanes.length:Int),0,[]),(.slice none 0 0)) hx32 (Sub.eq rfl ?_ ?_) ?_
    ·(repeat ((conv=>whnf);refine nr ?_));exact trivial
    ·(conv=>whnf);refine no ?_;(conv=>whnf);refine Need.mk (OLe.cells _ _ _ (by repeat (first | exact trivial | ((conv=>whnf);refine Need.mk rfl ?_)))) ?_;(conv=>whnf);refine Need.mk (OLe.nil _ _ _ _) ?_;exact trivial
    ·rintro⟨n2,⟨v17,v18,l19⟩,hd83⟩ hl2;obtain⟨n2,rfl,hl2⟩:=ar hl2;replace hl2:bR N s1 (aj (fun rr x=>bR N s1 rr x.1 x.2.1 x.2.2) n2) v17 v18 l19=some l11:=hl2;rw[bR]at hl2;refine wB (fun hc12=>?_) (fun hc12=>?_)
     ·replace hl2:=af hc12 hl2;obtain⟨x24,hx54,hl2⟩:=ab hl2;(conv=>whnf);refine Side.mk rfl ⟨_,aC hx54,ak _ hx54,?_⟩;(conv=>whnf);intro b38;refine ws ?_;(conv=>whnf);refine DrawG.mk (.take 0 (.take 1 (.take 2 (.take 3 (.take 4 (.take 5 (.alt 6 [4,3,2,1,0] (.alt 7 [4,2,1,0] (.alt 8 [4,2,1,0] (.alt 9 [4,2,0] (.take 10 (.alt 11 [] .done .nil)) .nil) .nil) .nil) .nil))))))) (by kernel_rfl) ?_;(iterate 3 refine ws ?_);refine wb ?_;obtain⟨r18,hx55,hl2⟩:=ab hl2;(conv=>whnf);refine CallG.fresh 33 (bB hN hx55) ?_;intro hd89;refine wl ?_;refine ws ?_;(iterate 2 refine wl ?_);refine ws ?_;(iterate 2 refine wl ?_);obtain⟨l21,hx56,hl2⟩:=ab hl2;(conv=>whnf)
      refine Both.mk ?_ trivial;refine ws ?_;(iterate 2 refine wl ?_);refine ws ?_;(iterate 2 refine wl ?_);refine wb ?_;(conv=>whnf);intro hd92;(iterate 2 refine wl ?_);refine ws ?_;(iterate 2 refine wl ?_);refine wb ?_;(conv=>whnf);refine Side.mk ⟨rfl,rfl⟩ ?_;(conv=>whnf);refine Side.mk ⟨rfl,rfl,rfl⟩ (Need.mk (aD hN hx56 (by decide)) (Eqv.mk (List.map DeskLane.enc l21) (aH _ hx56) ?_));(conv=>whnf);intro hd93;(iterate 3 refine wl ?_);refine wb ?_;refine ws ?_;(conv=>whnf);exact⟨(n2,(v17,w64 (v18+1),l21),hd93),hl2,kW,Nat.lt_succ_self _⟩
     ·replace hl2:=ag hc12 hl2;cases hl2;(conv=>whnf);exact⟨hd83,trivial,kW⟩
   ·rintro hd59 _;obtain⟨l32,hx81,h⟩:=ab h;(conv=>whnf);refine SeqG.mk Value (fun y=>[(1,.d (.ref (.agg [.list 1 (List.map I s1.fBowlers),.list 2 (List.map DeskLane.enc s1.fLanes),.list 1 (List.map eL s1.fKept),.list 6 (List.map RateSheet.enc s1.fSheets),.list 1 (List.map I s1.fWithdrawn),.list 3 (List.map LadderResult.enc s1.fResults)]))),(2,.ptr 2 b2 0),(3,.ptr 3 bb2 0)]) (fun y=>[(2,.cells b2 [.nils 1,.nils 2,.nils 1,.nils 6,.nils 1,.nils 3]),(3,.cells bb2 [.d (.list 1 (List.map I c4)),.sl 36 hd59,.sl 51 y,.d (.list 6 (List.map RateSheet.enc c5)),.d (.list 1 (List.map I c6)),.nils 3]),(36,.arr hd59 35 2 false (List.map DeskLane.enc l11)),(51,.arr y 25 1 false (List.map eL l32))]) (fun _=>True) ?_ ?_
    ·(conv=>whnf);refine LnA.mk _ (List.length_map _) ?_;(conv=>whnf)
     refine LoopG.mk (Nat×(Int×Int×(List (List Int)))×Value) (fun y=>[(1,.d (.ref (.agg [.list 1 (List.map I s1.fBowlers),.list 2 (List.map DeskLane.enc s1.fLanes),.list 1 (List.map eL s1.fKept),.list 6 (List.map RateSheet.enc s1.fSheets),.list 1 (List.map I s1.fWithdrawn),.list 3 (List.map LadderResult.enc s1.fResults)]))),(2,.ptr 2 b2 0),(3,.ptr 3 bb2 0),(40,.d (.list 1 (List.map eL s1.fKept))),(41,.d (I y.2.1.1)),(42,.d (I y.2.1.2.1))]) (fun y=>[(2,.cells b2 [.nils 1,.nils 2,.nils 1,.nils 6,.nils 1,.nils 3]),(3,.cells bb2 [.d (.list 1 (List.map I c4)),.sl 36 hd59,.sl 51 y.2.2,.d (.list 6 (List.map RateSheet.enc c5)),.d (.list 1 (List.map I c6)),.nils 3]),(36,.arr hd59 35 2 false (List.map DeskLane.enc l11)),(51,.arr y.2.2 25 1 false (List.map eL y.2.1.2.2))]) (fun y=>aj (fun rr x=>bS N s1 rr x.1 x.2.1 x.2.2) y.1 y.2.1=some l32) (fun y=>y.1) (N,((s1.fKept.length:Int),0,[]),(.slice none 0 0)) hx81 (Sub.eq rfl ?_ ?_) ?_
     ·(repeat ((conv=>whnf);refine nr ?_));exact trivial
     ·(conv=>whnf);refine no ?_;(conv=>whnf);refine Need.mk (OLe.cells _ _ _ (by repeat (first | exact trivial | ((conv=>whnf);refine Need.mk rfl ?_)))) ?_;(conv=>whnf);refine no ?_;(conv=>whnf);refine Need.mk (OLe.nil _ _ _ _) ?_;exact trivial
     ·rintro⟨n4,⟨v35,v36,l40⟩,hd152⟩ hl4;obtain⟨n4,rfl,hl4⟩:=ar hl4;replace hl4:bS N s1 (aj (fun rr x=>bS N s1 rr x.1 x.2.1 x.2.2) n4) v35 v36 l40=some l32:=hl4;rw[bS]at hl4;refine wB (fun hc24=>?_) (fun hc24=>?_)
      ·replace hl4:=af hc24 hl4;obtain⟨x48,hx103,hl4⟩:=ab hl4;(conv=>whnf);refine Side.mk rfl ⟨_,aC hx103,ak _ hx103,?_⟩;(conv=>whnf);refine DrawG.mk (.take 0 (.take 1 (.take 2 (.alt 3 [1,0] (.alt 4 [1,0] (.alt 5 [0] (.take 6 (.alt 7 [] .done .nil)) .nil) .nil) .nil)))) (by kernel_rfl) ?_;refine ws ?_;refine wb ?_;obtain⟨r30,hx104,hl4⟩:=ab hl4;(conv=>whnf);refine CallG.fresh 49 (bB hN hx104) ?_;intro hd158;refine ws ?_;(iterate 2 refine wl ?_);obtain⟨l42,hx105,hl4⟩:=ab hl4;refine wb ?_;refine ws ?_;(conv=>whnf);intro hd161;refine ws ?_;(iterate 2 refine wl ?_);refine wb ?_;(conv=>whnf);refine Side.mk ⟨rfl,rfl⟩ ?_;(conv=>whnf)
       refine Side.mk ⟨rfl,rfl,rfl⟩ (Need.mk (aD hN hx105 (by decide)) (Eqv.mk (List.map eL l42) (aH _ hx105) ?_));(conv=>whnf);intro hd162;refine wl ?_;refine wb ?_;refine ws ?_;(conv=>whnf);exact⟨(n4,(v35,w64 (v36+1),l42),hd162),hl4,kW,Nat.lt_succ_self _⟩
      ·replace hl4:=ag hc24 hl4;cases hl4;(conv=>whnf);exact⟨hd152,trivial,kW⟩
    ·rintro hd128 _;obtain⟨l53,hx130,h⟩:=ab h;(conv=>whnf);refine SeqG.mk Value (fun y=>[(2,.ptr 2 b2 0),(3,.ptr 3 bb2 0)]) (fun y=>[(2,.cells b2 [.nils 1,.nils 2,.nils 1,.nils 6,.nils 1,.nils 3]),(3,.cells bb2 [.d (.list 1 (List.map I c4)),.sl 36 hd59,.sl 51 hd128,.d (.list 6 (List.map RateSheet.enc c5)),.d (.list 1 (List.map I c6)),.sl 72 y]),(36,.arr hd59 35 2 false (List.map DeskLane.enc l11)),(51,.arr hd128 25 1 false (List.map eL l32)),(72,.arr y 127 3 false (List.map LadderResult.enc l53))]) (fun _=>True) ?_ ?_
     ·(conv=>whnf);refine LnA.mk _ (List.length_map _) ?_;(conv=>whnf)
      refine LoopG.mk (Nat×(Int×Int×(List LadderResult))×Value) (fun y=>[(2,.ptr 2 b2 0),(3,.ptr 3 bb2 0),(55,.d (.list 3 (List.map LadderResult.enc s1.fResults))),(56,.d (I y.2.1.1)),(57,.d (I y.2.1.2.1))]) (fun y=>[(2,.cells b2 [.nils 1,.nils 2,.nils 1,.nils 6,.nils 1,.nils 3]),(3,.cells bb2 [.d (.list 1 (List.map I c4)),.sl 36 hd59,.sl 51 hd128,.d (.list 6 (List.map RateSheet.enc c5)),.d (.list 1 (List.map I c6)),.sl 72 y.2.2]),(36,.arr hd59 35 2 false (List.map DeskLane.enc l11)),(51,.arr hd128 25 1 false (List.map eL l32)),(72,.arr y.2.2 127 3 false (List.map LadderResult.enc y.2.1.2.2))]) (fun y=>aj (fun rr x=>bT N s1 rr x.1 x.2.1 x.2.2) y.1 y.2.1=some l53) (fun y=>y.1) (N,((s1.fResults.length:Int),0,[]),(.slice none 0 0)) hx130 (Sub.eq rfl ?_ ?_) ?_
      ·(repeat ((conv=>whnf);refine nr ?_));exact trivial
      ·(conv=>whnf);refine no ?_;(conv=>whnf);refine Need.mk (OLe.cells _ _ _ (by repeat (first | exact trivial | ((conv=>whnf);refine Need.mk rfl ?_)))) ?_;(iterate 2 ((conv=>whnf);refine no ?_));(conv=>whnf);refine Need.mk (OLe.nil _ _ _ _) ?_;exact trivial
      ·rintro⟨n6,⟨v53,v54,l61⟩,hd221⟩ hl6;obtain⟨n6,rfl,hl6⟩:=ar hl6;replace hl6:bT N s1 (aj (fun rr x=>bT N s1 rr x.1 x.2.1 x.2.2) n6) v53 v54 l61=some l53:=hl6;rw[bT]at hl6;refine wB (fun hc36=>?_) (fun hc36=>?_)
       ·replace hl6:=af hc36 hl6;obtain⟨x72,hx152,hl6⟩:=ab hl6;(conv=>whnf);refine Side.mk rfl ⟨_,aC hx152,ak _ hx152,?_⟩;(conv=>whnf);intro b62;refine ws ?_;(conv=>whnf);refine DrawG.mk (.take 0 (.take 1 (.take 2 (.take 3 (.take 4 (.take 5 (.take 7 (.take 8 (.alt 6 [8,7,4,3,2,1,0] (.alt 9 [7,4,2,1,0] (.alt 10 [7,4,2,1,0] (.alt 11 [7,4,2,0] (.take 12 (.alt 13 [] .done .nil)) .nil) .nil) .nil) .nil))))))))) (by kernel_rfl) ?_;(iterate 4 refine ws ?_);refine wb ?_;obtain⟨r42,hx153,hl6⟩:=ab hl6;(conv=>whnf);refine CallG.fresh 67 (bB hN hx153) ?_;intro hd227;refine ws ?_;(iterate 3 refine wl ?_);refine ws ?_;refine wl ?_
        refine wl ?_;refine ws ?_;(iterate 2 refine wl ?_);obtain⟨l63,hx154,hl6⟩:=ab hl6;refine wb ?_;refine ws ?_;(iterate 3 refine wl ?_);refine ws ?_;(iterate 2 refine wl ?_);refine wb ?_;(conv=>whnf);intro hd230;(iterate 3 refine wl ?_);refine ws ?_;(iterate 2 refine wl ?_);refine wb ?_;(conv=>whnf);refine Side.mk ⟨rfl,rfl⟩ ?_;(conv=>whnf);refine Side.mk ⟨rfl,rfl,rfl⟩ (Need.mk (aD hN hx154 (by decide)) (Eqv.mk (List.map LadderResult.enc l63) (aH _ hx154) ?_));(conv=>whnf);intro hd231;refine wl ?_;refine wl ?_
        (iterate 2 refine wl ?_);refine wb ?_;refine ws ?_;(conv=>whnf);exact⟨(n6,(v53,w64 (v54+1),l63),hd231),hl6,kW,Nat.lt_succ_self _⟩
       ·replace hl6:=ag hc36 hl6;cases hl6;(conv=>whnf);exact⟨hd221,trivial,kW⟩
     ·rintro hd197 _;(iterate 6 refine ws ?_);(conv=>whnf);cases h;exact rfl
theorem uk{N:Nat}(hN:N≤1073741824){lines1:List (List UInt8)}{r:DeskState×(List Int)×Int}(h:nE N lines1=some r) :
    ACalls Tryz.prog 10 [.d (.list 1 (List.map D.str lines1))] [] fun e os=>e=.ret (.d (.tup [.agg [.list 1 (List.map I r.1.fBowlers),.list 2 (List.map DeskLane.enc r.1.fLanes),.list 1 (List.map eL r.1.fKept),.list 6 (List.map RateSheet.enc r.1.fSheets),.list 1 (List.map I r.1.fWithdrawn),.list 3 (List.map LadderResult.enc r.1.fResults)],.list 1 (List.map I r.2.1),I r.2.2]))∧os=[]:=by
  refine ah (fresh:=false) al ap ⟨[],[],[],[],[],0,[]⟩ Tryz.func10 rfl Tryz.call10 rfl ?_
  unfold nE at h
  (conv=>whnf);intro b2;obtain⟨r4,hx4,h⟩:=ab h;(conv=>whnf);refine CallG.pure _ (gP hN hx4) ?_;refine wB (fun hc2=>?_) (fun hc2=>?_)
  ·replace h:=af hc2 h;(iterate 2 refine ws ?_);(conv=>whnf);cases h;exact rfl
  ·replace h:=ag hc2 h;obtain⟨⟨ra2,rb2⟩,hx6,h⟩:=ab h;(conv=>whnf);refine CallG.own (i7 hN hx6) id [(2,.cells b2 [.nils 1,.nils 2,.nils 1,.nils 6,.nils 1,.nils 3])] _ (fun y=>[(255003,.cells y (cW rb2)),(2,.cells b2 [.nils 1,.nils 2,.nils 1,.nils 6,.nils 1,.nils 3])]) (ac _) trivial rfl trivial (ai trivial) (fun _=>AV.le_refl _) (fun _=>rfl) ?_;rintro b4 _;refine ws ?_;obtain⟨r6,hx8,h⟩:=ab h;(conv=>whnf);refine CallG.pure _ (lZ hN hx8) ?_;(conv=>whnf)
   refine sr ?_;refine ws ?_;(conv=>whnf);cases h;exact rfl
theorem jM{N:Nat}(hN:N≤1073741824){l1:FrameLaw}{sheet1:List Int}{r:Int}(h:fk N l1 sheet1=some r) :
    ACalls Tryz.prog 101 [.d (.agg [I l1.fFrames,I l1.fPins,I l1.fBalls,I l1.fTap]),.d (.list 1 (List.map I sheet1))] [] fun e os=>e=.ret (.d (I r))∧os=[]:=by
  refine ah (fresh:=false) al ap ⟨[2],[],[],[],[1002],0,[]⟩ Tryz.func101 rfl Tryz.call101 rfl ?_
  unfold fk at h
  obtain⟨r2,hx2,h⟩:=ab h;(conv=>whnf);refine CallG.pure _ (cE hN hx2) ?_;(conv=>whnf);intro b2;refine ws ?_;obtain⟨n6,hx33,h⟩:=ab h;(conv=>whnf);refine SeqG.mk Unit (fun y=>[(4,.d (I n6))]) (fun y=>[]) (fun _=>True) ?_ ?_
  ·(conv=>whnf);refine LnA.mk _ (List.length_map _) ?_;(conv=>whnf);refine LoopG.mk (Nat×(Int×Int×Int×FramePlay)) (fun y=>[(4,.d (I y.2.1)),(5,.ptr 5 b2 0),(13,.d (.list 1 (List.map I sheet1))),(14,.d (I y.2.2.1)),(15,.d (I y.2.2.2.1))]) (fun y=>[(5,.cells b2 [.d (I y.2.2.2.2.fLaw.fFrames),.d (I y.2.2.2.2.fLaw.fPins),.d (I y.2.2.2.2.fLaw.fBalls),.d (I y.2.2.2.2.fLaw.fTap),.d (I y.2.2.2.2.fAt.fFrame),.d (I y.2.2.2.2.fAt.fThrown),.d (I y.2.2.2.2.fAt.fStanding),.d (.bool y.2.2.2.2.fAt.fFresh),.d (I y.2.2.2.2.fAt.fNeed),.d (I y.2.2.2.2.fAt.fAfter.a0),.d (I y.2.2.2.2.fAt.fAfter.a1)])]) (fun y=>aj (fun rr x=>ct N sheet1 rr x.1 x.2.1 x.2.2.1 x.2.2.2) y.1 y.2=some n6) (fun y=>y.1) (N,(0,(sheet1.length:Int),0,r2)) hx33 (Sub.eq rfl ?_ ?_) ?_
   ·(repeat ((conv=>whnf);refine nr ?_));exact trivial
   ·(conv=>whnf);refine no ?_;exact trivial
   ·rintro⟨n11,⟨n10,v17,v18,p8⟩⟩ hl2;obtain⟨n11,rfl,hl2⟩:=ar hl2;replace hl2:ct N sheet1 (aj (fun rr x=>ct N sheet1 rr x.1 x.2.1 x.2.2.1 x.2.2.2) n11) n10 v17 v18 p8=some n6:=hl2;rw[ct]at hl2;refine wB (fun hc12=>?_) (fun hc12=>?_)
    ·replace hl2:=af hc12 hl2;obtain⟨x24,hx60,hl2⟩:=ab hl2;(conv=>whnf);refine Side.mk rfl ⟨_,aC hx60,ak _ hx60,?_⟩;refine ws ?_;obtain⟨⟨ra24,rb24,rc24⟩,hx62,hl2⟩:=ab hl2;(conv=>whnf);refine CallG.pure _ (aS hN hx62) ?_;(conv=>whnf);intro b26;refine ws ?_;obtain⟨r14,hx63,hl2⟩:=ab hl2;(conv=>whnf);refine DrawG.mk (.take 0 (.take 1 (.take 4 (.alt 2 [4] (.alt 3 [4] (.take 5 (.alt 6 [] .done .nil)) .nil) .nil)))) (by kernel_rfl) ?_;refine ws ?_;refine wb ?_;(conv=>whnf);intro hd24;refine ws ?_;refine wl ?_;refine wb ?_;refine ws ?_;(conv=>whnf);refine CallG.pure _ (gv hN hx63) ?_;refine ws ?_;refine wl ?_;refine wb ?_;refine ws ?_
     (conv=>whnf);refine⟨(n11,(r14,v17,w64 (v18+1),ra24)),hl2,Sub.eq rfl ?_ ?_,Nat.lt_succ_self _⟩
     ·(repeat ((conv=>whnf);refine nr ?_));exact trivial
     ·(conv=>whnf);refine no ?_;exact trivial
    ·replace hl2:=ag hc12 hl2;cases hl2;(conv=>whnf);exact⟨(),trivial,kW⟩
  ·rintro _ _;(conv=>whnf);cases h;exact rfl
theorem jn{N:Nat}(hN:N≤1073741824){p1:FramePlay}{r:Int}(h:gE N p1=some r) :
    ACalls Tryz.prog 73 [.d (.agg [I p1.fLaw.fFrames,I p1.fLaw.fPins,I p1.fLaw.fBalls,I p1.fLaw.fTap,I p1.fAt.fFrame,I p1.fAt.fThrown,I p1.fAt.fStanding,.bool p1.fAt.fFresh,I p1.fAt.fNeed,I p1.fAt.fAfter.a0,I p1.fAt.fAfter.a1])] [] fun e os=>e=.ret (.d (I r))∧os=[]:=by
  refine ah (fresh:=false) al ap ⟨[1],[],[],[],[],0,[]⟩ Tryz.func73 rfl Tryz.call73 rfl ?_
  unfold gE at h
  (conv=>whnf);cases h;exact rfl
theorem gQ{N:Nat}(hN:N≤1073741824){l1:FrameLaw}{sheet1:List Int}{r:Int}(h:g9 N l1 sheet1=some r) :
    ACalls Tryz.prog 72 [.d (.agg [I l1.fFrames,I l1.fPins,I l1.fBalls,I l1.fTap]),.d (.list 1 (List.map I sheet1)),.d (.agg [.fn (.func 73) [] []])] [] fun e os=>e=.ret (.d (I r))∧os=[]:=by
  refine ah (fresh:=false) al ap ⟨[3,5],[],[],[],[4,1002],0,[]⟩ Tryz.func72 rfl Tryz.call72 rfl ?_
  unfold g9 at h
  obtain⟨r2,hx2,h⟩:=ab h;(conv=>whnf);refine CallG.pure _ (jM hN hx2) ?_;obtain⟨n6,hx54,h⟩:=ab h;(conv=>whnf);refine SeqG.mk Unit (fun y=>[(7,.d (I n6))]) (fun y=>[]) (fun _=>True) ?_ ?_
  ·obtain⟨r37,hx56,hx54⟩:=ab hx54;(conv=>whnf);refine CallG.pure _ (zG hN hx56) ?_;(conv=>whnf);intro b55;refine ws ?_;(conv=>whnf);refine LoopG.mk (Nat×(Int×FramePlay)×Nat) (fun y=>[(5,.d (.ref (.agg [.fn (.func 73) [] []]))),(7,.d (I y.2.1.1)),(8,.ptr 8 y.2.2 0)]) (fun y=>[(8,.cells y.2.2 [.d (I y.2.1.2.fLaw.fFrames),.d (I y.2.1.2.fLaw.fPins),.d (I y.2.1.2.fLaw.fBalls),.d (I y.2.1.2.fLaw.fTap),.d (I y.2.1.2.fAt.fFrame),.d (I y.2.1.2.fAt.fThrown),.d (I y.2.1.2.fAt.fStanding),.d (.bool y.2.1.2.fAt.fFresh),.d (I y.2.1.2.fAt.fNeed),.d (I y.2.1.2.fAt.fAfter.a0),.d (I y.2.1.2.fAt.fAfter.a1)])]) (fun y=>aj (fun rr x=>cu N rr x.1 x.2) y.1 y.2.1=some n6) (fun y=>y.1) (N,(r2,r37),b55) hx54 (Sub.eq rfl ?_ ?_) ?_
   ·(repeat ((conv=>whnf);refine nr ?_));exact trivial
   ·(conv=>whnf);refine no ?_;exact trivial
   ·rintro⟨n11,⟨n10,p8⟩,bb28⟩ hl2;obtain⟨n11,rfl,hl2⟩:=ar hl2;replace hl2:cu N (aj (fun rr x=>cu N rr x.1 x.2) n11) n10 p8=some n6:=hl2;rw[cu]at hl2;refine ws ?_;obtain⟨r62,hx93,hl2⟩:=ab hl2;(conv=>whnf);refine CallG.pure _ (eT hN hx93) ?_;refine wB (fun hc12=>?_) (fun hc12=>?_)
    ·replace hl2:=af hc12 hl2;obtain⟨⟨worth24,now24⟩,hx102,hl2⟩:=ab hl2;(conv=>whnf);refine SeqG.mk Nat (fun y=>[(5,.d (.ref (.agg [.fn (.func 73) [] []]))),(7,.d (I n10)),(8,.ptr 8 bb28 0),(9,.ptr 9 y 0),(11,.d (I worth24))]) (fun y=>[(8,.cells bb28 [.d (I p8.fLaw.fFrames),.d (I p8.fLaw.fPins),.d (I p8.fLaw.fBalls),.d (I p8.fLaw.fTap),.d (I p8.fAt.fFrame),.d (I p8.fAt.fThrown),.d (I p8.fAt.fStanding),.d (.bool p8.fAt.fFresh),.d (I p8.fAt.fNeed),.d (I p8.fAt.fAfter.a0),.d (I p8.fAt.fAfter.a1)]),(9,.cells y [.d (I now24.fLaw.fFrames),.d (I now24.fLaw.fPins),.d (I now24.fLaw.fBalls),.d (I now24.fLaw.fTap),.d (I now24.fAt.fFrame),.d (I now24.fAt.fThrown),.d (I now24.fAt.fStanding),.d (.bool now24.fAt.fFresh),.d (I now24.fAt.fNeed),.d (I now24.fAt.fAfter.a0),.d (I now24.fAt.fAfter.a1)])]) (fun _=>True) ?_ ?_
     ·obtain⟨r67,hx103,hx102⟩:=ab hx102;obtain⟨⟨ra24,rb24,rc24⟩,hx104,hx102⟩:=ab hx102;(conv=>whnf);refine DrawG.mk (.take 0 (.take 1 (.take 2 (.take 3 (.alt 4 [1,0] (.alt 5 [1] (.take 6 (.take 7 (.take 8 (.take 9 (.alt 10 [9,8,7,6,1] (.alt 11 [9,8] (.take 12 (.take 13 .done)) .nil) .nil))))) (.alt 10 [1,0] (.alt 5 [1] (.take 6 (.take 7 (.take 8 (.take 9 (.alt 11 [9,8] (.take 12 (.take 13 .done)) .nil))))) .nil) .nil)) (.alt 10 [3,2,1,0] (.alt 4 [1,0] (.alt 5 [1] (.take 6 (.take 7 (.take 8 (.take 9 (.alt 11 [9,8] (.take 12 (.take 13 .done)) .nil))))) .nil) .nil) .nil)))))) (by kernel_rfl) ?_;(iterate 2 refine ws ?_);(conv=>whnf);refine Both.mk ?_ ?_
      ·(conv=>whnf);refine CallG.pure _ (jn hN hx103) ?_;refine wl ?_;refine ws ?_;refine wl ?_;(conv=>whnf);refine Both.mk ?_ ?_
       ·(conv=>whnf);refine CallG.pure _ (aS hN hx104) ?_;refine wl ?_;refine wb ?_;(conv=>whnf);intro b103;(iterate 5 refine wl ?_);refine wb ?_;refine ws ?_;(iterate 2 refine wl ?_);cases hx102;(conv=>whnf);exact⟨b103,trivial,kW⟩
       ·refine wb ?_;(conv=>whnf);intro b104;refine wl ?_;refine ws ?_;refine wl ?_;refine wb ?_;(conv=>whnf);refine CallG.pure _ (aS hN hx104) ?_;refine wl ?_;refine wb ?_;refine ws ?_;(iterate 2 refine wl ?_);cases hx102;(conv=>whnf);exact⟨b104,trivial,kW⟩
      ·refine wb ?_;(conv=>whnf);intro b105;refine ws ?_;(iterate 3 refine wl ?_);refine ws ?_;refine wl ?_;refine wb ?_;(conv=>whnf);refine CallG.pure _ (jn hN hx103) ?_;refine wl ?_;refine ws ?_;refine wl ?_;refine wb ?_;(conv=>whnf);refine CallG.pure _ (aS hN hx104) ?_;refine wl ?_;refine wb ?_;refine ws ?_;(iterate 2 refine wl ?_);cases hx102;(conv=>whnf);exact⟨b105,trivial,kW⟩
     ·rintro bb32 _;obtain⟨r68,hx105,hl2⟩:=ab hl2;(conv=>whnf);refine DrawG.mk (.take 0 (.take 1 (.take 4 (.alt 2 [4] (.alt 3 [4] (.take 5 (.alt 6 [] .done .nil)) .nil) .nil)))) (by kernel_rfl) ?_;refine ws ?_;refine wb ?_;(conv=>whnf);intro hd24;refine ws ?_;refine wl ?_;refine wb ?_;refine ws ?_;(conv=>whnf);refine CallG.pure _ (gv hN hx105) ?_;refine ws ?_;refine wl ?_;refine wb ?_;(iterate 2 refine ws ?_);(conv=>whnf);intro b106;refine ws ?_;(conv=>whnf);refine⟨(n11,(r68,now24),b106),hl2,Sub.eq rfl ?_ ?_,Nat.lt_succ_self _⟩
      ·(repeat ((conv=>whnf);refine nr ?_));exact trivial
      ·(conv=>whnf);refine no ?_;exact trivial
    ·replace hl2:=ag hc12 hl2;cases hl2;(conv=>whnf);exact⟨(),trivial,kW⟩
  ·rintro _ _;(conv=>whnf);cases h;exact rfl
theorem jN{N:Nat}(hN:N≤1073741824){p1:FramePlay}{r:Int}(h:ia N p1=some r) :
    ACalls Tryz.prog 74 [.d (.agg [I p1.fLaw.fFrames,I p1.fLaw.fPins,I p1.fLaw.fBalls,I p1.fLaw.fTap,I p1.fAt.fFrame,I p1.fAt.fThrown,I p1.fAt.fStanding,.bool p1.fAt.fFresh,I p1.fAt.fNeed,I p1.fAt.fAfter.a0,I p1.fAt.fAfter.a1])] [] fun e os=>e=.ret (.d (I r))∧os=[]:=by
  refine ah (fresh:=false) al ap ⟨[1],[],[],[],[],0,[]⟩ Tryz.func74 rfl Tryz.call74 rfl ?_
  unfold ia at h
  (conv=>whnf);cases h;exact rfl
theorem f5{N:Nat}(hN:N≤1073741824){l1:FrameLaw}{sheet1:List Int}{r:Int}(h:gF N l1 sheet1=some r) :
    ACalls Tryz.prog 72 [.d (.agg [I l1.fFrames,I l1.fPins,I l1.fBalls,I l1.fTap]),.d (.list 1 (List.map I sheet1)),.d (.agg [.fn (.func 74) [] []])] [] fun e os=>e=.ret (.d (I r))∧os=[]:=by
  refine ah (fresh:=false) al ap ⟨[3,5],[],[],[],[4,1002],0,[]⟩ Tryz.func72 rfl Tryz.call72 rfl ?_
  unfold gF at h
  obtain⟨r2,hx2,h⟩:=ab h;(conv=>whnf);refine CallG.pure _ (jM hN hx2) ?_;obtain⟨n6,hx54,h⟩:=ab h;(conv=>whnf);refine SeqG.mk Unit (fun y=>[(7,.d (I n6))]) (fun y=>[]) (fun _=>True) ?_ ?_
  ·obtain⟨r37,hx56,hx54⟩:=ab hx54;(conv=>whnf);refine CallG.pure _ (zG hN hx56) ?_;(conv=>whnf);intro b55;refine ws ?_;(conv=>whnf);refine LoopG.mk (Nat×(Int×FramePlay)×Nat) (fun y=>[(5,.d (.ref (.agg [.fn (.func 74) [] []]))),(7,.d (I y.2.1.1)),(8,.ptr 8 y.2.2 0)]) (fun y=>[(8,.cells y.2.2 [.d (I y.2.1.2.fLaw.fFrames),.d (I y.2.1.2.fLaw.fPins),.d (I y.2.1.2.fLaw.fBalls),.d (I y.2.1.2.fLaw.fTap),.d (I y.2.1.2.fAt.fFrame),.d (I y.2.1.2.fAt.fThrown),.d (I y.2.1.2.fAt.fStanding),.d (.bool y.2.1.2.fAt.fFresh),.d (I y.2.1.2.fAt.fNeed),.d (I y.2.1.2.fAt.fAfter.a0),.d (I y.2.1.2.fAt.fAfter.a1)])]) (fun y=>aj (fun rr x=>ce N rr x.1 x.2) y.1 y.2.1=some n6) (fun y=>y.1) (N,(r2,r37),b55) hx54 (Sub.eq rfl ?_ ?_) ?_
   ·(repeat ((conv=>whnf);refine nr ?_));exact trivial
   ·(conv=>whnf);refine no ?_;exact trivial
   ·rintro⟨n11,⟨n10,p8⟩,bb28⟩ hl2;obtain⟨n11,rfl,hl2⟩:=ar hl2;replace hl2:ce N (aj (fun rr x=>ce N rr x.1 x.2) n11) n10 p8=some n6:=hl2;rw[ce]at hl2;refine ws ?_;obtain⟨r62,hx93,hl2⟩:=ab hl2;(conv=>whnf);refine CallG.pure _ (eT hN hx93) ?_;refine wB (fun hc12=>?_) (fun hc12=>?_)
    ·replace hl2:=af hc12 hl2;obtain⟨⟨worth24,now24⟩,hx102,hl2⟩:=ab hl2;(conv=>whnf);refine SeqG.mk Nat (fun y=>[(5,.d (.ref (.agg [.fn (.func 74) [] []]))),(7,.d (I n10)),(8,.ptr 8 bb28 0),(9,.ptr 9 y 0),(11,.d (I worth24))]) (fun y=>[(8,.cells bb28 [.d (I p8.fLaw.fFrames),.d (I p8.fLaw.fPins),.d (I p8.fLaw.fBalls),.d (I p8.fLaw.fTap),.d (I p8.fAt.fFrame),.d (I p8.fAt.fThrown),.d (I p8.fAt.fStanding),.d (.bool p8.fAt.fFresh),.d (I p8.fAt.fNeed),.d (I p8.fAt.fAfter.a0),.d (I p8.fAt.fAfter.a1)]),(9,.cells y [.d (I now24.fLaw.fFrames),.d (I now24.fLaw.fPins),.d (I now24.fLaw.fBalls),.d (I now24.fLaw.fTap),.d (I now24.fAt.fFrame),.d (I now24.fAt.fThrown),.d (I now24.fAt.fStanding),.d (.bool now24.fAt.fFresh),.d (I now24.fAt.fNeed),.d (I now24.fAt.fAfter.a0),.d (I now24.fAt.fAfter.a1)])]) (fun _=>True) ?_ ?_
     ·obtain⟨r67,hx103,hx102⟩:=ab hx102;obtain⟨⟨ra24,rb24,rc24⟩,hx104,hx102⟩:=ab hx102;(conv=>whnf);refine DrawG.mk (.take 0 (.take 1 (.take 2 (.take 3 (.alt 4 [1,0] (.alt 5 [1] (.take 6 (.take 7 (.take 8 (.take 9 (.alt 10 [9,8,7,6,1] (.alt 11 [9,8] (.take 12 (.take 13 .done)) .nil) .nil))))) (.alt 10 [1,0] (.alt 5 [1] (.take 6 (.take 7 (.take 8 (.take 9 (.alt 11 [9,8] (.take 12 (.take 13 .done)) .nil))))) .nil) .nil)) (.alt 10 [3,2,1,0] (.alt 4 [1,0] (.alt 5 [1] (.take 6 (.take 7 (.take 8 (.take 9 (.alt 11 [9,8] (.take 12 (.take 13 .done)) .nil))))) .nil) .nil) .nil)))))) (by kernel_rfl) ?_;(iterate 2 refine ws ?_);(conv=>whnf);refine Both.mk ?_ ?_
      ·(conv=>whnf);refine CallG.pure _ (jN hN hx103) ?_;refine wl ?_;refine ws ?_;refine wl ?_;(conv=>whnf);refine Both.mk ?_ ?_
       ·(conv=>whnf);refine CallG.pure _ (aS hN hx104) ?_;refine wl ?_;refine wb ?_;(conv=>whnf);intro b103;(iterate 5 refine wl ?_);refine wb ?_;refine ws ?_;(iterate 2 refine wl ?_);cases hx102;(conv=>whnf);exact⟨b103,trivial,kW⟩
       ·refine wb ?_;(conv=>whnf);intro b104;refine wl ?_;refine ws ?_;refine wl ?_;refine wb ?_;(conv=>whnf);refine CallG.pure _ (aS hN hx104) ?_;refine wl ?_;refine wb ?_;refine ws ?_;(iterate 2 refine wl ?_);cases hx102;(conv=>whnf);exact⟨b104,trivial,kW⟩
      ·refine wb ?_;(conv=>whnf);intro b105;refine ws ?_;(iterate 3 refine wl ?_);refine ws ?_;refine wl ?_;refine wb ?_;(conv=>whnf);refine CallG.pure _ (jN hN hx103) ?_;refine wl ?_;refine ws ?_;refine wl ?_;refine wb ?_;(conv=>whnf);refine CallG.pure _ (aS hN hx104) ?_;refine wl ?_;refine wb ?_;refine ws ?_;(iterate 2 refine wl ?_);cases hx102;(conv=>whnf);exact⟨b105,trivial,kW⟩
     ·rintro bb32 _;obtain⟨r68,hx105,hl2⟩:=ab hl2;(conv=>whnf);refine DrawG.mk (.take 0 (.take 1 (.take 4 (.alt 2 [4] (.alt 3 [4] (.take 5 (.alt 6 [] .done .nil)) .nil) .nil)))) (by kernel_rfl) ?_;refine ws ?_;refine wb ?_;(conv=>whnf);intro hd24;refine ws ?_;refine wl ?_;refine wb ?_;refine ws ?_;(conv=>whnf);refine CallG.pure _ (gv hN hx105) ?_;refine ws ?_;refine wl ?_;refine wb ?_;(iterate 2 refine ws ?_);(conv=>whnf);intro b106;refine ws ?_;(conv=>whnf);refine⟨(n11,(r68,now24),b106),hl2,Sub.eq rfl ?_ ?_,Nat.lt_succ_self _⟩
      ·(repeat ((conv=>whnf);refine nr ?_));exact trivial
      ·(conv=>whnf);refine no ?_;exact trivial
    ·replace hl2:=ag hc12 hl2;cases hl2;(conv=>whnf);exact⟨(),trivial,kW⟩
  ·rintro _ _;(conv=>whnf);cases h;exact rfl
theorem oJ{N:Nat}(hN:N≤1073741824){l1:FrameLaw}{sheet1:List Int}{r:FrameRange}(h:iU N l1 sheet1=some r) :
    ACalls Tryz.prog 54 [.d (.agg [I l1.fFrames,I l1.fPins,I l1.fBalls,I l1.fTap]),.d (.list 1 (List.map I sheet1))] [] fun e os=>e=.ret (.d (.agg [I r.fLo,I r.fHi]))∧os=[]:=by
  refine ah (fresh:=false) al ap ⟨[2],[],[],[],[1],0,[]⟩ Tryz.func54 rfl Tryz.call54 rfl ?_
  unfold iU at h
  (conv=>whnf);intro b2;obtain⟨c2,hx3,h⟩:=ab h;(conv=>whnf);refine SeqG.mk Unit (fun y=>[(4,.ptr 4 b2 0)]) (fun y=>[(4,.cells b2 [.d (I c2.fLo),.d (I c2.fHi)])]) (fun _=>True) ?_ ?_
  ·obtain⟨r3,hx4,hx3⟩:=ab hx3;obtain⟨r4,hx5,hx3⟩:=ab hx3;(conv=>whnf);refine DrawG.mk (.take 0 (.take 1 (.take 4 (.take 5 (.alt 2 [5,4,1,0] (.alt 3 [5,4] (.alt 6 [5,4] (.alt 7 [] (.alt 8 [] (.alt 9 [] .done .nil) .nil) .nil) .nil) (.alt 6 [5,4,1,0] (.alt 3 [5,4] (.alt 7 [] (.alt 8 [] (.alt 9 [] .done .nil) .nil) .nil) .nil) .nil)) (.alt 6 [5,4,1,0] (.alt 2 [5,4,1,0] (.alt 3 [5,4] (.alt 7 [] (.alt 8 [] (.alt 9 [] .done .nil) .nil) .nil) .nil) .nil) .nil)))))) (by kernel_rfl) ?_;(conv=>whnf);refine Both.mk ?_ ?_
   ·(iterate 4 refine wl ?_);(conv=>whnf);refine Both.mk ?_ ?_
    ·(conv=>whnf);refine CallG.pure _ (gQ hN hx4) ?_;(iterate 2 refine wl ?_);refine wb ?_;(iterate 2 refine wl ?_);refine wb ?_;(conv=>whnf);refine CallG.pure _ (f5 hN hx5) ?_;refine wb ?_;refine wb ?_;refine ws ?_;cases hx3;(conv=>whnf);refine⟨(),trivial,Sub.eq rfl ?_ ?_⟩
     ·(repeat ((conv=>whnf);refine nr ?_));exact trivial
     ·(conv=>whnf);refine no ?_;exact trivial
    ·refine wb ?_;(iterate 4 refine wl ?_);refine wb ?_;(conv=>whnf);refine CallG.pure _ (gQ hN hx4) ?_;(iterate 2 refine wl ?_);refine wb ?_;(conv=>whnf);refine CallG.pure _ (f5 hN hx5) ?_;refine wb ?_;refine wb ?_;refine ws ?_;cases hx3;(conv=>whnf);refine⟨(),trivial,Sub.eq rfl ?_ ?_⟩
     ·(repeat ((conv=>whnf);refine nr ?_));exact trivial
     ·(conv=>whnf);refine no ?_;exact trivial
   ·refine wb ?_;(iterate 4 refine wl ?_);refine wb ?_;(iterate 4 refine wl ?_);refine wb ?_;(conv=>whnf);refine CallG.pure _ (gQ hN hx4) ?_;(iterate 2 refine wl ?_);refine wb ?_;(conv=>whnf);refine CallG.pure _ (f5 hN hx5) ?_;refine wb ?_;refine wb ?_;refine ws ?_;cases hx3;(conv=>whnf);refine⟨(),trivial,Sub.eq rfl ?_ ?_⟩
    ·(repeat ((conv=>whnf);refine nr ?_));exact trivial
    ·(conv=>whnf);refine no ?_;exact trivial
  ·rintro _ _;refine ws ?_;(conv=>whnf);cases h;exact rfl
theorem sj{N:Nat}(hN:N≤1073741824){l1:FrameLaw}{balls1:List Int}{r:FrameRange×Int}(h:lI N l1 balls1=some r) :
    ACalls Tryz.prog 28 [.d (.agg [I l1.fFrames,I l1.fPins,I l1.fBalls,I l1.fTap]),.d (.list 1 (List.map I balls1))] [] fun e os=>e=.ret (.d (.tup [.agg [I r.1.fLo,I r.1.fHi],I r.2]))∧os=[]:=by
  refine ah (fresh:=false) al ap ⟨[2],[],[],[],[],0,[]⟩ Tryz.func28 rfl Tryz.call28 rfl ?_
  unfold lI at h
  (conv=>whnf);intro b2;obtain⟨r4,hx4,h⟩:=ab h;(conv=>whnf);refine CallG.pure _ (jK hN hx4) ?_;refine wB (fun hc2=>?_) (fun hc2=>?_)
  ·replace h:=af hc2 h;cases h
  ·replace h:=ag hc2 h;obtain⟨r6,hx6,h⟩:=ab h;(conv=>whnf);refine CallG.pure _ (oJ hN hx6) ?_;(iterate 2 refine ws ?_);(conv=>whnf);cases h;exact rfl
theorem sn{N:Nat}(hN:N≤1073741824){lines1:List (List UInt8)}{lane1:Int}{r:(List Int)×Int×Int×Int}(h:lJ N lines1 lane1=some r) :
    ACalls Tryz.prog 12 [.d (.list 1 (List.map D.str lines1)),.d (I lane1)] [] fun e os=>e=.ret (.d (.tup [.list 1 (List.map I r.1),I r.2.1,I r.2.2.1,I r.2.2.2]))∧os=[]:=by
  refine ah (fresh:=false) al ap ⟨[],[],[],[],[5],0,[]⟩ Tryz.func12 rfl Tryz.call12 rfl ?_
  unfold lJ at h
  obtain⟨r4,hx4,h⟩:=ab h;(conv=>whnf);refine CallG.pure _ (gP hN hx4) ?_;refine wB (fun hc2=>?_) (fun hc2=>?_)
  ·replace h:=af hc2 h;cases h
  ·replace h:=ag hc2 h;obtain⟨⟨ra2,rb2⟩,hx6,h⟩:=ab h;(conv=>whnf);refine CallG.own (i7 hN hx6) id [] _ (fun y=>[(255003,.cells y (cW rb2))]) (ac _) trivial rfl trivial trivial (fun _=>AV.le_refl _) (fun _=>rfl) ?_;rintro b2 _;obtain⟨v4,hx14,h⟩:=ab h;(conv=>whnf)
   refine SeqG.mk Unit (fun y=>[(1,.d (I lane1)),(9,.ptr 255003 b2 0),(47,.d (.bool v4))]) (fun y=>[(255003,.cells b2 (cW rb2))]) (fun _=>True) ?_ ?_
   ·refine ws ?_;(conv=>whnf);refine LnA.mk _ (List.length_map _) ?_;obtain⟨r8,hx15,hx14⟩:=ab hx14;(conv=>whnf);refine CallG.pure _ (fO hN hx15) ?_;refine wB (fun hc7=>?_) (fun hc7=>?_)
    ·replace hx14:=ag hc7 hx14;refine ws ?_;obtain⟨x4,hx16,hx14⟩:=ab hx14;(conv=>whnf);refine Side.mk rfl ⟨_,aC hx16,ak _ hx16,?_⟩;cases hx14;(conv=>whnf);refine⟨(),trivial,Sub.eq rfl ?_ ?_⟩
     ·(repeat ((conv=>whnf);refine nr ?_));exact trivial
     ·(conv=>whnf);refine no ?_;exact trivial
    ·replace hx14:=af hc7 hx14;cases hx14;(conv=>whnf);refine⟨(),trivial,Sub.eq rfl ?_ ?_⟩
     ·(repeat ((conv=>whnf);refine nr ?_));exact trivial
     ·(conv=>whnf);refine no ?_;exact trivial
   ·rintro _ _;refine wB (fun hc8=>?_) (fun hc8=>?_)
    ·replace h:=af hc8 h;cases h
    ·replace h:=ag hc8 h;refine ws ?_;obtain⟨x6,hx18,h⟩:=ab h;(conv=>whnf);refine Side.mk rfl ⟨_,aC hx18,ak _ hx18,?_⟩;obtain⟨r10,hx21,h⟩:=ab h;(conv=>whnf);refine CallG.pure _ (fP hN hx21) ?_;obtain⟨⟨ra4,rb4⟩,hx22,h⟩:=ab h;(conv=>whnf);refine CallG.pure _ (cm hN hx22) ?_;(conv=>whnf);intro b4;refine ws ?_;obtain⟨r12,hx25,h⟩:=ab h;(conv=>whnf);refine CallG.pure _ (fP hN hx25) ?_;obtain⟨⟨ra6,rb6⟩,hx26,h⟩:=ab h;(conv=>whnf);refine CallG.pure _ (sj hN hx26) ?_;(conv=>whnf);intro b6;refine ws ?_;(conv=>whnf);refine DrawG.mk (.take 0 (.take 1 (.take 2 (.take 3 (.take 4 (.take 5 (.take 6 (.take 7 (.take 8 (.take 9 .done)))))))))) (by kernel_rfl) ?_;(iterate 3 refine ws ?_);(conv=>whnf);cases h;exact rfl
theorem ik{N:Nat}(hN:N≤1073741824){c1:DeskWork}{bo1:Nat}{r:RateBook}(h:eF N c1=some r) :
    ACalls Tryz.prog 31 [.ptr 255003 bo1 0] [(255003,.cells bo1 (cW c1))] fun ae os=>∃y:Unit,True∧ae=.ret (.d (.agg [I r.fLaw.fBase,I r.fLaw.fPercent,I r.fLaw.fCap,I r.fLaw.fLeast,I r.fLaw.fBlind,.list 1 (List.map I r.fBowlers),.list 6 (List.map RateSheet.enc r.fSheets),.list 1 (List.map I r.fWithdrawn)]))∧os=[(255003,.cells bo1 (cW c1))]:=by
  refine aJ (fresh:=false) al ap ⟨[],[],[],[],[],260000,[]⟩ Tryz.func31 rfl Tryz.call31 rfl ?_
  unfold eF at h
  (conv=>whnf);intro b2;(conv=>whnf);refine DrawG.mk (.take 1 (.take 2 (.take 3 (.take 4 (.take 5 (.take 6 (.take 7 (.take 8 (.take 9 (.take 10 (.take 11 (.take 12 (.take 13 (.take 14 (.take 15 (.alt 0 [15,14,13,12,11,10,9,8,7,6,5,4,3,2,1] (.alt 16 [14,13,12,11,9,8,7,6,4,3,2,1] (.alt 17 [] .done .nil) .nil) .nil)))))))))))))))) (by kernel_rfl) ?_;(iterate 3 refine ws ?_);refine wb ?_;refine ws ?_;(iterate 5 refine wl ?_);refine ws ?_;(iterate 5 refine wl ?_);refine ws ?_;(iterate 2 refine wl ?_);(conv=>whnf)
  refine nl ?_;(iterate 2 refine wl ?_);refine wb ?_;(iterate 12 refine wl ?_);refine wb ?_;(iterate 2 refine ws ?_);(conv=>whnf);cases h;exact⟨(),trivial,rfl,aA (ren:=id) (ai trivial)⟩
theorem fQ{N:Nat}(hN:N≤1073741824){n1:Int}{low1:Int}{high1:Int}{r:Bool}(h:dZ N n1 low1 high1=some r) :
    ACalls Tryz.prog 102 [.d (I n1),.d (I low1),.d (I high1)] [] fun e os=>e=.ret (.d (.bool r))∧os=[]:=by
  refine ah (fresh:=false) al ap ⟨[],[],[],[],[1],0,[]⟩ Tryz.func102 rfl Tryz.call102 rfl ?_
  unfold dZ at h
  obtain⟨v2,hx1,h⟩:=ab h;(conv=>whnf);refine SeqG.mk Unit (fun y=>[(6,.d (.bool v2))]) (fun y=>[]) (fun _=>True) ?_ ?_
  ·refine wB (fun hc2=>?_) (fun hc2=>?_)
   ·replace hx1:=af hc2 hx1;cases hx1;(conv=>whnf);exact⟨(),trivial,kW⟩
   ·replace hx1:=ag hc2 hx1;cases hx1;(conv=>whnf);exact⟨(),trivial,kW⟩
  ·rintro _ _;(conv=>whnf);cases h;exact rfl
theorem ja{N:Nat}(hN:N≤1073741824){n1:Int}{r:Bool}(h:gp N n1=some r) :
    ACalls Tryz.prog 108 [.d (I n1)] [] fun e os=>e=.ret (.d (.bool r))∧os=[]:=by
  refine ah (fresh:=false) al ap ⟨[],[],[],[],[],0,[]⟩ Tryz.func108 rfl Tryz.call108 rfl ?_
  unfold gp at h
  obtain⟨r2,hx2,h⟩:=ab h;(conv=>whnf);refine CallG.pure _ (fQ hN hx2) ?_;(conv=>whnf);cases h;exact rfl
theorem oK{N:Nat}(hN:N≤1073741824){l1:RateLaw}{r:Bool}(h:iV N l1=some r) :
    ACalls Tryz.prog 106 [.d (.agg [I l1.fBase,I l1.fPercent,I l1.fCap,I l1.fLeast,I l1.fBlind])] [] fun e os=>e=.ret (.d (.bool r))∧os=[]:=by
  refine ah (fresh:=false) al ap ⟨[1],[],[],[],[1],0,[]⟩ Tryz.func106 rfl Tryz.call106 rfl ?_
  unfold iV at h
  obtain⟨v2,hx6,h⟩:=ab h;(conv=>whnf);refine SeqG.mk Unit (fun y=>[(2,.d (.bool v2))]) (fun y=>[]) (fun _=>True) ?_ ?_
  ·obtain⟨r6,hx7,hx6⟩:=ab hx6;(conv=>whnf);refine CallG.pure _ (ja hN hx7) ?_;refine wB (fun hc5=>?_) (fun hc5=>?_)
   ·replace hx6:=af hc5 hx6;obtain⟨r7,hx8,hx6⟩:=ab hx6;(conv=>whnf);refine CallG.pure _ (fQ hN hx8) ?_;refine wB (fun hc6=>?_) (fun hc6=>?_)
    ·replace hx6:=af hc6 hx6;obtain⟨r8,hx9,hx6⟩:=ab hx6;(conv=>whnf);refine CallG.pure _ (ja hN hx9) ?_;refine wB (fun hc7=>?_) (fun hc7=>?_)
     ·replace hx6:=af hc7 hx6;obtain⟨r9,hx10,hx6⟩:=ab hx6;(conv=>whnf);refine CallG.pure _ (fQ hN hx10) ?_;refine wB (fun hc8=>?_) (fun hc8=>?_)
      ·replace hx6:=af hc8 hx6;obtain⟨r10,hx11,hx6⟩:=ab hx6;(conv=>whnf);refine CallG.pure _ (ja hN hx11) ?_;cases hx6;(conv=>whnf);exact⟨(),trivial,kW⟩
      ·replace hx6:=ag hc8 hx6;cases hx6;(conv=>whnf);exact⟨(),trivial,kW⟩
     ·replace hx6:=ag hc7 hx6;cases hx6;(conv=>whnf);exact⟨(),trivial,kW⟩
    ·replace hx6:=ag hc6 hx6;cases hx6;(conv=>whnf);exact⟨(),trivial,kW⟩
   ·replace hx6:=ag hc5 hx6;cases hx6;(conv=>whnf);exact⟨(),trivial,kW⟩
  ·rintro _ _;(conv=>whnf);cases h;exact rfl
theorem ul{N:Nat}(hN:N≤1073741824){x1:Int}{r:Bool}(h:nF N x1=some r) :
    ACalls Tryz.prog 153 [.d (I x1),.d (.ref (.agg [.fn (.func 108) [] []]))] [] fun e os=>e=.ret (.d (.bool r))∧os=[]:=by
  refine ah (fresh:=false) al ap ⟨[],[],[],[],[],0,[]⟩ Tryz.func153 rfl Tryz.call153 rfl ?_
  unfold nF at h
  obtain⟨r2,hx2,h⟩:=ab h;(conv=>whnf);refine CallG.pure _ (ja hN hx2) ?_;(conv=>whnf);cases h;exact rfl
theorem jq{N:Nat}(hN:N≤1073741824){s1:List Int}{r:Int}(h:dl N s1=some r) :
    ACalls Tryz.prog 195 [.d (.list 1 (List.map I s1)),.d (.fn (.func 153) [] [.ref (.agg [.fn (.func 108) [] []])])] [] fun e os=>e=.ret (.d (I r))∧os=[]:=by
  refine ah (fresh:=false) al ap ⟨[],[],[],[],[1001],0,[]⟩ Tryz.func195 rfl Tryz.call195 rfl ?_
  unfold dl at h
  (conv=>whnf);refine SeqG.mk Unit (fun y=>[]) (fun y=>[]) (fun y=>cy N=some r) ?_ ?_
  ·(conv=>whnf);refine LnA.mk _ (List.length_map _) ?_;(conv=>whnf);refine LoopG.mk (Nat×(Int×Int)) (fun y=>[(0,.d (.list 1 (List.map I s1))),(1,.d (.fn (.func 153) [] [.ref (.agg [.fn (.func 108) [] []])])),(7,.d (I y.2.1)),(8,.d (I y.2.2))]) (fun y=>[]) (fun y=>aj (fun rr x=>bc N s1 rr x.1 x.2) y.1 y.2=some r) (fun y=>y.1) (N,((s1.length:Int),0)) h (Sub.eq rfl ?_ ?_) ?_
   ·(repeat ((conv=>whnf);refine nr ?_));exact trivial
   ·exact trivial
   ·rintro⟨n2,⟨v17,v18⟩⟩ hl2;obtain⟨n2,rfl,hl2⟩:=ar hl2;replace hl2:bc N s1 (aj (fun rr x=>bc N s1 rr x.1 x.2) n2) v17 v18=some r:=hl2;rw[bc]at hl2;refine wB (fun hc22=>?_) (fun hc22=>?_)
    ·replace hl2:=af hc22 hl2;obtain⟨x24,hx47,hl2⟩:=ab hl2;(conv=>whnf);refine Side.mk rfl ⟨_,aC hx47,ak _ hx47,?_⟩;obtain⟨r24,hx48,hl2⟩:=ab hl2;(conv=>whnf);refine CallG.pure _ (ul hN hx48) ?_;refine wB (fun hc24=>?_) (fun hc24=>?_)
     ·replace hl2:=af hc24 hl2;(conv=>whnf);cases hl2;exact rfl
     ·replace hl2:=ag hc24 hl2;(conv=>whnf);exact⟨(n2,(v17,w64 (v18+1))),hl2,kW,Nat.lt_succ_self _⟩
    ·replace hl2:=ag hc22 hl2;(conv=>whnf);exact⟨(),hl2,kW⟩
  ·clear h;rintro _ h;unfold cy at h;(conv=>whnf);cases h;exact rfl
theorem iy{N:Nat}(hN:N≤1073741824){s1:List Int}{r:Bool}(h:cK N s1=some r) :
    ACalls Tryz.prog 152 [.d (.list 1 (List.map I s1)),.d (.fn (.func 153) [] [.ref (.agg [.fn (.func 108) [] []])])] [] fun e os=>e=.ret (.d (.bool r))∧os=[]:=by
  refine ah (fresh:=false) al ap ⟨[],[],[],[],[],0,[]⟩ Tryz.func152 rfl Tryz.call152 rfl ?_
  unfold cK at h
  obtain⟨r2,hx2,h⟩:=ab h;(conv=>whnf);refine CallG.pure _ (jq hN hx2) ?_;(conv=>whnf);cases h;exact rfl
theorem vM{N:Nat}(hN:N≤1073741824){l1:List Int}{r:Bool}(h:pW N l1=some r) :
    ACalls Tryz.prog 107 [.d (.list 1 (List.map I l1)),.d (.fn (.func 108) [] [])] [] fun e os=>e=.ret (.d (.bool r))∧os=[]:=by
  refine ah (fresh:=false) al ap ⟨[3],[],[],[],[],0,[]⟩ Tryz.func107 rfl Tryz.call107 rfl ?_
  unfold pW at h
  obtain⟨r2,hx2,h⟩:=ab h;(conv=>whnf);refine CallG.pure _ (iy hN hx2) ?_;(conv=>whnf);cases h;exact rfl
theorem jd{N:Nat}(hN:N≤1073741824){s1:List RateSheet}{f1:RateBook}{r:Int}(h:cV N s1 f1=some r) :
    ACalls Tryz.prog 196 [.d (.list 6 (List.map RateSheet.enc s1)),.d (.fn (.func 155) [] [.ref (.agg [.fn (.func 110) [.agg [I f1.fLaw.fBase,I f1.fLaw.fPercent,I f1.fLaw.fCap,I f1.fLaw.fLeast,I f1.fLaw.fBlind,.list 1 (List.map I f1.fBowlers),.list 6 (List.map RateSheet.enc f1.fSheets),.list 1 (List.map I f1.fWithdrawn)]] []])])] [] fun e os=>e=.ret (.d (I r))∧os=[]:=by
  refine ah (fresh:=false) al ap ⟨[],[],[],[],[1001],0,[]⟩ Tryz.func196 rfl Tryz.call196 rfl ?_
  unfold cV at h
  obtain⟨_,hx13,h⟩:=ab h;(conv=>whnf);refine SeqG.mk Unit (fun y=>[]) (fun y=>[]) (fun _=>True) ?_ ?_
  ·(conv=>whnf);refine LnA.mk _ (List.length_map _) ?_;(conv=>whnf);refine LoopG.mk (Nat×Int) (fun y=>[(0,.d (.list 6 (List.map RateSheet.enc s1))),(1,.d (.fn (.func 155) [] [.ref (.agg [.fn (.func 110) [.agg [I f1.fLaw.fBase,I f1.fLaw.fPercent,I f1.fLaw.fCap,I f1.fLaw.fLeast,I f1.fLaw.fBlind,.list 1 (List.map I f1.fBowlers),.list 6 (List.map RateSheet.enc f1.fSheets),.list 1 (List.map I f1.fWithdrawn)]] []])])),(7,.d (I y.2)),(8,.i .i64 0)]) (fun y=>[]) (fun y=>aj (fun rr x=>xR N s1 rr x) y.1 y.2=some ()) (fun y=>y.1) (N,(s1.length:Int)) hx13 (Sub.eq rfl ?_ ?_) ?_
   ·(repeat ((conv=>whnf);refine nr ?_));exact trivial
   ·exact trivial
   ·rintro⟨n2,v10⟩ hl2;obtain⟨n2,rfl,hl2⟩:=ar hl2;replace hl2:xR N s1 (aj (fun rr x=>xR N s1 rr x) n2) v10=some ():=hl2;rw[xR]at hl2;refine wB (fun hc12=>?_) (fun hc12=>?_)
    ·replace hl2:=af hc12 hl2;obtain⟨x24,hx25,hl2⟩:=ab hl2;(conv=>whnf);refine Side.mk rfl ⟨_,aC hx25,ak _ hx25,?_⟩;cases hl2
    ·replace hl2:=ag hc12 hl2;(conv=>whnf);exact⟨(),trivial,kW⟩
  ·rintro _ _;(conv=>whnf);cases h;exact rfl
theorem zQ{N:Nat}(hN:N≤1073741824){s1:List RateSheet}{f1:RateBook}{r:Bool}(h:cz N s1 f1=some r) :
    ACalls Tryz.prog 154 [.d (.list 6 (List.map RateSheet.enc s1)),.d (.fn (.func 155) [] [.ref (.agg [.fn (.func 110) [.agg [I f1.fLaw.fBase,I f1.fLaw.fPercent,I f1.fLaw.fCap,I f1.fLaw.fLeast,I f1.fLaw.fBlind,.list 1 (List.map I f1.fBowlers),.list 6 (List.map RateSheet.enc f1.fSheets),.list 1 (List.map I f1.fWithdrawn)]] []])])] [] fun e os=>e=.ret (.d (.bool r))∧os=[]:=by
  refine ah (fresh:=false) al ap ⟨[],[],[],[],[],0,[]⟩ Tryz.func154 rfl Tryz.call154 rfl ?_
  unfold cz at h
  obtain⟨r2,hx2,h⟩:=ab h;(conv=>whnf);refine CallG.pure _ (jd hN hx2) ?_;(conv=>whnf);cases h;exact rfl
theorem um{N:Nat}(hN:N≤1073741824){l1:List RateSheet}{right1:RateBook}{r:Bool}(h:nG N l1 right1=some r) :
    ACalls Tryz.prog 109 [.d (.list 6 (List.map RateSheet.enc l1)),.d (.fn (.func 110) [.agg [I right1.fLaw.fBase,I right1.fLaw.fPercent,I right1.fLaw.fCap,I right1.fLaw.fLeast,I right1.fLaw.fBlind,.list 1 (List.map I right1.fBowlers),.list 6 (List.map RateSheet.enc right1.fSheets),.list 1 (List.map I right1.fWithdrawn)]] [])] [] fun e os=>e=.ret (.d (.bool r))∧os=[]:=by
  refine ah (fresh:=false) al ap ⟨[3],[],[],[],[],0,[]⟩ Tryz.func109 rfl Tryz.call109 rfl ?_
  unfold nG at h
  obtain⟨r2,hx2,h⟩:=ab h;(conv=>whnf);refine CallG.pure _ (zQ hN hx2) ?_;(conv=>whnf);cases h;exact rfl
theorem zo{N:Nat}(hN:N≤1073741824){s1:List Int}{r:Int}(h:yu N s1=some r) :
    ACalls Tryz.prog 195 [.d (.list 1 (List.map I s1)),.d (.fn (.func 153) [] [.ref (.agg [.fn (.func 111) [] []])])] [] fun e os=>e=.ret (.d (I r))∧os=[]:=by
  refine ah (fresh:=false) al ap ⟨[],[],[],[],[1001],0,[]⟩ Tryz.func195 rfl Tryz.call195 rfl ?_
  unfold yu at h
  obtain⟨_,hx13,h⟩:=ab h;(conv=>whnf);refine SeqG.mk Unit (fun y=>[]) (fun y=>[]) (fun _=>True) ?_ ?_
  ·(conv=>whnf);refine LnA.mk _ (List.length_map _) ?_;(conv=>whnf);refine LoopG.mk (Nat×Int) (fun y=>[(0,.d (.list 1 (List.map I s1))),(1,.d (.fn (.func 153) [] [.ref (.agg [.fn (.func 111) [] []])])),(7,.d (I y.2)),(8,.i .i64 0)]) (fun y=>[]) (fun y=>aj (fun rr x=>xQ N s1 rr x) y.1 y.2=some ()) (fun y=>y.1) (N,(s1.length:Int)) hx13 (Sub.eq rfl ?_ ?_) ?_
   ·(repeat ((conv=>whnf);refine nr ?_));exact trivial
   ·exact trivial
   ·rintro⟨n2,v10⟩ hl2;obtain⟨n2,rfl,hl2⟩:=ar hl2;replace hl2:xQ N s1 (aj (fun rr x=>xQ N s1 rr x) n2) v10=some ():=hl2;rw[xQ]at hl2;refine wB (fun hc12=>?_) (fun hc12=>?_)
    ·replace hl2:=af hc12 hl2;obtain⟨x24,hx25,hl2⟩:=ab hl2;(conv=>whnf);refine Side.mk rfl ⟨_,aC hx25,ak _ hx25,?_⟩;cases hl2
    ·replace hl2:=ag hc12 hl2;(conv=>whnf);exact⟨(),trivial,kW⟩
  ·rintro _ _;(conv=>whnf);cases h;exact rfl
theorem gR{N:Nat}(hN:N≤1073741824){s1:List Int}{r:Bool}(h:ck N s1=some r) :
    ACalls Tryz.prog 152 [.d (.list 1 (List.map I s1)),.d (.fn (.func 153) [] [.ref (.agg [.fn (.func 111) [] []])])] [] fun e os=>e=.ret (.d (.bool r))∧os=[]:=by
  refine ah (fresh:=false) al ap ⟨[],[],[],[],[],0,[]⟩ Tryz.func152 rfl Tryz.call152 rfl ?_
  unfold ck at h
  obtain⟨r2,hx2,h⟩:=ab h;(conv=>whnf);refine CallG.pure _ (zo hN hx2) ?_;(conv=>whnf);cases h;exact rfl
theorem so{N:Nat}(hN:N≤1073741824){l1:List Int}{r:Bool}(h:lK N l1=some r) :
    ACalls Tryz.prog 107 [.d (.list 1 (List.map I l1)),.d (.fn (.func 111) [] [])] [] fun e os=>e=.ret (.d (.bool r))∧os=[]:=by
  refine ah (fresh:=false) al ap ⟨[3],[],[],[],[],0,[]⟩ Tryz.func107 rfl Tryz.call107 rfl ?_
  unfold lK at h
  obtain⟨r2,hx2,h⟩:=ab h;(conv=>whnf);refine CallG.pure _ (gR hN hx2) ?_;(conv=>whnf);cases h;exact rfl
theorem ro{N:Nat}(hN:N≤1073741824){l1:List Int}{r:Bool}(h:Aq N l1=some r) :
    ACalls Tryz.prog 112 [.d (.list 1 (List.map I l1))] [] fun e os=>e=.ret (.d (.bool r))∧os=[]:=by
  refine ah (fresh:=false) al ap ⟨[],[],[],[],[1001],0,[]⟩ Tryz.func112 rfl Tryz.call112 rfl ?_
  unfold Aq at h
  obtain⟨_,hx1,h⟩:=ab h;(conv=>whnf);refine SeqG.mk Unit (fun y=>[]) (fun y=>[]) (fun _=>True) ?_ ?_
  ·(conv=>whnf);refine LnA.mk _ (List.length_map _) ?_;(conv=>whnf);refine LoopG.mk (Nat×Int) (fun y=>[(0,.d (.list 1 (List.map I l1))),(5,.d (I y.2)),(6,.i .i64 0)]) (fun y=>[]) (fun y=>aj (fun rr x=>dI N rr x) y.1 y.2=some ()) (fun y=>y.1) (N,(l1.length:Int)) hx1 (Sub.eq rfl ?_ ?_) ?_
   ·(repeat ((conv=>whnf);refine nr ?_));exact trivial
   ·exact trivial
   ·rintro⟨n2,v10⟩ hl2;obtain⟨n2,rfl,hl2⟩:=ar hl2;replace hl2:dI N (aj (fun rr x=>dI N rr x) n2) v10=some ():=hl2;rw[dI]at hl2;refine wB (fun hc12=>?_) (fun hc12=>?_)
    ·replace hl2:=af hc12 hl2;cases hl2
    ·replace hl2:=ag hc12 hl2;(conv=>whnf);exact⟨(),trivial,kW⟩
  ·rintro _ _;(conv=>whnf);cases h;exact rfl
theorem oc{N:Nat}(hN:N≤1073741824){b1:RateBook}{r:Int}(h:ic N b1=some r) :
    ACalls Tryz.prog 82 [.d (.agg [I b1.fLaw.fBase,I b1.fLaw.fPercent,I b1.fLaw.fCap,I b1.fLaw.fLeast,I b1.fLaw.fBlind,.list 1 (List.map I b1.fBowlers),.list 6 (List.map RateSheet.enc b1.fSheets),.list 1 (List.map I b1.fWithdrawn)])] [] fun e os=>e=.ret (.d (I r))∧os=[]:=by
  refine ah (fresh:=false) al ap ⟨[1],[],[],[],[1,3,1005],0,[]⟩ Tryz.func82 rfl Tryz.call82 rfl ?_
  unfold ic at h
  obtain⟨v6,hx13,h⟩:=ab h;(conv=>whnf);refine SeqG.mk Unit (fun y=>[(1,.d (.ref (.agg [I b1.fLaw.fBase,I b1.fLaw.fPercent,I b1.fLaw.fCap,I b1.fLaw.fLeast,I b1.fLaw.fBlind,.list 1 (List.map I b1.fBowlers),.list 6 (List.map RateSheet.enc b1.fSheets),.list 1 (List.map I b1.fWithdrawn)]))),(7,.d (.bool v6))]) (fun y=>[]) (fun _=>True) ?_ ?_
  ·(conv=>whnf);refine LnA.mk _ (List.length_map _) ?_;refine wB (fun hc17=>?_) (fun hc17=>?_)
   ·replace hx13:=ag hc17 hx13;(conv=>whnf);refine LnA.mk _ (List.length_map _) ?_;refine wB (fun hc18=>?_) (fun hc18=>?_)
    ·replace hx13:=ag hc18 hx13;(conv=>whnf);refine LnA.mk _ (List.length_map _) ?_;cases hx13;(conv=>whnf);exact⟨(),trivial,kW⟩
    ·replace hx13:=af hc18 hx13;cases hx13;(conv=>whnf);exact⟨(),trivial,kW⟩
   ·replace hx13:=af hc17 hx13;cases hx13;(conv=>whnf);exact⟨(),trivial,kW⟩
  ·rintro _ _;refine wB (fun hc19=>?_) (fun hc19=>?_)
   ·replace h:=af hc19 h;cases h
   ·replace h:=ag hc19 h;obtain⟨v8,hx19,h⟩:=ab h;(conv=>whnf);refine SeqG.mk Unit (fun y=>[(1,.d (.ref (.agg [I b1.fLaw.fBase,I b1.fLaw.fPercent,I b1.fLaw.fCap,I b1.fLaw.fLeast,I b1.fLaw.fBlind,.list 1 (List.map I b1.fBowlers),.list 6 (List.map RateSheet.enc b1.fSheets),.list 1 (List.map I b1.fWithdrawn)]))),(24,.d (.bool v8))]) (fun y=>[]) (fun _=>True) ?_ ?_
    ·obtain⟨r16,hx20,hx19⟩:=ab hx19;(conv=>whnf);refine CallG.pure _ (oK hN hx20) ?_;refine wB (fun hc24=>?_) (fun hc24=>?_)
     ·replace hx19:=ag hc24 hx19;obtain⟨r17,hx21,hx19⟩:=ab hx19;(conv=>whnf);refine CallG.pure _ (vM hN hx21) ?_;refine wB (fun hc25=>?_) (fun hc25=>?_)
      ·replace hx19:=ag hc25 hx19;obtain⟨r18,hx22,hx19⟩:=ab hx19;(conv=>whnf);refine CallG.pure _ (um hN hx22) ?_;refine wB (fun hc26=>?_) (fun hc26=>?_)
       ·replace hx19:=ag hc26 hx19;obtain⟨r19,hx23,hx19⟩:=ab hx19;(conv=>whnf);refine CallG.pure _ (so hN hx23) ?_;refine wB (fun hc27=>?_) (fun hc27=>?_)
        ·replace hx19:=ag hc27 hx19;obtain⟨r20,hx24,hx19⟩:=ab hx19;(conv=>whnf);refine CallG.pure _ (ro hN hx24) ?_;cases hx19;(conv=>whnf);exact⟨(),trivial,kW⟩
        ·replace hx19:=af hc27 hx19;cases hx19;(conv=>whnf);exact⟨(),trivial,kW⟩
       ·replace hx19:=af hc26 hx19;cases hx19;(conv=>whnf);exact⟨(),trivial,kW⟩
      ·replace hx19:=af hc25 hx19;cases hx19;(conv=>whnf);exact⟨(),trivial,kW⟩
     ·replace hx19:=af hc24 hx19;cases hx19;(conv=>whnf);exact⟨(),trivial,kW⟩
    ·rintro _ _;refine wB (fun hc28=>?_) (fun hc28=>?_)
     ·replace h:=af hc28 h;cases h
     ·replace h:=ag hc28 h;obtain⟨_,hx37,h⟩:=ab h;(conv=>whnf);refine SeqG.mk Unit (fun y=>[]) (fun y=>[]) (fun _=>True) ?_ ?_
      ·(conv=>whnf);refine LnA.mk _ (List.length_map _) ?_;(conv=>whnf);refine LoopG.mk (Nat×Int) (fun y=>[(1,.d (.ref (.agg [I b1.fLaw.fBase,I b1.fLaw.fPercent,I b1.fLaw.fCap,I b1.fLaw.fLeast,I b1.fLaw.fBlind,.list 1 (List.map I b1.fBowlers),.list 6 (List.map RateSheet.enc b1.fSheets),.list 1 (List.map I b1.fWithdrawn)]))),(56,.d (.list 6 (List.map RateSheet.enc b1.fSheets))),(57,.d (I y.2)),(58,.i .i64 0)]) (fun y=>[]) (fun y=>aj (fun rr x=>cw N b1 rr x) y.1 y.2=some ()) (fun y=>y.1) (N,(b1.fSheets.length:Int)) hx37 (Sub.eq rfl ?_ ?_) ?_
       ·(repeat ((conv=>whnf);refine nr ?_));exact trivial
       ·exact trivial
       ·rintro⟨n2,v18⟩ hl2;obtain⟨n2,rfl,hl2⟩:=ar hl2;replace hl2:cw N b1 (aj (fun rr x=>cw N b1 rr x) n2) v18=some ():=hl2;rw[cw]at hl2;refine wB (fun hc40=>?_) (fun hc40=>?_)
        ·replace hl2:=af hc40 hl2;obtain⟨x24,hx49,hl2⟩:=ab hl2;(conv=>whnf);refine Side.mk rfl ⟨_,aC hx49,ak _ hx49,?_⟩;(conv=>whnf);intro b25;refine ws ?_;cases hl2
        ·replace hl2:=ag hc40 hl2;(conv=>whnf);exact⟨(),trivial,kW⟩
      ·rintro _ _;(conv=>whnf);cases h;exact rfl
theorem ke{N:Nat}(hN:N≤1073741824){b1:RateBook}{r:Int×Int×Int×Int×Int×Int×(List Int)×(List RateSheet)×(List Int)×(List (RateTurn×RateSheet))}(h:gg N b1=some r) :
    ACalls Tryz.prog 61 [.d (.agg [I b1.fLaw.fBase,I b1.fLaw.fPercent,I b1.fLaw.fCap,I b1.fLaw.fLeast,I b1.fLaw.fBlind,.list 1 (List.map I b1.fBowlers),.list 6 (List.map RateSheet.enc b1.fSheets),.list 1 (List.map I b1.fWithdrawn)])] [] fun ae os=>∃y:Nat×Nat,True∧ae=.ret (.tup [.ptr 310019 y.1 0,.d (I r.1)])∧os=[(310019,.cells y.1 [.d (I r.2.1),.d (I r.2.2.1),.d (I r.2.2.2.1),.d (I r.2.2.2.2.1),.d (I r.2.2.2.2.2.1),.d (.list 1 (List.map I r.2.2.2.2.2.2.1)),.d (.list 6 (List.map RateSheet.enc r.2.2.2.2.2.2.2.1)),.d (.list 1 (List.map I r.2.2.2.2.2.2.2.2.1)),.mp 310017 y.2]),(310017,.map y.2 (List.map (fun p=>(.agg [I p.1.fBowler,I p.1.fWeek],.agg [I p.2.fNumber,I p.2.fBowler,I p.2.fWeek,I p.2.fGames.a0,I p.2.fGames.a1,I p.2.fGames.a2])) r.2.2.2.2.2.2.2.2.2))]:=by
  refine aJ (fresh:=false) al ap ⟨[1],[],[],[],[1005],310000,[]⟩ Tryz.func61 rfl Tryz.call61 rfl ?_
  unfold gg at h
  obtain⟨r4,hx4,h⟩:=ab h;(conv=>whnf);refine CallG.pure _ (oc hN hx4) ?_;refine wB (fun hc2=>?_) (fun hc2=>?_)
  ·replace h:=af hc2 h;cases h
  ·replace h:=ag hc2 h;(conv=>whnf);intro b4;(conv=>whnf);intro b5;obtain⟨_,hx17,h⟩:=ab h;(conv=>whnf);refine SeqG.mk Unit (fun y=>[(5,.ptr 310019 b5 0)]) (fun y=>[(310019,.cells b5 [.d (I b1.fLaw.fBase),.d (I b1.fLaw.fPercent),.d (I b1.fLaw.fCap),.d (I b1.fLaw.fLeast),.d (I b1.fLaw.fBlind),.d (.list 1 (List.map I b1.fBowlers)),.d (.list 6 (List.map RateSheet.enc b1.fSheets)),.d (.list 1 (List.map I b1.fWithdrawn)),.mp 310017 b4]),(310017,.map b4 (List.map (fun p=>(.agg [I p.1.fBowler,I p.1.fWeek],.agg [I p.2.fNumber,I p.2.fBowler,I p.2.fWeek,I p.2.fGames.a0,I p.2.fGames.a1,I p.2.fGames.a2])) (([]:List (RateTurn×RateSheet)))))]) (fun _=>True) ?_ ?_
   ·(conv=>whnf);refine LnA.mk _ (List.length_map _) ?_;(conv=>whnf)
    refine LoopG.mk (Nat×Int) (fun y=>[(1,.d (.ref (.agg [I b1.fLaw.fBase,I b1.fLaw.fPercent,I b1.fLaw.fCap,I b1.fLaw.fLeast,I b1.fLaw.fBlind,.list 1 (List.map I b1.fBowlers),.list 6 (List.map RateSheet.enc b1.fSheets),.list 1 (List.map I b1.fWithdrawn)]))),(5,.ptr 310019 b5 0),(21,.d (.list 6 (List.map RateSheet.enc b1.fSheets))),(22,.d (I y.2)),(23,.i .i64 0)]) (fun y=>[(310019,.cells b5 [.d (I b1.fLaw.fBase),.d (I b1.fLaw.fPercent),.d (I b1.fLaw.fCap),.d (I b1.fLaw.fLeast),.d (I b1.fLaw.fBlind),.d (.list 1 (List.map I b1.fBowlers)),.d (.list 6 (List.map RateSheet.enc b1.fSheets)),.d (.list 1 (List.map I b1.fWithdrawn)),.mp 310017 b4]),(310017,.map b4 (List.map (fun p=>(.agg [I p.1.fBowler,I p.1.fWeek],.agg [I p.2.fNumber,I p.2.fBowler,I p.2.fWeek,I p.2.fGames.a0,I p.2.fGames.a1,I p.2.fGames.a2])) (([]:List (RateTurn×RateSheet)))))]) (fun y=>aj (fun rr x=>cO N b1 rr x) y.1 y.2=some ()) (fun y=>y.1) (N,(b1.fSheets.length:Int)) hx17 (Sub.eq rfl ?_ ?_) ?_
    ·(repeat ((conv=>whnf);refine nr ?_));exact trivial
    ·(iterate 2 ((conv=>whnf);refine no ?_));exact trivial
    ·rintro⟨n2,v10⟩ hl2;obtain⟨n2,rfl,hl2⟩:=ar hl2;replace hl2:cO N b1 (aj (fun rr x=>cO N b1 rr x) n2) v10=some ():=hl2;rw[cO]at hl2;refine wB (fun hc14=>?_) (fun hc14=>?_)
     ·replace hl2:=af hc14 hl2;obtain⟨x24,hx29,hl2⟩:=ab hl2;(conv=>whnf);refine Side.mk rfl ⟨_,aC hx29,ak _ hx29,?_⟩;(conv=>whnf);intro b29;refine ws ?_;cases hl2
     ·replace hl2:=ag hc14 hl2;(conv=>whnf);exact⟨(),trivial,kW⟩
   ·rintro _ _;(conv=>whnf);cases h;exact⟨(b5,b4),trivial,rfl,aA (ren:=id) (ai (ai trivial))⟩
theorem mI{N:Nat}(hN:N≤1073741824){b1:RateBook}{n1:Int}{r:Bool}(h:gG N b1 n1=some r) :
    ACalls Tryz.prog 75 [.d (.agg [I b1.fLaw.fBase,I b1.fLaw.fPercent,I b1.fLaw.fCap,I b1.fLaw.fLeast,I b1.fLaw.fBlind,.list 1 (List.map I b1.fBowlers),.list 6 (List.map RateSheet.enc b1.fSheets),.list 1 (List.map I b1.fWithdrawn)]),.d (I n1)] [] fun e os=>e=.ret (.d (.bool r))∧os=[]:=by
  refine ah (fresh:=false) al ap ⟨[2],[],[],[],[],0,[]⟩ Tryz.func75 rfl Tryz.call75 rfl ?_
  unfold gG at h
  (conv=>whnf);refine LnA.mk _ (List.length_map _) ?_;obtain⟨r2,hx2,h⟩:=ab h;(conv=>whnf);refine CallG.pure _ (fQ hN hx2) ?_;(conv=>whnf);cases h;exact rfl
theorem uo{N:Nat}(hN:N≤1073741824){n1:Int}{r:Bool}(h:nH N n1=some r) :
    ACalls Tryz.prog 76 [.d (I n1)] [] fun e os=>e=.ret (.d (.bool r))∧os=[]:=by
  refine ah (fresh:=false) al ap ⟨[],[],[],[],[],0,[]⟩ Tryz.func76 rfl Tryz.call76 rfl ?_
  unfold nH at h
  obtain⟨r2,hx2,h⟩:=ab h;(conv=>whnf);refine CallG.pure _ (fQ hN hx2) ?_;(conv=>whnf);cases h;exact rfl
theorem jP{N:Nat}(hN:N≤1073741824){b1:RateBook}{bowler1:Int}{w1:Int}{r:Int×Int×Int×Int×Int×Int×(List Int)×(List RateSheet)×(List Int)×(List (RateTurn×RateSheet))}(h:fm N b1 bowler1 w1=some r) :
    ACalls Tryz.prog 55 [.d (.agg [I b1.fLaw.fBase,I b1.fLaw.fPercent,I b1.fLaw.fCap,I b1.fLaw.fLeast,I b1.fLaw.fBlind,.list 1 (List.map I b1.fBowlers),.list 6 (List.map RateSheet.enc b1.fSheets),.list 1 (List.map I b1.fWithdrawn)]),.d (I bowler1),.d (I w1)] [] fun ae os=>∃y:Nat×Nat,True∧ae=.ret (.tup [.ptr 310019 y.1 0,.d (I r.1)])∧os=[(310019,.cells y.1 [.d (I r.2.1),.d (I r.2.2.1),.d (I r.2.2.2.1),.d (I r.2.2.2.2.1),.d (I r.2.2.2.2.2.1),.d (.list 1 (List.map I r.2.2.2.2.2.2.1)),.d (.list 6 (List.map RateSheet.enc r.2.2.2.2.2.2.2.1)),.d (.list 1 (List.map I r.2.2.2.2.2.2.2.2.1)),.mp 310017 y.2]),(310017,.map y.2 (List.map (fun p=>(.agg [I p.1.fBowler,I p.1.fWeek],.agg [I p.2.fNumber,I p.2.fBowler,I p.2.fWeek,I p.2.fGames.a0,I p.2.fGames.a1,I p.2.fGames.a2])) r.2.2.2.2.2.2.2.2.2))]:=by
  refine aJ (fresh:=false) al ap ⟨[3],[],[],[],[2],280000,[]⟩ Tryz.func55 rfl Tryz.call55 rfl ?_
  unfold fm at h
  obtain⟨⟨ra2,rb2,rc2,rd2,re2,rf2,rg2,rh2,ri2,rj2⟩,hx2,h⟩:=ab h;(conv=>whnf);refine CallG.own (ke hN hx2) id [] _ (fun y=>[(310019,.cells y.1 [.d (I rb2),.d (I rc2),.d (I rd2),.d (I re2),.d (I rf2),.d (.list 1 (List.map I rg2)),.d (.list 6 (List.map RateSheet.enc rh2)),.d (.list 1 (List.map I ri2)),.mp 310017 y.2]),(310017,.map y.2 (List.map (fun p=>(.agg [I p.1.fBowler,I p.1.fWeek],.agg [I p.2.fNumber,I p.2.fBowler,I p.2.fWeek,I p.2.fGames.a0,I p.2.fGames.a1,I p.2.fGames.a2])) rj2))]) (ac _) trivial rfl trivial trivial (fun _=>AV.le_refl _) (fun _=>rfl) ?_;rintro⟨b4,b5⟩ _;obtain⟨v4,hx10,h⟩:=ab h;(conv=>whnf)
  refine SeqG.mk Unit (fun y=>[(8,.ptr 310019 b4 0),(9,.d (I ra2)),(27,.d (.bool v4))]) (fun y=>[(310019,.cells b4 [.d (I rb2),.d (I rc2),.d (I rd2),.d (I re2),.d (I rf2),.d (.list 1 (List.map I rg2)),.d (.list 6 (List.map RateSheet.enc rh2)),.d (.list 1 (List.map I ri2)),.mp 310017 b5]),(310017,.map b5 (List.map (fun p=>(.agg [I p.1.fBowler,I p.1.fWeek],.agg [I p.2.fNumber,I p.2.fBowler,I p.2.fWeek,I p.2.fGames.a0,I p.2.fGames.a1,I p.2.fGames.a2])) rj2))]) (fun _=>True) ?_ ?_
  ·refine wB (fun hc8=>?_) (fun hc8=>?_)
   ·replace hx10:=af hc8 hx10;obtain⟨r7,hx11,hx10⟩:=ab hx10;(conv=>whnf);refine CallG.pure _ (mI hN hx11) ?_;refine wB (fun hc9=>?_) (fun hc9=>?_)
    ·replace hx10:=ag hc9 hx10;obtain⟨r8,hx12,hx10⟩:=ab hx10;(conv=>whnf);refine CallG.pure _ (uo hN hx12) ?_;cases hx10;(conv=>whnf);exact⟨(),trivial,kW⟩
    ·replace hx10:=af hc9 hx10;cases hx10;(conv=>whnf);exact⟨(),trivial,kW⟩
   ·replace hx10:=ag hc8 hx10;cases hx10;(conv=>whnf);exact⟨(),trivial,kW⟩
  ·rintro _ _;refine wB (fun hc10=>?_) (fun hc10=>?_)
   ·replace h:=af hc10 h;cases h
   ·replace h:=ag hc10 h;(conv=>whnf);cases h;exact⟨(b4,b5),trivial,rfl,aA (ren:=id) (ai (ai trivial))⟩
theorem vN{N:Nat}(hN:N≤1073741824){l1:List Int}{r:Int}(h:pX N l1=some r) :
    ACalls Tryz.prog 77 [.d (.list 1 (List.map I l1))] [] fun e os=>e=.ret (.d (I r))∧os=[]:=by
  refine ah (fresh:=false) al ap ⟨[],[],[],[],[1001],0,[]⟩ Tryz.func77 rfl Tryz.call77 rfl ?_
  unfold pX at h
  obtain⟨_,hx13,h⟩:=ab h;(conv=>whnf);refine SeqG.mk Unit (fun y=>[(2,.i .i64 0)]) (fun y=>[]) (fun _=>True) ?_ ?_
  ·(conv=>whnf);refine LnA.mk _ (List.length_map _) ?_;(conv=>whnf);refine LoopG.mk (Nat×Int) (fun y=>[(2,.i .i64 0),(5,.d (.list 1 (List.map I l1))),(6,.d (I y.2)),(7,.i .i64 0)]) (fun y=>[]) (fun y=>aj (fun rr x=>gH N l1 rr x) y.1 y.2=some ()) (fun y=>y.1) (N,(l1.length:Int)) hx13 (Sub.eq rfl ?_ ?_) ?_
   ·(repeat ((conv=>whnf);refine nr ?_));exact trivial
   ·exact trivial
   ·rintro⟨n2,v10⟩ hl2;obtain⟨n2,rfl,hl2⟩:=ar hl2;replace hl2:gH N l1 (aj (fun rr x=>gH N l1 rr x) n2) v10=some ():=hl2;rw[gH]at hl2;refine wB (fun hc12=>?_) (fun hc12=>?_)
    ·replace hl2:=af hc12 hl2;obtain⟨x24,hx25,hl2⟩:=ab hl2;(conv=>whnf);refine Side.mk rfl ⟨_,aC hx25,ak _ hx25,?_⟩;cases hl2
    ·replace hl2:=ag hc12 hl2;(conv=>whnf);exact⟨(),trivial,kW⟩
  ·rintro _ _;(conv=>whnf);cases h;exact rfl
theorem lf{N:Nat}(hN:N≤1073741824){bowler1:Int}{before1:Int}{c1:Int}{c2:Int}{c3:Int}{c4:Int}{c5:Int}{c6:List Int}{c7:List RateSheet}{c8:List Int}{m1:List (RateTurn×RateSheet)}{bo1:Nat}{bo2:Nat}{r:Int×Int}(h:eZ N bowler1 before1 c1 c2 c3 c4 c5 c6 c7 c8 m1=some r) :
    ACalls Tryz.prog 78 [.ptr 310019 bo1 0,.d (I bowler1),.d (I before1)] [(310019,.cells bo1 [.d (I c1),.d (I c2),.d (I c3),.d (I c4),.d (I c5),.d (.list 1 (List.map I c6)),.d (.list 6 (List.map RateSheet.enc c7)),.d (.list 1 (List.map I c8)),.mp 310017 bo2]),(310017,.map bo2 (List.map (fun p=>(.agg [I p.1.fBowler,I p.1.fWeek],.agg [I p.2.fNumber,I p.2.fBowler,I p.2.fWeek,I p.2.fGames.a0,I p.2.fGames.a1,I p.2.fGames.a2])) m1))] fun ae os=>∃y:Nat,True∧ae=.ret (.fn (.func 103) [] [.d (.ref (.agg [I r.1])),.ptr 1395003 y 0,.d (.ref (.agg [I r.2]))])∧os=[(310019,.cells bo1 [.d (I c1),.d (I c2),.d (I c3),.d (I c4),.d (I c5),.d (.list 1 (List.map I c6)),.d (.list 6 (List.map RateSheet.enc c7)),.d (.list 1 (List.map I c8)),.mp 310017 bo2]),(310017,.map bo2 (List.map (fun p=>(.agg [I p.1.fBowler,I p.1.fWeek],.agg [I p.2.fNumber,I p.2.fBowler,I p.2.fWeek,I p.2.fGames.a0,I p.2.fGames.a1,I p.2.fGames.a2])) m1)),(1395003,.cells y [.ptr 310019 bo1 0])]:=by
  refine aJ (fresh:=false) al ap ⟨[4,5],[],[],[],[],1395000,[]⟩ Tryz.func78 rfl Tryz.call78 rfl ?_
  unfold eZ at h
  (conv=>whnf);intro b2;(conv=>whnf);cases h;exact⟨b2,trivial,rfl,aA (ren:=id) (ai (ai (ai trivial)))⟩
theorem iz{N:Nat}(hN:N≤1073741824){bowler1:Int}{before1:Int}{besides1:List Int}{c1:Int}{c2:Int}{c3:Int}{c4:Int}{c5:Int}{c6:List Int}{c7:List RateSheet}{c8:List Int}{m1:List (RateTurn×RateSheet)}{bo1:Nat}{bo2:Nat}{r:Int}(h:dS N bowler1 before1 besides1 c1 c2 c3 c4 c5 c6 c7 c8 m1=some r) :
    ACalls Tryz.prog 56 [.ptr 310019 bo1 0,.d (I bowler1),.d (I before1),.d (.list 1 (List.map I besides1))] [(310019,.cells bo1 [.d (I c1),.d (I c2),.d (I c3),.d (I c4),.d (I c5),.d (.list 1 (List.map I c6)),.d (.list 6 (List.map RateSheet.enc c7)),.d (.list 1 (List.map I c8)),.mp 310017 bo2]),(310017,.map bo2 (List.map (fun p=>(.agg [I p.1.fBowler,I p.1.fWeek],.agg [I p.2.fNumber,I p.2.fBowler,I p.2.fWeek,I p.2.fGames.a0,I p.2.fGames.a1,I p.2.fGames.a2])) m1))] fun ae os=>∃y:Unit,True∧ae=.ret (.d (I r))∧os=[(310019,.cells bo1 [.d (I c1),.d (I c2),.d (I c3),.d (I c4),.d (I c5),.d (.list 1 (List.map I c6)),.d (.list 6 (List.map RateSheet.enc c7)),.d (.list 1 (List.map I c8)),.mp 310017 bo2]),(310017,.map bo2 (List.map (fun p=>(.agg [I p.1.fBowler,I p.1.fWeek],.agg [I p.2.fNumber,I p.2.fBowler,I p.2.fWeek,I p.2.fGames.a0,I p.2.fGames.a1,I p.2.fGames.a2])) m1))]:=by
  refine aJ (fresh:=false) al ap ⟨[],[],[],[],[1002],320000,[]⟩ Tryz.func56 rfl Tryz.call56 rfl ?_
  unfold dS at h
  (conv=>whnf);refine LnA.mk _ (List.length_map _) ?_;obtain⟨r2,hx2,h⟩:=ab h;(conv=>whnf);refine CallG.pure _ (vN hN hx2) ?_;(conv=>whnf);intro b3;(conv=>whnf);intro b4;(iterate 2 refine ws ?_);obtain⟨c26,hx23,h⟩:=ab h;(conv=>whnf);refine SeqG.mk Unit (fun y=>[(0,.ptr 310019 bo1 0),(1,.d (I bowler1)),(9,.ptr 320009 b3 0),(10,.ptr 320010 b4 0)]) (fun y=>[(310019,.cells bo1 [.d (I c1),.d (I c2),.d (I c3),.d (I c4),.d (I c5),.d (.list 1 (List.map I c6)),.d (.list 6 (List.map RateSheet.enc c7)),.d (.list 1 (List.map I c8)),.mp 310017 bo2]),(320009,.cells b3 [.d (I c26)]),(320010,.cells b4 [.d (I r2)]),(310017,.map bo2 (List.map (fun p=>(.agg [I p.1.fBowler,I p.1.fWeek],.agg [I p.2.fNumber,I p.2.fBowler,I p.2.fWeek,I p.2.fGames.a0,I p.2.fGames.a1,I p.2.fGames.a2])) m1))]) (fun _=>True) ?_ ?_
  ·obtain⟨⟨ra4,rb4⟩,hx25,hx23⟩:=ab hx23;(conv=>whnf)
   refine CallG.own (lf (bo1:=bo1) (bo2:=bo2) hN hx25) id [(320009,.cells b3 [.d (I (besides1.length:Int))]),(320010,.cells b4 [.d (I r2)])] _ (fun y=>[(310019,.cells bo1 [.d (I c1),.d (I c2),.d (I c3),.d (I c4),.d (I c5),.d (.list 1 (List.map I c6)),.d (.list 6 (List.map RateSheet.enc c7)),.d (.list 1 (List.map I c8)),.mp 310017 bo2]),(310017,.map bo2 (List.map (fun p=>(.agg [I p.1.fBowler,I p.1.fWeek],.agg [I p.2.fNumber,I p.2.fBowler,I p.2.fWeek,I p.2.fGames.a0,I p.2.fGames.a1,I p.2.fGames.a2])) m1)),(1395003,.cells y [.ptr 310019 bo1 0]),(320009,.cells b3 [.d (I (besides1.length:Int))]),(320010,.cells b4 [.d (I r2)])]) (ac _) (ai (ai trivial)) rfl (ai (ai trivial)) (ai (ai trivial)) (fun _=>AV.le_refl _) (fun _=>rfl) ?_;rintro b68 _;(conv=>whnf)
   intro lp2 rc2;refine IterG.mk _ _ ⟨[],[],[],[],[3],2000,[]⟩ Tryz.func103 rfl Tryz.call103 rfl rfl ?_;(conv=>whnf)
   refine LoopG.mk (Nat×(Int×Int)) (fun y=>[(0,.fn (.yield lp2) [] []),(2,.ptr 1395003 b68 0),(3,.d (.ref (.agg [I rb4]))),(8,.d (I ra4)),(9,.d (I y.2.1))]) (fun y=>[(1395003,.cells b68 [.ptr 310019 bo1 0]),(310019,.cells bo1 [.d (I c1),.d (I c2),.d (I c3),.d (I c4),.d (I c5),.d (.list 1 (List.map I c6)),.d (.list 6 (List.map RateSheet.enc c7)),.d (.list 1 (List.map I c8)),.mp 310017 bo2]),(320009,.cells b3 [.d (I y.2.2)]),(320010,.cells b4 [.d (I r2)]),(1000,.loop lp2 rc2 none),(310017,.map bo2 (List.map (fun p=>(.agg [I p.1.fBowler,I p.1.fWeek],.agg [I p.2.fNumber,I p.2.fBowler,I p.2.fWeek,I p.2.fGames.a0,I p.2.fGames.a1,I p.2.fGames.a2])) m1))]) (fun y=>aj (fun rr x=>bU N m1 ra4 rb4 rr x.1 x.2) y.1 y.2=some c26) (fun y=>y.1) (N,(0,(besides1.length:Int))) hx23 (Sub.eq rfl ?_ ?_) ?_
   ·(repeat ((conv=>whnf);refine nr ?_));exact trivial
   ·(iterate 6 ((conv=>whnf);refine no ?_));exact trivial
   ·rintro⟨n2,⟨games8,c39⟩⟩ hl2;obtain⟨n2,rfl,hl2⟩:=ar hl2;replace hl2:bU N m1 ra4 rb4 (aj (fun rr x=>bU N m1 ra4 rb4 rr x.1 x.2) n2) games8 c39=some c26:=hl2;rw[bU]at hl2;refine wB (fun hc32=>?_) (fun hc32=>?_)
    ·replace hl2:=af hc32 hl2;obtain⟨⟨besides25,c43⟩,hx42,hl2⟩:=ab hl2;(conv=>whnf)
     refine SeqG.mk Nat (fun y=>[(0,.fn (.yield lp2) [] []),(2,.ptr 1395003 b68 0),(3,.d (.ref (.agg [I rb4]))),(6,.ptr 2006 y 0),(7,.d (.bool besides25)),(8,.d (I ra4)),(9,.d (I games8))]) (fun y=>[(1395003,.cells b68 [.ptr 310019 bo1 0]),(2006,.cells y [.d (I c43.fNumber),.d (I c43.fBowler),.d (I c43.fWeek),.d (I c43.fGames.a0),.d (I c43.fGames.a1),.d (I c43.fGames.a2)]),(310019,.cells bo1 [.d (I c1),.d (I c2),.d (I c3),.d (I c4),.d (I c5),.d (.list 1 (List.map I c6)),.d (.list 6 (List.map RateSheet.enc c7)),.d (.list 1 (List.map I c8)),.mp 310017 bo2]),(320009,.cells b3 [.d (I c39)]),(320010,.cells b4 [.d (I r2)]),(1000,.loop lp2 rc2 none),(310017,.map bo2 (List.map (fun p=>(.agg [I p.1.fBowler,I p.1.fWeek],.agg [I p.2.fNumber,I p.2.fBowler,I p.2.fWeek,I p.2.fGames.a0,I p.2.fGames.a1,I p.2.fGames.a2])) m1))]) (fun _=>True) ?_ ?_
     ·obtain⟨⟨v24,is24⟩,hx43,hx42⟩:=ab hx42;(conv=>whnf);refine DrawG.mk (.take 0 (.take 1 (.take 2 (.take 3 (.take 4 (.take 5 (.alt 6 [3,2,1,0] (.alt 7 [2,1,0] (.take 8 (.take 9 (.take 10 (.alt 11 [10,9,8,2,1,0] (.alt 12 [10] (.take 13 .done) .nil) .nil)))) (.alt 11 [3,2,1,0] (.alt 7 [2,1,0] (.take 8 (.take 9 (.take 10 (.alt 12 [10] (.take 13 .done) .nil)))) .nil) .nil)) (.alt 11 [5,4,3,2,1,0] (.alt 6 [3,2,1,0] (.alt 7 [2,1,0] (.take 8 (.take 9 (.take 10 (.alt 12 [10] (.take 13 .done) .nil)))) .nil) .nil) .nil)))))))) (by kernel_rfl) ?_;(iterate 2 refine ws ?_);(conv=>whnf);refine Both.mk ?_ ?_
      ·refine ws ?_;(iterate 3 refine wl ?_);refine ws ?_;refine wl ?_;(conv=>whnf);refine Both.mk ?_ ?_
       ·(conv=>whnf);refine Side.mk rfl (Need.mk rfl (Need.mk (bd (m:=m1) (fun x:RateTurn=>.agg [I x.fBowler,I x.fWeek]) (fun x:RateSheet=>.agg [I x.fNumber,I x.fBowler,I x.fWeek,I x.fGames.a0,I x.fGames.a1,I x.fGames.a2]) fun _=>rfl) (LkG.mk (.agg [I v24.fNumber,I v24.fBowler,I v24.fWeek,I v24.fGames.a0,I v24.fGames.a1,I v24.fGames.a2]) is24 (ji (eK:=(fun x:RateTurn=>.agg [I x.fBowler,I x.fWeek])) (eV:=(fun x:RateSheet=>.agg [I x.fNumber,I x.fBowler,I x.fWeek,I x.fGames.a0,I x.fGames.a1,I x.fGames.a2])) RateTurn.eqc hx43) (jj (eK:=(fun x:RateTurn=>.agg [I x.fBowler,I x.fWeek])) (eV:=(fun x:RateSheet=>.agg [I x.fNumber,I x.fBowler,I x.fWeek,I x.fGames.a0,I x.fGames.a1,I x.fGames.a2])) RateTurn.eqc hx43) ?_)));(iterate 2 refine wl ?_);refine ws ?_;refine wl ?_
        refine wb ?_;(conv=>whnf);intro b124;(iterate 5 refine wl ?_);refine ws ?_;refine wl ?_;refine wb ?_;refine ws ?_;refine wl ?_;cases hx42;(conv=>whnf);exact⟨b124,trivial,kW⟩
       ·refine wb ?_;(conv=>whnf);intro b125;refine ws ?_;(iterate 3 refine wl ?_);refine ws ?_;refine wl ?_;refine wb ?_;(conv=>whnf)
        refine Side.mk rfl (Need.mk rfl (Need.mk (bd (m:=m1) (fun x:RateTurn=>.agg [I x.fBowler,I x.fWeek]) (fun x:RateSheet=>.agg [I x.fNumber,I x.fBowler,I x.fWeek,I x.fGames.a0,I x.fGames.a1,I x.fGames.a2]) fun _=>rfl) (LkG.mk (.agg [I v24.fNumber,I v24.fBowler,I v24.fWeek,I v24.fGames.a0,I v24.fGames.a1,I v24.fGames.a2]) is24 (ji (eK:=(fun x:RateTurn=>.agg [I x.fBowler,I x.fWeek])) (eV:=(fun x:RateSheet=>.agg [I x.fNumber,I x.fBowler,I x.fWeek,I x.fGames.a0,I x.fGames.a1,I x.fGames.a2])) RateTurn.eqc hx43) (jj (eK:=(fun x:RateTurn=>.agg [I x.fBowler,I x.fWeek])) (eV:=(fun x:RateSheet=>.agg [I x.fNumber,I x.fBowler,I x.fWeek,I x.fGames.a0,I x.fGames.a1,I x.fGames.a2])) RateTurn.eqc hx43) ?_)));(iterate 2 refine wl ?_);refine ws ?_;refine wl ?_;(conv=>whnf)
        refine Both.mk ?_ trivial;refine ws ?_;refine wl ?_;cases hx42;(conv=>whnf);exact⟨b125,trivial,kW⟩
      ·refine wb ?_;(conv=>whnf);intro b126;(iterate 2 refine wl ?_);refine ws ?_;(iterate 3 refine wl ?_);refine ws ?_;refine wl ?_;refine wb ?_;refine ws ?_;(iterate 3 refine wl ?_);refine ws ?_;refine wl ?_;refine wb ?_;(conv=>whnf)
       refine Side.mk rfl (Need.mk rfl (Need.mk (bd (m:=m1) (fun x:RateTurn=>.agg [I x.fBowler,I x.fWeek]) (fun x:RateSheet=>.agg [I x.fNumber,I x.fBowler,I x.fWeek,I x.fGames.a0,I x.fGames.a1,I x.fGames.a2]) fun _=>rfl) (LkG.mk (.agg [I v24.fNumber,I v24.fBowler,I v24.fWeek,I v24.fGames.a0,I v24.fGames.a1,I v24.fGames.a2]) is24 (ji (eK:=(fun x:RateTurn=>.agg [I x.fBowler,I x.fWeek])) (eV:=(fun x:RateSheet=>.agg [I x.fNumber,I x.fBowler,I x.fWeek,I x.fGames.a0,I x.fGames.a1,I x.fGames.a2])) RateTurn.eqc hx43) (jj (eK:=(fun x:RateTurn=>.agg [I x.fBowler,I x.fWeek])) (eV:=(fun x:RateSheet=>.agg [I x.fNumber,I x.fBowler,I x.fWeek,I x.fGames.a0,I x.fGames.a1,I x.fGames.a2])) RateTurn.eqc hx43) ?_)));(iterate 2 refine wl ?_);refine ws ?_;refine wl ?_;(conv=>whnf)
       refine Both.mk ?_ trivial;refine ws ?_;refine wl ?_;cases hx42;(conv=>whnf);exact⟨b126,trivial,kW⟩
     ·rintro bb24 _;refine wB (fun hc36=>?_) (fun hc36=>?_)
      ·replace hl2:=af hc36 hl2;refine ws ?_;(conv=>whnf);refine Side.mk ⟨rfl,rfl,rfl⟩ ?_;(conv=>whnf);intro b128;refine ws ?_;cases hl2
      ·replace hl2:=ag hc36 hl2;(conv=>whnf);exact⟨(n2,(w64 (games8+1),c39)),hl2,kW,Nat.lt_succ_self _⟩
    ·replace hl2:=ag hc32 hl2;(conv=>whnf);refine Side.mk ⟨rfl,rfl⟩ ?_;cases hl2;(conv=>whnf);exact⟨(),trivial,kW⟩
  ·rintro _ _;(conv=>whnf);refine DrawG.mk (.take 0 (.take 1 (.take 2 (.take 3 (.take 4 (.take 5 (.take 6 (.take 7 .done)))))))) (by kernel_rfl) ?_;(iterate 2 refine ws ?_);refine wB (fun hc38=>?_) (fun hc38=>?_)
   ·replace h:=af hc38 h;refine ws ?_;obtain⟨x4,hx47,h⟩:=ab h;(conv=>whnf);refine Side.mk rfl ⟨_,aC hx47,ak _ hx47,?_⟩;(conv=>whnf);cases h;exact⟨(),trivial,rfl,aA (ren:=id) (ai (ai trivial))⟩
   ·replace h:=ag hc38 h;cases h
theorem qf{N:Nat}(hN:N≤1073741824){b1:RateBook}{bowler1:Int}{week1:Int}{r:Int×Int}(h:jz N b1 bowler1 week1=some r) :
    ACalls Tryz.prog 30 [.d (.agg [I b1.fLaw.fBase,I b1.fLaw.fPercent,I b1.fLaw.fCap,I b1.fLaw.fLeast,I b1.fLaw.fBlind,.list 1 (List.map I b1.fBowlers),.list 6 (List.map RateSheet.enc b1.fSheets),.list 1 (List.map I b1.fWithdrawn)]),.d (I bowler1),.d (I week1)] [] fun e os=>e=.ret (.d (.tup [I r.1,I r.2]))∧os=[]:=by
  refine ah (fresh:=false) al ap ⟨[3],[],[],[],[],0,[]⟩ Tryz.func30 rfl Tryz.call30 rfl ?_
  unfold jz at h
  obtain⟨⟨ra2,rb2,rc2,rd2,re2,rf2,rg2,rh2,ri2,rj2⟩,hx2,h⟩:=ab h;(conv=>whnf);refine CallG.own (jP hN hx2) id [] _ (fun y=>[(310019,.cells y.1 [.d (I rb2),.d (I rc2),.d (I rd2),.d (I re2),.d (I rf2),.d (.list 1 (List.map I rg2)),.d (.list 6 (List.map RateSheet.enc rh2)),.d (.list 1 (List.map I ri2)),.mp 310017 y.2]),(310017,.map y.2 (List.map (fun p=>(.agg [I p.1.fBowler,I p.1.fWeek],.agg [I p.2.fNumber,I p.2.fBowler,I p.2.fWeek,I p.2.fGames.a0,I p.2.fGames.a1,I p.2.fGames.a2])) rj2))]) (ac _) trivial rfl trivial trivial (fun _=>AV.le_refl _) (fun _=>rfl) ?_;rintro⟨b4,b5⟩ _;refine wB (fun hc2=>?_) (fun hc2=>?_)
  ·replace h:=af hc2 h;cases h
  ·replace h:=ag hc2 h;obtain⟨r2,hx4,h⟩:=ab h;(conv=>whnf);refine CallG.own (iz (bo1:=b4) (bo2:=b5) hN hx4) id [] _ (fun y=>[(310019,.cells b4 [.d (I rb2),.d (I rc2),.d (I rd2),.d (I re2),.d (I rf2),.d (.list 1 (List.map I rg2)),.d (.list 6 (List.map RateSheet.enc rh2)),.d (.list 1 (List.map I ri2)),.mp 310017 b5]),(310017,.map b5 (List.map (fun p=>(.agg [I p.1.fBowler,I p.1.fWeek],.agg [I p.2.fNumber,I p.2.fBowler,I p.2.fWeek,I p.2.fGames.a0,I p.2.fGames.a1,I p.2.fGames.a2])) rj2))]) (ac _) (ai (ai trivial)) rfl (ai (ai trivial)) trivial (fun _=>AV.le_refl _) (fun _=>rfl) ?_;rintro _ _;(conv=>whnf);cases h;exact rfl
theorem lg{N:Nat}(hN:N≤1073741824){bowler1:Int}{before1:Int}{c1:Int}{c2:Int}{c3:Int}{c4:Int}{c5:Int}{c6:List Int}{c7:List RateSheet}{c8:List Int}{m1:List (RateTurn×RateSheet)}{bo1:Nat}{bo2:Nat}{r:Int}(h:zc N bowler1 before1 c1 c2 c3 c4 c5 c6 c7 c8 m1=some r) :
    ACalls Tryz.prog 57 [.ptr 310019 bo1 0,.d (I bowler1),.d (I before1)] [(310019,.cells bo1 [.d (I c1),.d (I c2),.d (I c3),.d (I c4),.d (I c5),.d (.list 1 (List.map I c6)),.d (.list 6 (List.map RateSheet.enc c7)),.d (.list 1 (List.map I c8)),.mp 310017 bo2]),(310017,.map bo2 (List.map (fun p=>(.agg [I p.1.fBowler,I p.1.fWeek],.agg [I p.2.fNumber,I p.2.fBowler,I p.2.fWeek,I p.2.fGames.a0,I p.2.fGames.a1,I p.2.fGames.a2])) m1))] fun ae os=>∃y:Unit,True∧ae=.ret (.d (I r))∧os=[(310019,.cells bo1 [.d (I c1),.d (I c2),.d (I c3),.d (I c4),.d (I c5),.d (.list 1 (List.map I c6)),.d (.list 6 (List.map RateSheet.enc c7)),.d (.list 1 (List.map I c8)),.mp 310017 bo2]),(310017,.map bo2 (List.map (fun p=>(.agg [I p.1.fBowler,I p.1.fWeek],.agg [I p.2.fNumber,I p.2.fBowler,I p.2.fWeek,I p.2.fGames.a0,I p.2.fGames.a1,I p.2.fGames.a2])) m1))]:=by
  refine aJ (fresh:=false) al ap ⟨[],[],[],[],[],320000,[]⟩ Tryz.func57 rfl Tryz.call57 rfl ?_
  unfold zc at h
  obtain⟨r2,hx2,h⟩:=ab h;(conv=>whnf);refine DrawG.mk (.take 0 (.take 1 (.take 2 (.take 3 (.take 4 (.take 5 (.take 6 (.take 7 (.take 8 (.take 11 (.take 12 (.take 13 (.take 14 (.take 15 (.take 16 (.alt 9 [16,15,14,13,12,11,5,4,3,2,1,0] (.take 10 (.take 17 (.take 18 (.take 19 .done)))) .nil)))))))))))))))) (by kernel_rfl) ?_;(iterate 2 refine ws ?_);refine wb ?_;(conv=>whnf)
  refine CallG.own (iz (bo1:=bo1) (bo2:=bo2) hN hx2) id [] _ (fun y=>[(310019,.cells bo1 [.d (I c1),.d (I c2),.d (I c3),.d (I c4),.d (I c5),.d (.list 1 (List.map I c6)),.d (.list 6 (List.map RateSheet.enc c7)),.d (.list 1 (List.map I c8)),.mp 310017 bo2]),(310017,.map bo2 (List.map (fun p=>(.agg [I p.1.fBowler,I p.1.fWeek],.agg [I p.2.fNumber,I p.2.fBowler,I p.2.fWeek,I p.2.fGames.a0,I p.2.fGames.a1,I p.2.fGames.a2])) m1))]) (ac _) (ai (ai trivial)) rfl (ai (ai trivial)) trivial (fun _=>AV.le_refl _) (fun _=>rfl) ?_;rintro _ _;refine ws ?_;(iterate 6 refine wl ?_);refine ws ?_;refine wl ?_;refine wl ?_
  (iterate 4 refine wl ?_);(conv=>whnf);refine Need.mk (by decide) ?_;refine ws ?_;(conv=>whnf);cases h;exact⟨(),trivial,rfl,aA (ren:=id) (ai (ai trivial))⟩
theorem oL{N:Nat}(hN:N≤1073741824){b1:RateBook}{bowler1:Int}{week1:Int}{r:Int×Int}(h:iW N b1 bowler1 week1=some r) :
    ACalls Tryz.prog 32 [.d (.agg [I b1.fLaw.fBase,I b1.fLaw.fPercent,I b1.fLaw.fCap,I b1.fLaw.fLeast,I b1.fLaw.fBlind,.list 1 (List.map I b1.fBowlers),.list 6 (List.map RateSheet.enc b1.fSheets),.list 1 (List.map I b1.fWithdrawn)]),.d (I bowler1),.d (I week1)] [] fun e os=>e=.ret (.d (.tup [I r.1,I r.2]))∧os=[]:=by
  refine ah (fresh:=false) al ap ⟨[3],[],[],[],[],0,[]⟩ Tryz.func32 rfl Tryz.call32 rfl ?_
  unfold iW at h
  obtain⟨⟨ra2,rb2,rc2,rd2,re2,rf2,rg2,rh2,ri2,rj2⟩,hx2,h⟩:=ab h;(conv=>whnf);refine CallG.own (jP hN hx2) id [] _ (fun y=>[(310019,.cells y.1 [.d (I rb2),.d (I rc2),.d (I rd2),.d (I re2),.d (I rf2),.d (.list 1 (List.map I rg2)),.d (.list 6 (List.map RateSheet.enc rh2)),.d (.list 1 (List.map I ri2)),.mp 310017 y.2]),(310017,.map y.2 (List.map (fun p=>(.agg [I p.1.fBowler,I p.1.fWeek],.agg [I p.2.fNumber,I p.2.fBowler,I p.2.fWeek,I p.2.fGames.a0,I p.2.fGames.a1,I p.2.fGames.a2])) rj2))]) (ac _) trivial rfl trivial trivial (fun _=>AV.le_refl _) (fun _=>rfl) ?_;rintro⟨b4,b5⟩ _;refine wB (fun hc2=>?_) (fun hc2=>?_)
  ·replace h:=af hc2 h;cases h
  ·replace h:=ag hc2 h;obtain⟨r2,hx4,h⟩:=ab h;(conv=>whnf);refine CallG.own (lg (bo1:=b4) (bo2:=b5) hN hx4) id [] _ (fun y=>[(310019,.cells b4 [.d (I rb2),.d (I rc2),.d (I rd2),.d (I re2),.d (I rf2),.d (.list 1 (List.map I rg2)),.d (.list 6 (List.map RateSheet.enc rh2)),.d (.list 1 (List.map I ri2)),.mp 310017 b5]),(310017,.map b5 (List.map (fun p=>(.agg [I p.1.fBowler,I p.1.fWeek],.agg [I p.2.fNumber,I p.2.fBowler,I p.2.fWeek,I p.2.fGames.a0,I p.2.fGames.a1,I p.2.fGames.a2])) rj2))]) (ac _) (ai (ai trivial)) rfl (ai (ai trivial)) trivial (fun _=>AV.le_refl _) (fun _=>rfl) ?_;rintro _ _;(conv=>whnf);cases h;exact rfl
theorem sq{N:Nat}(hN:N≤1073741824){lines1:List (List UInt8)}{bowler1:Int}{week1:Int}{r:Int×Int×Int}(h:lL N lines1 bowler1 week1=some r) :
    ACalls Tryz.prog 13 [.d (.list 1 (List.map D.str lines1)),.d (I bowler1),.d (I week1)] [] fun e os=>e=.ret (.d (.tup [I r.1,I r.2.1,I r.2.2]))∧os=[]:=by
  refine ah (fresh:=false) al ap ⟨[],[],[],[],[],0,[]⟩ Tryz.func13 rfl Tryz.call13 rfl ?_
  unfold lL at h
  obtain⟨r4,hx4,h⟩:=ab h;(conv=>whnf);refine CallG.pure _ (gP hN hx4) ?_;refine wB (fun hc2=>?_) (fun hc2=>?_)
  ·replace h:=af hc2 h;cases h
  ·replace h:=ag hc2 h;obtain⟨⟨ra2,rb2⟩,hx6,h⟩:=ab h;(conv=>whnf);refine CallG.own (i7 hN hx6) id [] _ (fun y=>[(255003,.cells y (cW rb2))]) (ac _) trivial rfl trivial trivial (fun _=>AV.le_refl _) (fun _=>rfl) ?_;rintro b2 _;obtain⟨r8,hx10,h⟩:=ab h;(conv=>whnf)
   refine CallG.own (jH (bo1:=b2) hN hx10) id [] _ (fun y=>[(255003,.cells b2 (cW rb2))]) (ac _) (ai trivial) rfl (ai trivial) trivial (fun _=>AV.le_refl _) (fun _=>rfl) ?_;rintro _ _;refine wB (fun hc4=>?_) (fun hc4=>?_)
   ·replace h:=af hc4 h;cases h
   ·replace h:=ag hc4 h;obtain⟨r10,hx13,h⟩:=ab h;(conv=>whnf);refine CallG.own (ik (bo1:=b2) hN hx13) id [] _ (fun y=>[(255003,.cells b2 (cW rb2))]) (ac _) (ai trivial) rfl (ai trivial) trivial (fun _=>AV.le_refl _) (fun _=>rfl) ?_;rintro _ _;obtain⟨⟨ra4,rb4⟩,hx14,h⟩:=ab h;(conv=>whnf);refine CallG.pure _ (qf hN hx14) ?_;refine wB (fun hc6=>?_) (fun hc6=>?_)
    ·replace h:=af hc6 h;cases h
    ·replace h:=ag hc6 h;obtain⟨r12,hx17,h⟩:=ab h;(conv=>whnf);refine CallG.own (ik (bo1:=b2) hN hx17) id [] _ (fun y=>[(255003,.cells b2 (cW rb2))]) (ac _) (ai trivial) rfl (ai trivial) trivial (fun _=>AV.le_refl _) (fun _=>rfl) ?_;rintro _ _;obtain⟨⟨ra6,rb6⟩,hx18,h⟩:=ab h;(conv=>whnf);refine CallG.pure _ (oL hN hx18) ?_;(conv=>whnf);cases h;exact rfl
end Go.Proofs.YtfnicgdcofjlpaaGreatDoor
