/-
  Walks: what the typed functions compute, the program’s functions return.
-/
import Derived.Test.YtfnicgdcofjlpaaGreatDoorWe
import Derived.Test.YtfnicgdcofjlpaaGreatDoorVa
import Derived.Test.YtfnicgdcofjlpaaGreatDoorVb
import Derived.Test.YtfnicgdcofjlpaaGreatDoorVc
import Derived.Test.YtfnicgdcofjlpaaGreatDoorVd
import Derived.Test.YtfnicgdcofjlpaaGreatDoorVe
import Derived.Test.YtfnicgdcofjlpaaGreatDoorVf
namespace Go.Proofs.YtfnicgdcofjlpaaGreatDoor
open Go Go.Abs Go.Kp
set_option maxRecDepth 100000
set_option maxHeartbeats 8000000
set_option linter.all false
theorem ru{N:Nat}(hN:N≤1073741824){lines1:List (List UInt8)}{r:(List UInt8)×Int}(h:gM N lines1=some r) :
    ACalls Tryz.prog 14 [.d (.list 1 (List.map D.str lines1))] [] fun e os=>e=.ret (.d (.tup [.str r.1,I r.2]))∧os=[]:=by
  refine ah (fresh:=false) al ap ⟨[],[],[7],[],[11,1007,1009,1015,1017,1019,1027],0,[]⟩ Tryz.func14 rfl Tryz.call14 rfl ?_
  unfold gM at h
  obtain⟨r4,hx4,h⟩:=ab h;(conv=>whnf);refine CallG.pure _ (gP hN hx4) ?_;refine wB (fun hc2=>?_) (fun hc2=>?_)
  ·replace h:=af hc2 h;cases h
  ·replace h:=ag hc2 h;obtain⟨⟨ra2,rb2⟩,hx6,h⟩:=ab h;(conv=>whnf);refine CallG.own (i7 hN hx6) id [] _ (fun y=>[(255003,.cells y (cW rb2))]) (ac _) trivial rfl trivial trivial (fun _=>AV.le_refl _) (fun _=>rfl) ?_;rintro b2 _;(conv=>whnf);intro b4;obtain⟨bs11,hx64,h⟩:=ab h;(conv=>whnf)
   refine SeqG.mk Value (fun y=>[(5,.ptr 255003 b2 0),(7,.ptr 7 b4 0),(8,.fn (.func 33) [] [.ptr 7 b4 0])]) (fun y=>[(255003,.cells b2 (cW rb2)),(7,.bld b4 95 5 y bs11)]) (fun _=>True) ?_ ?_
   ·refine ws ?_;(conv=>whnf);refine LnA.mk _ (List.length_map _) ?_;(conv=>whnf)
    refine LoopG.mk (Nat×(Int×Int×(List UInt8))×Value) (fun y=>[(5,.ptr 255003 b2 0),(7,.ptr 7 b4 0),(8,.fn (.func 33) [] [.ptr 7 b4 0]),(37,.d (.list 2 (List.map DeskLane.enc rb2.fState.fLanes))),(38,.d (I y.2.1.1)),(39,.d (I y.2.1.2.1))]) (fun y=>[(255003,.cells b2 (cW rb2)),(7,.bld b4 95 5 y.2.2 y.2.1.2.2)]) (fun y=>aj (fun rr x=>dK N rb2 rr x.1 x.2.1 x.2.2) y.1 y.2.1=some bs11) (fun y=>y.1) (N,((rb2.fState.fLanes.length:Int),0,([]:List UInt8)),(.slice none 0 0)) hx64 (Sub.eq rfl ?_ ?_) ?_
    ·(repeat ((conv=>whnf);refine nr ?_));exact trivial
    ·(iterate 2 ((conv=>whnf);refine no ?_));exact trivial
    ·rintro⟨n2,⟨v17,v18,bs19⟩,hd39⟩ hl2;obtain⟨n2,rfl,hl2⟩:=ar hl2;replace hl2:dK N rb2 (aj (fun rr x=>dK N rb2 rr x.1 x.2.1 x.2.2) n2) v17 v18 bs19=some bs11:=hl2;rw[dK]at hl2;refine wB (fun hc24=>?_) (fun hc24=>?_)
     ·replace hl2:=af hc24 hl2;obtain⟨bs21,hx112,hl2⟩:=ab hl2;(conv=>whnf);refine SeqG.mk Value (fun y=>[(5,.ptr 255003 b2 0),(7,.ptr 7 b4 0),(8,.fn (.func 33) [] [.ptr 7 b4 0]),(37,.d (.list 2 (List.map DeskLane.enc rb2.fState.fLanes))),(38,.d (I v17)),(39,.d (I v18))]) (fun y=>[(255003,.cells b2 (cW rb2)),(7,.bld b4 95 5 y bs21)]) (fun _=>True) ?_ ?_
      ·obtain⟨x24,hx114,hx112⟩:=ab hx112;(conv=>whnf);refine Side.mk rfl ⟨_,aC hx114,ak _ hx114,?_⟩;(conv=>whnf);intro b116;(iterate 2 refine ws ?_);refine wB (fun hc26=>?_) (fun hc26=>?_)
       ·replace hx112:=af hc26 hx112;obtain⟨g24,hx117,hx112⟩:=ab hx112;(conv=>whnf)
        refine SeqG.mk Nat (fun y=>[(5,.ptr 255003 b2 0),(7,.ptr 7 b4 0),(8,.fn (.func 33) [] [.ptr 7 b4 0]),(9,.d (I v18)),(10,.ptr 10 b116 0),(11,.ptr 11 y 0),(37,.d (.list 2 (List.map DeskLane.enc rb2.fState.fLanes))),(38,.d (I v17)),(39,.d (I v18))]) (fun y=>[(255003,.cells b2 (cW rb2)),(7,.bld b4 95 5 hd39 bs19),(10,.cells b116 [.d (I x24.fBowler),.d (.list 1 (List.map I x24.fBalls))]),(11,.cells y [.d (.list 1 (List.map eL g24.fFrames)),.d (.list 1 (List.map I g24.fCounts)),.d (I g24.fStanding),.d (.bool g24.fDone)])]) (fun _=>True) ?_ ?_
        ·obtain⟨r50,hx118,hx117⟩:=ab hx117;obtain⟨⟨ra26,rb26⟩,hx119,hx117⟩:=ab hx117;(conv=>whnf);refine DrawG.mk (.take 1 (.take 2 (.alt 0 [2,1] (.alt 3 [1] (.take 4 (.take 5 (.take 6 (.alt 7 [6,5,4,1] (.alt 8 [6] (.take 9 .done) .nil) .nil)))) (.alt 7 [2,1] (.alt 3 [1] (.take 4 (.take 5 (.take 6 (.alt 8 [6] (.take 9 .done) .nil)))) .nil) .nil)) (.alt 7 [2,1] (.alt 0 [2,1] (.alt 3 [1] (.take 4 (.take 5 (.take 6 (.alt 8 [6] (.take 9 .done) .nil)))) .nil) .nil) .nil)))) (by kernel_rfl) ?_;refine ws ?_;(conv=>whnf);refine Both.mk ?_ ?_
         ·(conv=>whnf);refine CallG.pure _ (fP hN hx118) ?_;refine ws ?_;(iterate 2 refine wl ?_);(conv=>whnf);refine Both.mk ?_ ?_
          ·(conv=>whnf);refine CallG.pure _ (cm hN hx119) ?_;refine wl ?_;refine wb ?_;(conv=>whnf);intro b122;(iterate 4 refine wl ?_);refine wb ?_;refine ws ?_;refine wl ?_;cases hx117;(conv=>whnf);exact⟨b122,trivial,kW⟩
          ·refine wb ?_;(conv=>whnf);intro b123;refine ws ?_;(iterate 2 refine wl ?_);refine wb ?_;(conv=>whnf);refine CallG.pure _ (cm hN hx119) ?_;refine wl ?_;refine wb ?_;refine ws ?_;refine wl ?_;cases hx117;(conv=>whnf);exact⟨b123,trivial,kW⟩
         ·refine wb ?_;(conv=>whnf);intro b124;refine ws ?_;(iterate 2 refine wl ?_);refine wb ?_;(conv=>whnf);refine CallG.pure _ (fP hN hx118) ?_;refine ws ?_;(iterate 2 refine wl ?_);refine wb ?_;(conv=>whnf);refine CallG.pure _ (cm hN hx119) ?_;refine wl ?_;refine wb ?_;refine ws ?_;refine wl ?_;cases hx117;(conv=>whnf);exact⟨b124,trivial,kW⟩
        ·rintro bb24 _;(iterate 2 refine ws ?_);(conv=>whnf);intro hd44;obtain⟨r51,hx120,hx112⟩:=ab hx112;refine ws ?_;(conv=>whnf);refine CallG.pure _ (rp hN hx120) ?_;obtain⟨r52,hx121,hx112⟩:=ab hx112;(conv=>whnf)
         refine CallG.own (jc (bo1:=b4) (ho1:=hd39) hN hx121) id [(255003,.cells b2 (cW rb2)),(10,.cells b116 [.d (I x24.fBowler),.d (.list 1 (List.map I x24.fBalls))]),(11,.cells bb24 [.d (.list 1 (List.map eL g24.fFrames)),.d (.list 1 (List.map I g24.fCounts)),.d (I g24.fStanding),.d (.bool g24.fDone)]),(66,.arr hd44 20 1 true [.ifc 9 (.str ([108,97,110,101]:List UInt8)),.ifc 3 (I v18),.ifc 9 (.str ([98,111,119,108,101,114]:List UInt8)),.ifc 3 (I x24.fBowler),.ifc 9 (.str ([99,111,117,110,116,115]:List UInt8)),.ifc 25 (.list 1 (List.map I g24.fCounts))])] _ (fun y=>[(7,.bld b4 95 5 y r52),(255003,.cells b2 (cW rb2)),(10,.cells b116 [.d (I x24.fBowler),.d (.list 1 (List.map I x24.fBalls))]),(11,.cells bb24 [.d (.list 1 (List.map eL g24.fFrames)),.d (.list 1 (List.map I g24.fCounts)),.d (I g24.fStanding),.d (.bool g24.fDone)]),(66,.arr hd44 20 1 true [.ifc 9 (.str ([108,97,110,101]:List UInt8)),.ifc 3 (I v18),.ifc 9 (.str ([98,111,119,108,101,114]:List UInt8)),.ifc 3 (I x24.fBowler),.ifc 9 (.str ([99,111,117,110,116,115]:List UInt8)),.ifc 25 (.list 1 (List.map I g24.fCounts))])]) (ac _) (ai trivial) rfl (ai trivial) (ai (ai (ai (ai trivial)))) (fun _=>AV.le_refl _) (fun _=>rfl) ?_
         rintro hd45 _;cases hx112;(conv=>whnf);exact⟨hd45,trivial,kW⟩
       ·replace hx112:=ag hc26 hx112;cases hx112;(conv=>whnf);exact⟨hd39,trivial,kW⟩
      ·rintro hd43 _;(conv=>whnf);exact⟨(n2,(v17,w64 (v18+1),bs21),hd43),hl2,kW,Nat.lt_succ_self _⟩
     ·replace hl2:=ag hc24 hl2;cases hl2;(conv=>whnf);exact⟨hd39,trivial,kW⟩
   ·rintro hd23 _;obtain⟨r54,hx124,h⟩:=ab h;(conv=>whnf);refine CallG.own (ik (bo1:=b2) hN hx124) id [(7,.bld b4 95 5 hd23 bs11)] _ (fun y=>[(255003,.cells b2 (cW rb2)),(7,.bld b4 95 5 hd23 bs11)]) (ac _) (ai trivial) rfl (ai trivial) (ai trivial) (fun _=>AV.le_refl _) (fun _=>rfl) ?_;rintro _ _;obtain⟨⟨ra28,rb28⟩,hx125,h⟩:=ab h;(conv=>whnf);refine CallG.pure _ (oM hN hx125) ?_;obtain⟨bs29,hx303,h⟩:=ab h;(conv=>whnf)
    refine SeqG.mk Value (fun y=>[(5,.ptr 255003 b2 0),(7,.ptr 7 b4 0),(8,.fn (.func 33) [] [.ptr 7 b4 0])]) (fun y=>[(255003,.cells b2 (cW rb2)),(7,.bld b4 95 5 y bs29)]) (fun _=>True) ?_ ?_
    ·refine ws ?_;(conv=>whnf);refine LnA.mk _ (List.length_map _) ?_;(conv=>whnf)
     refine LoopG.mk (Nat×(Int×Int×(List UInt8))×Value) (fun y=>[(5,.ptr 255003 b2 0),(7,.ptr 7 b4 0),(8,.fn (.func 33) [] [.ptr 7 b4 0]),(13,.d (.list 1 (List.map I ra28))),(80,.d (.list 1 (List.map eL rb2.fState.fKept))),(81,.d (I y.2.1.1)),(82,.d (I y.2.1.2.1))]) (fun y=>[(255003,.cells b2 (cW rb2)),(7,.bld b4 95 5 y.2.2 y.2.1.2.2)]) (fun y=>aj (fun rr x=>dM N rb2 ra28 rr x.1 x.2.1 x.2.2) y.1 y.2.1=some bs29) (fun y=>y.1) (N,((rb2.fState.fKept.length:Int),0,bs11),hd23) hx303 (Sub.eq rfl ?_ ?_) ?_
     ·(repeat ((conv=>whnf);refine nr ?_));exact trivial
     ·(iterate 2 ((conv=>whnf);refine no ?_));exact trivial
     ·rintro⟨n24,⟨v135,v136,bs35⟩,hd79⟩ hl24;obtain⟨n24,rfl,hl24⟩:=ar hl24;replace hl24:dM N rb2 ra28 (aj (fun rr x=>dM N rb2 ra28 rr x.1 x.2.1 x.2.2) n24) v135 v136 bs35=some bs29:=hl24;rw[dM]at hl24;refine wB (fun hc158=>?_) (fun hc158=>?_)
      ·replace hl24:=af hc158 hl24;obtain⟨bs36,hx451,hl24⟩:=ab hl24;(conv=>whnf);refine SeqG.mk Value (fun y=>[(5,.ptr 255003 b2 0),(7,.ptr 7 b4 0),(8,.fn (.func 33) [] [.ptr 7 b4 0]),(13,.d (.list 1 (List.map I ra28))),(80,.d (.list 1 (List.map eL rb2.fState.fKept))),(81,.d (I v135)),(82,.d (I v136))]) (fun y=>[(255003,.cells b2 (cW rb2)),(7,.bld b4 95 5 y bs36)]) (fun _=>True) ?_ ?_
       ·obtain⟨x312,hx453,hx451⟩:=ab hx451;(conv=>whnf);refine Side.mk rfl ⟨_,aC hx453,ak _ hx453,?_⟩;obtain⟨_,hx466,hx451⟩:=ab hx451;(conv=>whnf)
        refine SeqG.mk Unit (fun y=>[(5,.ptr 255003 b2 0),(7,.ptr 7 b4 0),(8,.fn (.func 33) [] [.ptr 7 b4 0]),(13,.d (.list 1 (List.map I ra28))),(15,.d (I v136)),(16,.d (.list 1 (List.map I x312))),(17,.i .i64 0),(80,.d (.list 1 (List.map eL rb2.fState.fKept))),(81,.d (I v135)),(82,.d (I v136))]) (fun y=>[(255003,.cells b2 (cW rb2)),(7,.bld b4 95 5 hd79 bs35)]) (fun _=>True) ?_ ?_
        ·(conv=>whnf);refine LnA.mk _ (List.length_map _) ?_;(conv=>whnf)
         refine LoopG.mk (Nat×Int) (fun y=>[(5,.ptr 255003 b2 0),(7,.ptr 7 b4 0),(8,.fn (.func 33) [] [.ptr 7 b4 0]),(13,.d (.list 1 (List.map I ra28))),(15,.d (I v136)),(16,.d (.list 1 (List.map I x312))),(17,.i .i64 0),(80,.d (.list 1 (List.map eL rb2.fState.fKept))),(81,.d (I v135)),(82,.d (I v136)),(87,.d (.list 1 (List.map I ra28))),(88,.d (I y.2)),(89,.i .i64 0)]) (fun y=>[(255003,.cells b2 (cW rb2)),(7,.bld b4 95 5 hd79 bs35)]) (fun y=>aj (fun rr x=>dL N ra28 rr x) y.1 y.2=some ()) (fun y=>y.1) (N,(ra28.length:Int)) hx466 (Sub.eq rfl ?_ ?_) ?_
         ·(repeat ((conv=>whnf);refine nr ?_));exact trivial
         ·(iterate 2 ((conv=>whnf);refine no ?_));exact trivial
         ·rintro⟨n28,v156⟩ hl28;obtain⟨n28,rfl,hl28⟩:=ar hl28;replace hl28:dL N ra28 (aj (fun rr x=>dL N ra28 rr x) n28) v156=some ():=hl28;rw[dL]at hl28;refine wB (fun hc182=>?_) (fun hc182=>?_)
          ·replace hl28:=af hc182 hl28;obtain⟨x336,hx478,hl28⟩:=ab hl28;(conv=>whnf);refine Side.mk rfl ⟨_,aC hx478,ak _ hx478,?_⟩;cases hl28
          ·replace hl28:=ag hc182 hl28;(conv=>whnf);exact⟨(),trivial,kW⟩
        ·rintro _ _;(conv=>whnf);refine LnA.mk _ (List.length_map _) ?_;(conv=>whnf);intro hd83;obtain⟨r77,hx479,hx451⟩:=ab hx451;refine ws ?_;(conv=>whnf);refine CallG.pure _ (qg hN hx479) ?_;obtain⟨r78,hx480,hx451⟩:=ab hx451;(conv=>whnf)
         refine CallG.own (jc (bo1:=b4) (ho1:=hd79) hN hx480) id [(255003,.cells b2 (cW rb2)),(119,.arr hd83 20 1 true [.ifc 9 (.str ([98,111,119,108,101,114]:List UInt8)),.ifc 3 (I v136),.ifc 9 (.str ([107,101,112,116]:List UInt8)),.ifc 3 (I (x312.length:Int)),.ifc 9 (.str ([115,104,101,101,116,115]:List UInt8)),.ifc 3 (I 0)])] _ (fun y=>[(7,.bld b4 95 5 y r78),(255003,.cells b2 (cW rb2)),(119,.arr hd83 20 1 true [.ifc 9 (.str ([98,111,119,108,101,114]:List UInt8)),.ifc 3 (I v136),.ifc 9 (.str ([107,101,112,116]:List UInt8)),.ifc 3 (I (x312.length:Int)),.ifc 9 (.str ([115,104,101,101,116,115]:List UInt8)),.ifc 3 (I 0)])]) (ac _) (ai trivial) rfl (ai trivial) (ai (ai trivial)) (fun _=>AV.le_refl _) (fun _=>rfl) ?_
         rintro hd84 _;cases hx451;(conv=>whnf);exact⟨hd84,trivial,kW⟩
       ·rintro hd82 _;(conv=>whnf);exact⟨(n24,(v135,w64 (v136+1),bs36),hd82),hl24,kW,Nat.lt_succ_self _⟩
      ·replace hl24:=ag hc158 hl24;cases hl24;(conv=>whnf);exact⟨hd79,trivial,kW⟩
    ·rintro hd65 _;obtain⟨bs38,hx487,h⟩:=ab h;(conv=>whnf);refine SeqG.mk Value (fun y=>[(7,.ptr 7 b4 0)]) (fun y=>[(7,.bld b4 95 5 y bs38)]) (fun _=>True) ?_ ?_
     ·refine ws ?_;(conv=>whnf);refine LnA.mk _ (List.length_map _) ?_;refine wB (fun hc184=>?_) (fun hc184=>?_)
      ·replace hx487:=af hc184 hx487;obtain⟨r84,hx490,hx487⟩:=ab hx487;(conv=>whnf);refine CallG.own (qh (bo1:=b2) hN hx490) id [(7,.bld b4 95 5 hd65 bs29)] _ (fun y=>[(255003,.cells b2 (cW rb2)),(7,.bld b4 95 5 hd65 bs29)]) (ac _) (ai trivial) rfl (ai trivial) (ai trivial) (fun _=>AV.le_refl _) (fun _=>rfl) ?_;rintro _ _;obtain⟨⟨ra32,rb32⟩,hx491,hx487⟩:=ab hx487;(conv=>whnf);refine CallG.pure _ (oN hN hx491) ?_;(conv=>whnf);intro hd89
       obtain⟨r85,hx492,hx487⟩:=ab hx487;refine ws ?_;(conv=>whnf);refine CallG.pure _ (oO hN hx492) ?_;obtain⟨r86,hx493,hx487⟩:=ab hx487;(conv=>whnf)
       refine CallG.own (jc (bo1:=b4) (ho1:=hd65) hN hx493) id [(255003,.cells b2 (cW rb2)),(140,.arr hd89 20 1 true [.ifc 9 (.str ([100,117,101,108,115]:List UInt8)),.ifc 25 (.list 1 (List.map I ra32))])] _ (fun y=>[(7,.bld b4 95 5 y r86),(255003,.cells b2 (cW rb2)),(140,.arr hd89 20 1 true [.ifc 9 (.str ([100,117,101,108,115]:List UInt8)),.ifc 25 (.list 1 (List.map I ra32))])]) (ac _) (ai trivial) rfl (ai trivial) (ai (ai trivial)) (fun _=>AV.le_refl _) (fun _=>rfl) ?_
       rintro hd90 _;cases hx487;(conv=>whnf);refine⟨hd90,trivial,Sub.eq rfl ?_ ?_⟩
       ·(repeat ((conv=>whnf);refine nr ?_));exact trivial
       ·(conv=>whnf);refine no ?_;exact trivial
      ·replace hx487:=ag hc184 hx487;cases hx487;(conv=>whnf);refine⟨hd65,trivial,Sub.eq rfl ?_ ?_⟩
       ·(repeat ((conv=>whnf);refine nr ?_));exact trivial
       ·(conv=>whnf);refine no ?_;exact trivial
     ·rintro hd88 _;obtain⟨r88,hx495,h⟩:=ab h;(conv=>whnf);refine CallG.own (xl (k:=7) (bo:=b4) (ho:=hd88) hN hx495) id [] _ (fun y=>[]) (ac _) (ai trivial) rfl (ai trivial) trivial (fun _=>AV.le_refl _) (fun _=>rfl) ?_;rintro _ _;(conv=>whnf);cases h;exact rfl
theorem mt{N:Nat}(hN:N≤1073741824){s1:List UInt8}{index1:Int}{r:DeskHead}(h:e9 N s1 index1=some r) :
    ACalls Tryz.prog 65 [.d (.str s1),.d (I index1)] [] fun e os=>e=.ret (.d (.agg [I r.fLong,I r.fCheck]))∧os=[]:=by
  refine ah (fresh:=false) al ap ⟨[],[],[],[],[1002],0,[]⟩ Tryz.func65 rfl Tryz.call65 rfl ?_
  unfold e9 at h
  (conv=>whnf);intro b2;obtain⟨check6,hx13,h⟩:=ab h;(conv=>whnf);refine SeqG.mk Unit (fun y=>[(0,.d (.str s1)),(4,.ptr 4 b2 0),(5,.d (I check6))]) (fun y=>[(4,.cells b2 [.d (I 0),.d (I 0)])]) (fun _=>True) ?_ ?_
  ·(conv=>whnf);refine Eqv.mk (List.map (fun x=>.int .u8 x) (bytesI s1)) (sQ _) ?_;(conv=>whnf);refine LnA.mk _ (List.length_map _) ?_;(conv=>whnf);refine LoopG.mk (Nat×(Int×(List Int)×Int×Int)) (fun y=>[(0,.d (.str s1)),(4,.ptr 4 b2 0),(5,.d (I y.2.1)),(12,.d (.list 1 (List.map (fun x=>.int .u8 x) y.2.2.1))),(13,.d (I y.2.2.2.1)),(14,.d (I y.2.2.2.2))]) (fun y=>[(4,.cells b2 [.d (I 0),.d (I 0)])]) (fun y=>aj (fun rr x=>bM N rr x.1 x.2.1 x.2.2.1 x.2.2.2) y.1 y.2=some check6) (fun y=>y.1) (N,(w64 (13*(w64 (index1+1))),bytesI s1,((bytesI s1).length:Int),0)) hx13 (Sub.eq rfl ?_ ?_) ?_
   ·(repeat ((conv=>whnf);refine nr ?_));exact trivial
   ·(conv=>whnf);refine no ?_;exact trivial
   ·rintro⟨n2,⟨check11,v26,v27,v28⟩⟩ hl2;obtain⟨n2,rfl,hl2⟩:=ar hl2;replace hl2:bM N (aj (fun rr x=>bM N rr x.1 x.2.1 x.2.2.1 x.2.2.2) n2) check11 v26 v27 v28=some check6:=hl2;rw[bM]at hl2;refine wB (fun hc12=>?_) (fun hc12=>?_)
    ·replace hl2:=af hc12 hl2;obtain⟨x24,hx25,hl2⟩:=ab hl2;(conv=>whnf);refine Side.mk rfl ⟨_,aC hx25,ak _ hx25,?_⟩;(conv=>whnf);refine⟨(n2,(w64 (check11+(w64 ((w64 (v28+2))*(w64 ((w64 x24)+1))))),v26,v27,w64 (v28+1))),hl2,Sub.eq rfl ?_ ?_,Nat.lt_succ_self _⟩
     ·(repeat ((conv=>whnf);refine nr ?_));exact trivial
     ·(conv=>whnf);refine no ?_;exact trivial
    ·replace hl2:=ag hc12 hl2;cases hl2;(conv=>whnf);refine⟨(),trivial,Sub.eq rfl ?_ ?_⟩
     ·(repeat ((conv=>whnf);refine nr ?_));exact trivial
     ·(conv=>whnf);refine no ?_;exact trivial
  ·rintro _ _;(conv=>whnf);refine Need.mk (by decide) ?_;(iterate 2 refine ws ?_);(conv=>whnf);cases h;exact rfl
theorem mu{N:Nat}(hN:N≤1073741824){n1:Int}{many1:Int}{r:(List UInt8)}(h:dm N n1 many1=some r) :
    ACalls Tryz.prog 95 [.d (I n1),.d (I many1)] [] fun e os=>e=.ret (.d (.str r))∧os=[]:=by
  refine ah (fresh:=false) al ap ⟨[],[],[],[],[5,1002],0,[5]⟩ Tryz.func95 rfl Tryz.call95 rfl ?_
  unfold dm at h
  (conv=>whnf);intro b2;obtain⟨b19,hx7,h⟩:=ab h;(conv=>whnf);refine SeqG.mk Unit (fun y=>[(1,.d (I many1)),(5,.ptr 5 b2 0)]) (fun y=>[(5,.cells b2 [.d (.int .u8 b19.a0),.d (.int .u8 b19.a1),.d (.int .u8 b19.a2),.d (.int .u8 b19.a3),.d (.int .u8 b19.a4)])]) (fun _=>True) ?_ ?_
  ·(conv=>whnf);refine LoopG.mk (Nat×(Int×Int×(Ar5 Int))) (fun y=>[(0,.d (I y.2.1)),(1,.d (I many1)),(5,.ptr 5 b2 0),(6,.d (I y.2.2.1))]) (fun y=>[(5,.cells b2 [.d (.int .u8 y.2.2.2.a0),.d (.int .u8 y.2.2.2.a1),.d (.int .u8 y.2.2.2.a2),.d (.int .u8 y.2.2.2.a3),.d (.int .u8 y.2.2.2.a4)])]) (fun y=>aj (fun rr x=>aF N rr x.1 x.2.1 x.2.2) y.1 y.2=some b19) (fun y=>y.1) (N,(n1,w64 (many1-1),(Ar5.mk 0 0 0 0 0))) hx7 (Sub.eq rfl ?_ ?_) ?_
   ·(repeat ((conv=>whnf);refine nr ?_));exact trivial
   ·(conv=>whnf);refine no ?_;exact trivial
   ·rintro⟨n11,⟨n10,i10,b31⟩⟩ hl2;obtain⟨n11,rfl,hl2⟩:=ar hl2;replace hl2:aF N (aj (fun rr x=>aF N rr x.1 x.2.1 x.2.2) n11) n10 i10 b31=some b19:=hl2;rw[aF]at hl2;refine wB (fun hc112=>?_) (fun hc112=>?_)
    ·replace hl2:=af hc112 hl2;obtain⟨b35,hx13,hl2⟩:=ab hl2;(conv=>whnf);refine SeqG.mk Unit (fun y=>[(0,.d (I n10)),(1,.d (I many1)),(5,.ptr 5 b2 0),(6,.d (I i10))]) (fun y=>[(5,.cells b2 [.d (.int .u8 b35.a0),.d (.int .u8 b35.a1),.d (.int .u8 b35.a2),.d (.int .u8 b35.a3),.d (.int .u8 b35.a4)])]) (fun _=>True) ?_ ?_
     ·(conv=>whnf);refine Need.mk (by decide) ?_;rcases eP (decide (i10=0))with hc128 | hc128
      ·replace hx13:=af hc128 hx13;(conv=>whnf);refine IxG.mk 0 (of_decide_eq_true hc128) (by decide) ?_;refine ws ?_;cases hx13;(conv=>whnf);refine⟨(),trivial,Sub.eq rfl ?_ ?_⟩
       ·(repeat ((conv=>whnf);refine nr ?_));exact trivial
       ·(conv=>whnf);refine no ?_;exact trivial
      ·replace hx13:=ag hc128 hx13;rcases eP (decide (i10=1))with hc129 | hc129
       ·replace hx13:=af hc129 hx13;(conv=>whnf);refine IxG.mk 1 (of_decide_eq_true hc129) (by decide) ?_;refine ws ?_;cases hx13;(conv=>whnf);refine⟨(),trivial,Sub.eq rfl ?_ ?_⟩
        ·(repeat ((conv=>whnf);refine nr ?_));exact trivial
        ·(conv=>whnf);refine no ?_;exact trivial
       ·replace hx13:=ag hc129 hx13;rcases eP (decide (i10=2))with hc130 | hc130
        ·replace hx13:=af hc130 hx13;(conv=>whnf);refine IxG.mk 2 (of_decide_eq_true hc130) (by decide) ?_;refine ws ?_;cases hx13;(conv=>whnf);refine⟨(),trivial,Sub.eq rfl ?_ ?_⟩
         ·(repeat ((conv=>whnf);refine nr ?_));exact trivial
         ·(conv=>whnf);refine no ?_;exact trivial
        ·replace hx13:=ag hc130 hx13;rcases eP (decide (i10=3))with hc131 | hc131
         ·replace hx13:=af hc131 hx13;(conv=>whnf);refine IxG.mk 3 (of_decide_eq_true hc131) (by decide) ?_;refine ws ?_;cases hx13;(conv=>whnf);refine⟨(),trivial,Sub.eq rfl ?_ ?_⟩
          ·(repeat ((conv=>whnf);refine nr ?_));exact trivial
          ·(conv=>whnf);refine no ?_;exact trivial
         ·replace hx13:=ag hc131 hx13;rcases eP (decide (i10=4))with hc132 | hc132
          ·replace hx13:=af hc132 hx13;(conv=>whnf);refine IxG.mk 4 (of_decide_eq_true hc132) (by decide) ?_;refine ws ?_;cases hx13;(conv=>whnf);refine⟨(),trivial,Sub.eq rfl ?_ ?_⟩
           ·(repeat ((conv=>whnf);refine nr ?_));exact trivial
           ·(conv=>whnf);refine no ?_;exact trivial
          ·replace hx13:=ag hc132 hx13;cases hx13
     ·rintro _ _;(conv=>whnf);refine Need.mk (by decide) ?_;(conv=>whnf);refine⟨(n11,(w64 (Int.tdiv n10 10),w64 (i10-1),b35)),hl2,Sub.eq rfl ?_ ?_,Nat.lt_succ_self _⟩
      ·(repeat ((conv=>whnf);refine nr ?_));exact trivial
      ·(conv=>whnf);refine no ?_;exact trivial
    ·replace hl2:=ag hc112 hl2;cases hl2;(conv=>whnf);refine⟨(),trivial,Sub.eq rfl ?_ ?_⟩
     ·(repeat ((conv=>whnf);refine nr ?_));exact trivial
     ·(conv=>whnf);refine no ?_;exact trivial
  ·rintro _ _;obtain⟨l2,hx15,h⟩:=ab h;refine ws ?_;(conv=>whnf);refine ArrS.mk (List.map (fun x=>.int .u8 x) [b19.a0,b19.a1,b19.a2,b19.a3,b19.a4]) rfl rfl (tP _ fun _=>rfl) ?_;(conv=>whnf);refine Need.mk (ui hx15 rfl) (Eqv.mk (List.map (fun x=>.int .u8 x) l2) (vG _ hx15) ?_);refine ws ?_;(conv=>whnf);refine StrG.mk l2 rfl ?_;(conv=>whnf);cases h;exact rfl
theorem fB{N:Nat}(hN:N≤1073741824){hv1:DeskHead}{r:(List UInt8)}(h:dz N hv1=some r) :
    ACalls Tryz.prog 66 [.d (.agg [I hv1.fLong,I hv1.fCheck])] [] fun e os=>e=.ret (.d (.str r))∧os=[]:=by
  refine ah (fresh:=false) al ap ⟨[1],[],[],[],[],0,[]⟩ Tryz.func66 rfl Tryz.call66 rfl ?_
  unfold dz at h
  (conv=>whnf);refine DrawG.mk (.take 0 (.take 1 (.take 5 (.take 6 (.alt 2 [6,5,0] (.take 3 (.take 4 (.alt 7 [4,3,5,0] (.take 8 (.take 9 (.take 10 .done))) .nil))) .nil))))) (by kernel_rfl) ?_;refine wb ?_;obtain⟨r3,hx7,h⟩:=ab h;(conv=>whnf);refine CallG.pure _ (mu hN hx7) ?_;(iterate 3 refine wl ?_);obtain⟨s5,hx8,h⟩:=ab h;obtain⟨s6,hx9,h⟩:=ab h;(conv=>whnf);refine Need.mk (eO hN hx8) ?_;(conv=>whnf);refine Need.mk (eO hN hx9) ?_;refine wb ?_;obtain⟨r4,hx10,h⟩:=ab h;(conv=>whnf);refine CallG.pure _ (mu hN hx10) ?_;(conv=>whnf);refine Need.mk (eO hN hx9) ?_;refine wl ?_;(conv=>whnf);refine Need.mk (eO hN hx8) ?_;(iterate 2 refine wl ?_);refine wl ?_
  obtain⟨s7,hx11,h⟩:=ab h;obtain⟨s8,hx12,h⟩:=ab h;(conv=>whnf);refine Need.mk (eO hN hx11) ?_;(conv=>whnf);refine Need.mk (eO hN hx12) ?_;(conv=>whnf);cases h;exact rfl
theorem up{N:Nat}(hN:N≤1073741824){lines1:List (List UInt8)}{r:(List Int)}(h:jE N lines1=some r) :
    ACalls Tryz.prog 40 [.d (.list 1 (List.map D.str lines1))] [] fun e os=>e=.ret (.d (.list 1 (List.map (fun x=>.int .u8 x) r)))∧os=[]:=by
  refine ah (fresh:=false) al ap ⟨[],[],[],[],[1002],0,[]⟩ Tryz.func40 rfl Tryz.call40 rfl ?_
  unfold jE at h
  obtain⟨l11,hx43,h⟩:=ab h;(conv=>whnf);refine SeqG.mk Value (fun y=>[(3,.sl 21 y)]) (fun y=>[(21,.arr y 5 1 false (List.map (fun x=>.int .u8 x) l11))]) (fun _=>True) ?_ ?_
  ·(conv=>whnf);refine LnA.mk _ (List.length_map _) ?_;(conv=>whnf);refine LoopG.mk (Nat×(Int×Int×(List Int))×Value) (fun y=>[(3,.sl 21 y.2.2),(6,.d (.list 1 (List.map D.str lines1))),(7,.d (I y.2.1.1)),(8,.d (I y.2.1.2.1))]) (fun y=>[(21,.arr y.2.2 5 1 false (List.map (fun x=>.int .u8 x) y.2.1.2.2))]) (fun y=>aj (fun rr x=>cH N lines1 rr x.1 x.2.1 x.2.2) y.1 y.2.1=some l11) (fun y=>y.1) (N,((lines1.length:Int),0,[]),(.slice none 0 0)) hx43 (Sub.eq rfl ?_ ?_) ?_
   ·(repeat ((conv=>whnf);refine nr ?_));exact trivial
   ·(conv=>whnf);refine Need.mk (OLe.nil _ _ _ _) ?_;exact trivial
   ·rintro⟨n2,⟨v17,v18,l19⟩,hd19⟩ hl2;obtain⟨n2,rfl,hl2⟩:=ar hl2;replace hl2:cH N lines1 (aj (fun rr x=>cH N lines1 rr x.1 x.2.1 x.2.2) n2) v17 v18 l19=some l11:=hl2;rw[cH]at hl2;refine wB (fun hc12=>?_) (fun hc12=>?_)
    ·replace hl2:=af hc12 hl2;obtain⟨x24,hx80,hl2⟩:=ab hl2;(conv=>whnf);refine Side.mk rfl ⟨_,aC hx80,ak _ hx80,?_⟩;obtain⟨r23,hx81,hl2⟩:=ab hl2;(conv=>whnf);refine CallG.pure _ (mt hN hx81) ?_;obtain⟨r24,hx82,hl2⟩:=ab hl2;(conv=>whnf);refine CallG.pure _ (fB hN hx82) ?_;obtain⟨s23,hx83,hl2⟩:=ab hl2;(conv=>whnf);refine Need.mk (eO hN hx83) ?_;obtain⟨s24,hx84,hl2⟩:=ab hl2;(conv=>whnf);refine Need.mk (eO hN hx84) ?_;obtain⟨l21,hx85,hl2⟩:=ab hl2;(conv=>whnf);refine Side.mk ⟨rfl,rfl,rfl⟩ (Eqv.mk (List.map (fun x=>.int .u8 x) (bytesI (((r24++x24)++([10]:List UInt8))))) (sQ _) ?_);(conv=>whnf);refine Side.mk ⟨rfl,rfl,rfl⟩ (Need.mk (vH hN hx85) (Eqv.mk (List.map (fun x=>.int .u8 x) l21) (aH _ hx85) ?_));(conv=>whnf);intro hd21;(conv=>whnf)
     refine⟨(n2,(v17,w64 (v18+1),l21),hd21),hl2,Sub.eq rfl ?_ ?_,Nat.lt_succ_self _⟩
     ·(repeat ((conv=>whnf);refine nr ?_));exact trivial
     ·(conv=>whnf);refine no ?_;exact trivial
    ·replace hl2:=ag hc12 hl2;cases hl2;(conv=>whnf);refine⟨hd19,trivial,Sub.eq rfl ?_ ?_⟩
     ·(repeat ((conv=>whnf);refine nr ?_));exact trivial
     ·(conv=>whnf);refine no ?_;exact trivial
  ·rintro hd11 _;refine ws ?_;(conv=>whnf);cases h;exact rfl
theorem ol{N:Nat}(hN:N≤1073741824){lines1:List (List UInt8)}{r:(List Int)×Int}(h:gr N lines1=some r) :
    ACalls Tryz.prog 15 [.d (.list 1 (List.map D.str lines1))] [] fun e os=>e=.ret (.d (.tup [.list 1 (List.map (fun x=>.int .u8 x) r.1),I r.2]))∧os=[]:=by
  refine ah (fresh:=false) al ap ⟨[],[],[],[],[],0,[]⟩ Tryz.func15 rfl Tryz.call15 rfl ?_
  unfold gr at h
  obtain⟨r4,hx4,h⟩:=ab h;(conv=>whnf);refine CallG.pure _ (gP hN hx4) ?_;refine wB (fun hc2=>?_) (fun hc2=>?_)
  ·replace h:=af hc2 h;cases h
  ·replace h:=ag hc2 h;obtain⟨r6,hx6,h⟩:=ab h;(conv=>whnf);refine CallG.pure _ (up hN hx6) ?_;(conv=>whnf);cases h;exact rfl
theorem su{N:Nat}(hN:N≤1073741824){a1:List Int}{b1:List Int}{r:Bool}(h:lN N a1 b1=some r) :
    ACalls Tryz.prog 16 [.d (.list 1 (List.map I a1)),.d (.list 1 (List.map I b1))] [] fun e os=>e=.ret (.d (.bool r))∧os=[]:=by
  refine ah (fresh:=false) al ap ⟨[],[],[],[],[1003],0,[]⟩ Tryz.func16 rfl Tryz.call16 rfl ?_
  unfold lN at h
  (conv=>whnf);refine LnA.mk _ (List.length_map _) ?_;(conv=>whnf);refine LnA.mk _ (List.length_map _) ?_;refine wB (fun hc2=>?_) (fun hc2=>?_)
  ·replace h:=af hc2 h;(conv=>whnf);cases h;exact rfl
  ·replace h:=ag hc2 h;(conv=>whnf);refine SeqG.mk Unit (fun y=>[]) (fun y=>[]) (fun y=>iY N=some r) ?_ ?_
   ·(conv=>whnf);refine LoopG.mk (Nat×Int) (fun y=>[(0,.d (.list 1 (List.map I a1))),(1,.d (.list 1 (List.map I b1))),(5,.d (I y.2))]) (fun y=>[]) (fun y=>aj (fun rr x=>eN N a1 b1 rr x) y.1 y.2=some r) (fun y=>y.1) (N,0) h (Sub.eq rfl ?_ ?_) ?_
    ·(repeat ((conv=>whnf);refine nr ?_));exact trivial
    ·exact trivial
    ·rintro⟨n2,i8⟩ hl2;obtain⟨n2,rfl,hl2⟩:=ar hl2;replace hl2:eN N a1 b1 (aj (fun rr x=>eN N a1 b1 rr x) n2) i8=some r:=hl2;rw[eN]at hl2;(conv=>whnf);refine LnA.mk _ (List.length_map _) ?_;refine wB (fun hc24=>?_) (fun hc24=>?_)
     ·replace hl2:=af hc24 hl2;obtain⟨x47,hx47,hl2⟩:=ab hl2;obtain⟨x48,hx48,hl2⟩:=ab hl2;(conv=>whnf);refine DrawG.mk (.take 0 (.take 1 (.take 2 (.take 3 (.take 4 (.take 5 (.take 6 (.take 7 (.take 8 .done))))))))) (by kernel_rfl) ?_;(conv=>whnf);refine Side.mk rfl ⟨_,aC hx47,ak _ hx47,?_⟩;(conv=>whnf);refine Side.mk rfl ⟨_,aC hx48,ak _ hx48,?_⟩;refine wB (fun hc26=>?_) (fun hc26=>?_)
      ·replace hl2:=af hc26 hl2;(conv=>whnf);cases hl2;exact rfl
      ·replace hl2:=ag hc26 hl2;(conv=>whnf);exact⟨(n2,w64 (i8+1)),hl2,kW,Nat.lt_succ_self _⟩
     ·replace hl2:=ag hc24 hl2;(conv=>whnf);exact⟨(),hl2,kW⟩
   ·clear h;rintro _ h;unfold iY at h;(conv=>whnf);cases h;exact rfl
theorem jR{N:Nat}(hN:N≤1073741824) {r:Bool}(h:cL N=some r) :
    ACalls Tryz.prog 6 [] [] fun e os=>e=.ret (.d (.bool r))∧os=[]:=by
  refine ah (fresh:=false) al ap ⟨[],[],[],[],[6],0,[]⟩ Tryz.func6 rfl Tryz.call6 rfl ?_
  unfold cL at h
  obtain⟨r2,hx4,h⟩:=ab h;(conv=>whnf);refine CallG.fresh 16 (i6 hN hx4) ?_;intro hd4;(conv=>whnf);intro hd5;obtain⟨l2,hx5,h⟩:=ab h;(conv=>whnf);refine Side.mk ⟨rfl,rfl⟩ ?_;(conv=>whnf);refine Side.mk ⟨rfl,rfl,rfl⟩ (Need.mk (aD hN hx5 (by decide)) (Eqv.mk (List.map D.str l2) (aH _ hx5) ?_));(conv=>whnf);intro hd6;obtain⟨⟨ra2,rb2,rc2⟩,hx6,h⟩:=ab h;refine ws ?_;(conv=>whnf);refine CallG.pure _ (uk hN hx6) ?_;(conv=>whnf);intro b2;refine ws ?_;obtain⟨r4,hx10,h⟩:=ab h;(conv=>whnf);refine CallG.fresh 24 (i6 hN hx10) ?_;intro hd8;obtain⟨l4,hx11,h⟩:=ab h;refine ws ?_;(conv=>whnf);refine Need.mk (dt _ hx11) (Eqv.mk (List.map D.str l4) (dA _ hx11) ?_);obtain⟨⟨ra4,rb4,rc4,rd2⟩,hx12,h⟩:=ab h;(conv=>whnf);refine CallG.pure _ (sn hN hx12) ?_
  obtain⟨r6,hx15,h⟩:=ab h;(conv=>whnf);refine CallG.fresh 32 (i6 hN hx15) ?_;intro hd10;obtain⟨⟨ra6,rb6,rc6⟩,hx16,h⟩:=ab h;refine ws ?_;(conv=>whnf);refine CallG.pure _ (sq hN hx16) ?_;obtain⟨r8,hx20,h⟩:=ab h;(conv=>whnf);refine CallG.fresh 38 (i6 hN hx20) ?_;intro hd12;obtain⟨l6,hx21,h⟩:=ab h;refine ws ?_;(conv=>whnf);refine Need.mk (dt _ hx21) (Eqv.mk (List.map D.str l6) (dA _ hx21) ?_);obtain⟨⟨ra8,rb8⟩,hx22,h⟩:=ab h;(conv=>whnf);refine CallG.pure _ (ru hN hx22) ?_;(conv=>whnf);intro hd14;obtain⟨⟨ra10,rb10⟩,hx24,h⟩:=ab h;refine ws ?_;(conv=>whnf);refine CallG.pure _ (ol hN hx24) ?_;obtain⟨v2,hx31,h⟩:=ab h;(conv=>whnf);refine SeqG.mk Unit (fun y=>[(0,.d (.bool v2))]) (fun y=>[]) (fun _=>True) ?_ ?_
  ·refine wB (fun hc18=>?_) (fun hc18=>?_)
   ·replace hx31:=af hc18 hx31;(conv=>whnf);refine LnA.mk _ (List.length_map _) ?_;refine wB (fun hc19=>?_) (fun hc19=>?_)
    ·replace hx31:=af hc19 hx31;obtain⟨x6,hx32,hx31⟩:=ab hx31;(conv=>whnf);refine Side.mk rfl ⟨_,aC hx32,ak _ hx32,?_⟩;refine wB (fun hc20=>?_) (fun hc20=>?_)
     ·replace hx31:=af hc20 hx31;obtain⟨x7,hx33,hx31⟩:=ab hx31;(conv=>whnf);refine Side.mk rfl ⟨_,aC hx33,ak _ hx33,?_⟩;refine wB (fun hc21=>?_) (fun hc21=>?_)
      ·replace hx31:=af hc21 hx31;obtain⟨x8,hx34,hx31⟩:=ab hx31;(conv=>whnf);refine Side.mk rfl ⟨_,aC hx34,ak _ hx34,?_⟩;refine wB (fun hc22=>?_) (fun hc22=>?_)
       ·replace hx31:=af hc22 hx31;obtain⟨x9,hx35,hx31⟩:=ab hx31;(conv=>whnf);refine Side.mk rfl ⟨_,aC hx35,ak _ hx35,?_⟩;refine wB (fun hc23=>?_) (fun hc23=>?_)
        ·replace hx31:=af hc23 hx31;obtain⟨x10,hx36,hx31⟩:=ab hx31;(conv=>whnf);refine Side.mk rfl ⟨_,aC hx36,ak _ hx36,?_⟩;refine wB (fun hc24=>?_) (fun hc24=>?_)
         ·replace hx31:=af hc24 hx31;refine wB (fun hc25=>?_) (fun hc25=>?_)
          ·replace hx31:=af hc25 hx31;(conv=>whnf);intro hd16;obtain⟨r10,hx37,hx31⟩:=ab hx31;refine ws ?_;(conv=>whnf);refine CallG.pure _ (su hN hx37) ?_;refine wB (fun hc26=>?_) (fun hc26=>?_)
           ·replace hx31:=af hc26 hx31;refine wB (fun hc27=>?_) (fun hc27=>?_)
            ·replace hx31:=af hc27 hx31;refine wB (fun hc28=>?_) (fun hc28=>?_)
             ·replace hx31:=af hc28 hx31;refine wB (fun hc29=>?_) (fun hc29=>?_)
              ·replace hx31:=af hc29 hx31;refine wB (fun hc30=>?_) (fun hc30=>?_)
               ·replace hx31:=af hc30 hx31;refine wB (fun hc31=>?_) (fun hc31=>?_)
                ·replace hx31:=af hc31 hx31;refine wB (fun hc32=>?_) (fun hc32=>?_)
                 ·replace hx31:=af hc32 hx31;refine wB (fun hc33=>?_) (fun hc33=>?_)
                  ·replace hx31:=af hc33 hx31;refine wB (fun hc34=>?_) (fun hc34=>?_)
                   ·replace hx31:=af hc34 hx31;refine ws ?_;(conv=>whnf);refine StrG.mk ra10 rfl ?_;cases hx31;(conv=>whnf);exact⟨(),trivial,kW⟩
                   ·replace hx31:=ag hc34 hx31;cases hx31;(conv=>whnf);exact⟨(),trivial,kW⟩
                  ·replace hx31:=ag hc33 hx31;cases hx31;(conv=>whnf);exact⟨(),trivial,kW⟩
                 ·replace hx31:=ag hc32 hx31;cases hx31;(conv=>whnf);exact⟨(),trivial,kW⟩
                ·replace hx31:=ag hc31 hx31;cases hx31;(conv=>whnf);exact⟨(),trivial,kW⟩
               ·replace hx31:=ag hc30 hx31;cases hx31;(conv=>whnf);exact⟨(),trivial,kW⟩
              ·replace hx31:=ag hc29 hx31;cases hx31;(conv=>whnf);exact⟨(),trivial,kW⟩
             ·replace hx31:=ag hc28 hx31;cases hx31;(conv=>whnf);exact⟨(),trivial,kW⟩
            ·replace hx31:=ag hc27 hx31;cases hx31;(conv=>whnf);exact⟨(),trivial,kW⟩
           ·replace hx31:=ag hc26 hx31;cases hx31;(conv=>whnf);exact⟨(),trivial,kW⟩
          ·replace hx31:=ag hc25 hx31;cases hx31;(conv=>whnf);exact⟨(),trivial,kW⟩
         ·replace hx31:=ag hc24 hx31;cases hx31;(conv=>whnf);exact⟨(),trivial,kW⟩
        ·replace hx31:=ag hc23 hx31;cases hx31;(conv=>whnf);exact⟨(),trivial,kW⟩
       ·replace hx31:=ag hc22 hx31;cases hx31;(conv=>whnf);exact⟨(),trivial,kW⟩
      ·replace hx31:=ag hc21 hx31;cases hx31;(conv=>whnf);exact⟨(),trivial,kW⟩
     ·replace hx31:=ag hc20 hx31;cases hx31;(conv=>whnf);exact⟨(),trivial,kW⟩
    ·replace hx31:=ag hc19 hx31;cases hx31;(conv=>whnf);exact⟨(),trivial,kW⟩
   ·replace hx31:=ag hc18 hx31;cases hx31;(conv=>whnf);exact⟨(),trivial,kW⟩
  ·rintro _ _;(conv=>whnf);cases h;exact rfl
theorem sv{N:Nat}(hN:N≤1073741824){l1:List (List UInt8)}{r:(List (List UInt8))}(h:iw N l1=some r) :
    ACalls Tryz.prog 17 [.d (.list 1 (List.map D.str l1))] [] fun e os=>∃hd,e=.ret (.sl 0 hd)∧os=[(0,.arr hd 9 1 false (List.map D.str r))]:=by
  refine gk al ap ⟨[],[],[],[],[],0,[]⟩ Tryz.func17 rfl Tryz.call17 rfl ?_
  unfold iw at h
  (conv=>whnf);intro hd3;obtain⟨l3,hx2,h⟩:=ab h;refine ws ?_;(conv=>whnf);refine Side.mk ⟨rfl,rfl,rfl⟩ (Need.mk (aD hN hx2 (by decide)) (Eqv.mk (List.map D.str l3) (aH _ hx2) ?_));(conv=>whnf);intro hd4;(conv=>whnf);cases h;exact⟨_,_,rfl,rfl⟩
theorem zV{N:Nat}(hN:N≤1073741824){lines1:List (List UInt8)}{r:DeskState×(List (List UInt8))×Bool}(h:yK N lines1=some r) :
    ACalls Tryz.prog 7 [.d (.list 1 (List.map D.str lines1))] [] fun e os=>e=.ret (.d (.tup [.agg [.list 1 (List.map I r.1.fBowlers),.list 2 (List.map DeskLane.enc r.1.fLanes),.list 1 (List.map eL r.1.fKept),.list 6 (List.map RateSheet.enc r.1.fSheets),.list 1 (List.map I r.1.fWithdrawn),.list 3 (List.map LadderResult.enc r.1.fResults)],.list 1 (List.map D.str r.2.1),.bool r.2.2]))∧os=[]:=by
  refine ah (fresh:=false) al ap ⟨[],[],[],[],[2,1005,1008],0,[]⟩ Tryz.func7 rfl Tryz.call7 rfl ?_
  unfold yK at h
  (conv=>whnf);intro b2;obtain⟨r2,hx3,h⟩:=ab h;(conv=>whnf);refine CallG.fresh 12 (sv hN hx3) ?_;intro hd2;obtain⟨⟨ra2,rb2,rc2⟩,hx4,h⟩:=ab h;refine ws ?_;(conv=>whnf);refine CallG.pure _ (uk hN hx4) ?_;(conv=>whnf);intro b4;refine ws ?_;obtain⟨v4,hx6,h⟩:=ab h;(conv=>whnf)
  refine SeqG.mk Unit (fun y=>[(0,.d (.list 1 (List.map D.str lines1))),(2,.ptr 2 b2 0),(5,.ptr 5 b4 0),(6,.d (.list 1 (List.map I rb2))),(25,.d (.bool v4))]) (fun y=>[(2,.cells b2 [.nils 1,.nils 2,.nils 1,.nils 6,.nils 1,.nils 3]),(5,.cells b4 [.d (.list 1 (List.map I ra2.fBowlers)),.d (.list 2 (List.map DeskLane.enc ra2.fLanes)),.d (.list 1 (List.map eL ra2.fKept)),.d (.list 6 (List.map RateSheet.enc ra2.fSheets)),.d (.list 1 (List.map I ra2.fWithdrawn)),.d (.list 3 (List.map LadderResult.enc ra2.fResults))])]) (fun _=>True) ?_ ?_
  ·refine wB (fun hc5=>?_) (fun hc5=>?_)
   ·replace hx6:=ag hc5 hx6;(conv=>whnf);refine LnA.mk _ (List.length_map _) ?_;(conv=>whnf);refine LnA.mk _ (List.length_map _) ?_;cases hx6;(conv=>whnf);exact⟨(),trivial,kW⟩
   ·replace hx6:=af hc5 hx6;cases hx6;(conv=>whnf);exact⟨(),trivial,kW⟩
  ·rintro _ _;refine wB (fun hc6=>?_) (fun hc6=>?_)
   ·replace h:=af hc6 h;(iterate 3 refine ws ?_);(conv=>whnf);cases h;exact rfl
   ·replace h:=ag hc6 h;obtain⟨l17,hx34,h⟩:=ab h;(conv=>whnf);refine SeqG.mk Value (fun y=>[(2,.ptr 2 b2 0),(5,.ptr 5 b4 0),(8,.sl 44 y)]) (fun y=>[(2,.cells b2 [.nils 1,.nils 2,.nils 1,.nils 6,.nils 1,.nils 3]),(5,.cells b4 [.d (.list 1 (List.map I ra2.fBowlers)),.d (.list 2 (List.map DeskLane.enc ra2.fLanes)),.d (.list 1 (List.map eL ra2.fKept)),.d (.list 6 (List.map RateSheet.enc ra2.fSheets)),.d (.list 1 (List.map I ra2.fWithdrawn)),.d (.list 3 (List.map LadderResult.enc ra2.fResults))]),(44,.arr y 9 1 false (List.map D.str l17))]) (fun _=>True) ?_ ?_
    ·(conv=>whnf);refine LoopG.mk (Nat×(Int×(List (List UInt8)))×Value) (fun y=>[(0,.d (.list 1 (List.map D.str lines1))),(2,.ptr 2 b2 0),(5,.ptr 5 b4 0),(6,.d (.list 1 (List.map I rb2))),(8,.sl 44 y.2.2),(9,.d (I y.2.1.1))]) (fun y=>[(2,.cells b2 [.nils 1,.nils 2,.nils 1,.nils 6,.nils 1,.nils 3]),(5,.cells b4 [.d (.list 1 (List.map I ra2.fBowlers)),.d (.list 2 (List.map DeskLane.enc ra2.fLanes)),.d (.list 1 (List.map eL ra2.fKept)),.d (.list 6 (List.map RateSheet.enc ra2.fSheets)),.d (.list 1 (List.map I ra2.fWithdrawn)),.d (.list 3 (List.map LadderResult.enc ra2.fResults))]),(44,.arr y.2.2 9 1 false (List.map D.str y.2.1.2))]) (fun y=>aj (fun rr x=>yf N lines1 rb2 rr x.1 x.2) y.1 y.2.1=some l17) (fun y=>y.1) (N,(0,[]),(.slice none 0 0)) hx34 (Sub.eq rfl ?_ ?_) ?_
     ·(repeat ((conv=>whnf);refine nr ?_));exact trivial
     ·(iterate 2 ((conv=>whnf);refine no ?_));(conv=>whnf);refine Need.mk (OLe.nil _ _ _ _) ?_;exact trivial
     ·rintro⟨n2,⟨i8,l29⟩,hd41⟩ hl2;obtain⟨n2,rfl,hl2⟩:=ar hl2;replace hl2:yf N lines1 rb2 (aj (fun rr x=>yf N lines1 rb2 rr x.1 x.2) n2) i8 l29=some l17:=hl2;rw[yf]at hl2;(conv=>whnf);refine LnA.mk _ (List.length_map _) ?_;refine wB (fun hc28=>?_) (fun hc28=>?_)
      ·replace hl2:=af hc28 hl2;obtain⟨l32,hx57,hl2⟩:=ab hl2;(conv=>whnf);refine SeqG.mk Value (fun y=>[(0,.d (.list 1 (List.map D.str lines1))),(2,.ptr 2 b2 0),(5,.ptr 5 b4 0),(6,.d (.list 1 (List.map I rb2))),(8,.sl 44 y),(9,.d (I i8))]) (fun y=>[(2,.cells b2 [.nils 1,.nils 2,.nils 1,.nils 6,.nils 1,.nils 3]),(5,.cells b4 [.d (.list 1 (List.map I ra2.fBowlers)),.d (.list 2 (List.map DeskLane.enc ra2.fLanes)),.d (.list 1 (List.map eL ra2.fKept)),.d (.list 6 (List.map RateSheet.enc ra2.fSheets)),.d (.list 1 (List.map I ra2.fWithdrawn)),.d (.list 3 (List.map LadderResult.enc ra2.fResults))]),(44,.arr y 9 1 false (List.map D.str l32))]) (fun _=>True) ?_ ?_
       ·obtain⟨x35,hx59,hx57⟩:=ab hx57;(conv=>whnf);refine Side.mk rfl ⟨_,aC hx59,ak _ hx59,?_⟩;refine wB (fun hc30=>?_) (fun hc30=>?_)
        ·replace hx57:=af hc30 hx57;obtain⟨x36,hx60,hx57⟩:=ab hx57;(conv=>whnf);refine Side.mk rfl ⟨_,aC hx60,ak _ hx60,?_⟩;(conv=>whnf);intro hd46;obtain⟨l33,hx61,hx57⟩:=ab hx57;(conv=>whnf);refine Side.mk ⟨rfl,rfl⟩ ?_;(conv=>whnf);refine Side.mk ⟨rfl,rfl,rfl⟩ (Need.mk (aD hN hx61 (by decide)) (Eqv.mk (List.map D.str l33) (aH _ hx61) ?_));(conv=>whnf);intro hd47;cases hx57;(conv=>whnf);exact⟨hd47,trivial,kW⟩
        ·replace hx57:=ag hc30 hx57;cases hx57;(conv=>whnf);exact⟨hd41,trivial,kW⟩
       ·rintro hd45 _;(conv=>whnf);exact⟨(n2,(w64 (i8+1),l32),hd45),hl2,kW,Nat.lt_succ_self _⟩
      ·replace hl2:=ag hc28 hl2;cases hl2;(conv=>whnf);exact⟨hd41,trivial,kW⟩
    ·rintro hd25 _;(iterate 4 refine ws ?_);(conv=>whnf);cases h;exact rfl
theorem xV{N:Nat}(hN:N≤1073741824) {r:FrameLaw}(h:zD N=some r) :
    ACalls Tryz.prog 9 [] [] fun e os=>e=.ret (.d (.agg [I r.fFrames,I r.fPins,I r.fBalls,I r.fTap]))∧os=[]:=by
  refine ah (fresh:=false) al ap ⟨[],[],[],[],[],0,[]⟩ Tryz.func9 rfl Tryz.call9 rfl ?_
  unfold zD at h
  (conv=>whnf);intro b2;(iterate 2 refine ws ?_);(conv=>whnf);cases h;exact rfl
end Go.Proofs.YtfnicgdcofjlpaaGreatDoor
