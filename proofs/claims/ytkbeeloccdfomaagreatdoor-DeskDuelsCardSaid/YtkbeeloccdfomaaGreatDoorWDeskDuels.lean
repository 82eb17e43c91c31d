/-
  The walk of the law DeskDuels.
-/
import Derived.Test.YtkbeeloccdfomaaGreatDoorDDeskDuels
import Derived.Test.YtkbeeloccdfomaaGreatDoorWe
import Derived.Test.YtkbeeloccdfomaaGreatDoorVa
import Derived.Test.YtkbeeloccdfomaaGreatDoorVf
import Derived.Test.YtkbeeloccdfomaaGreatDoorVg
namespace Go.Proofs.YtkbeeloccdfomaaGreatDoor
open Go Go.Abs Go.Kp
set_option maxRecDepth 100000
set_option maxHeartbeats 8000000
set_option linter.all false
theorem DL{N:Nat}(hN:N≤1073741824){lines1:List (List UInt8)}{which1:Int}{doubt1:Bool}{r:Bool}(h:C6 N lines1 which1 doubt1=some r) :
    ACalls Tryz.prog 4 [.d (.list 1 (List.map D.str lines1)),.d (.int .u8 which1),.d (.bool doubt1)] [] fun e os=>e=.ret (.d (.bool r))∧os=[]:=by
  refine ah (fresh:=false) al ap ⟨[],[],[],[],[1,8,11,14,28,1004,1016,1018,1021,1022,1025],0,[]⟩ Tryz.func4 rfl Tryz.call4 rfl ?_
  unfold C6 at h
  obtain⟨v4,hx10,h⟩:=ab h;(conv=>whnf);refine SeqG.mk Unit (fun y=>[(0,.d (.list 1 (List.map D.str lines1))),(1,.d (.int .u8 which1)),(2,.d (.bool doubt1)),(33,.d (.bool v4))]) (fun y=>[]) (fun _=>True) ?_ ?_
  ·obtain⟨r9,hx11,hx10⟩:=ab hx10;(conv=>whnf);refine CallG.pure _ (sf hN hx11) ?_;refine wB (fun hc8=>?_) (fun hc8=>?_)
   ·replace hx10:=ag hc8 hx10;obtain⟨r10,hx12,hx10⟩:=ab hx10;(conv=>whnf);refine CallG.pure _ (rm hN hx12) ?_;refine wB (fun hc9=>?_) (fun hc9=>?_)
    ·replace hx10:=ag hc9 hx10;(conv=>whnf);refine LnA.mk _ (List.length_map _) ?_;cases hx10;(conv=>whnf);exact⟨(),trivial,xT⟩
    ·replace hx10:=af hc9 hx10;cases hx10;(conv=>whnf);exact⟨(),trivial,xT⟩
   ·replace hx10:=af hc8 hx10;cases hx10;(conv=>whnf);exact⟨(),trivial,xT⟩
  ·rintro _ _;refine wB (fun hc10=>?_) (fun hc10=>?_)
   ·replace h:=af hc10 h;obtain⟨r12,hx14,h⟩:=ab h;(conv=>whnf);refine CallG.pure _ (jR hN hx14) ?_;(conv=>whnf);cases h;exact rfl
   ·replace h:=ag hc10 h;(conv=>whnf);refine Need.mk (by decide) ?_;obtain⟨r14,hx17,h⟩:=ab h;(conv=>whnf);refine CallG.pure _ (Bx hN hx17) ?_;obtain⟨s2,hx18,h⟩:=ab h;(conv=>whnf);refine Need.mk (eO hN hx18) ?_;obtain⟨line2,hx21,h⟩:=ab h;(conv=>whnf);refine SeqG.mk Unit (fun y=>[(0,.d (.list 1 (List.map D.str lines1))),(2,.d (.bool doubt1)),(7,.d (.str line2))]) (fun y=>[]) (fun _=>True) ?_ ?_
    ·refine wB (fun hc12=>?_) (fun hc12=>?_)
     ·replace hx21:=af hc12 hx21;(conv=>whnf);refine Need.mk (by decide) ?_;obtain⟨r16,hx22,hx21⟩:=ab hx21;(conv=>whnf);refine CallG.pure _ (Bx hN hx22) ?_;obtain⟨s4,hx23,hx21⟩:=ab hx21;(conv=>whnf);refine Need.mk (eO hN hx23) ?_;cases hx21;(conv=>whnf);exact⟨(),trivial,xT⟩
     ·replace hx21:=ag hc12 hx21;cases hx21;(conv=>whnf);exact⟨(),trivial,xT⟩
    ·rintro _ _;obtain⟨⟨ra2,rb2,rc2⟩,hx25,h⟩:=ab h;(conv=>whnf);refine CallG.pure _ (zV hN hx25) ?_;(conv=>whnf);intro b2;refine ws ?_;obtain⟨r18,hx29,h⟩:=ab h;(conv=>whnf);refine CallG.fresh 54 (sv hN hx29) ?_;intro hd4;(conv=>whnf);intro hd5;obtain⟨l2,hx30,h⟩:=ab h;(conv=>whnf);refine Side.mk ⟨rfl,rfl⟩ ?_;(conv=>whnf);refine Side.mk ⟨rfl,rfl,rfl⟩ (Need.mk (aD hN hx30 (by decide)) (Eqv.mk (List.map D.str l2) (aH _ hx30) ?_));(conv=>whnf);intro hd6;obtain⟨⟨ra4,rb4,rc4⟩,hx31,h⟩:=ab h;refine ws ?_;(conv=>whnf);refine CallG.pure _ (zV hN hx31) ?_;(conv=>whnf);intro b4;refine ws ?_;obtain⟨v8,hx33,h⟩:=ab h;(conv=>whnf)
     refine SeqG.mk Unit (fun y=>[(2,.d (.bool doubt1)),(8,.ptr 8 b2 0),(11,.ptr 11 b4 0),(67,.d (.bool v8))]) (fun y=>[(8,.cells b2 [.d (.list 1 (List.map I ra2.fBowlers)),.d (.list 2 (List.map DeskLane.enc ra2.fLanes)),.d (.list 1 (List.map eL ra2.fKept)),.d (.list 6 (List.map RateSheet.enc ra2.fSheets)),.d (.list 1 (List.map I ra2.fWithdrawn)),.d (.list 3 (List.map LadderResult.enc ra2.fResults))]),(11,.cells b4 [.d (.list 1 (List.map I ra4.fBowlers)),.d (.list 2 (List.map DeskLane.enc ra4.fLanes)),.d (.list 1 (List.map eL ra4.fKept)),.d (.list 6 (List.map RateSheet.enc ra4.fSheets)),.d (.list 1 (List.map I ra4.fWithdrawn)),.d (.list 3 (List.map LadderResult.enc ra4.fResults))])]) (fun _=>True) ?_ ?_
     ·refine wB (fun hc17=>?_) (fun hc17=>?_)
      ·replace hx33:=ag hc17 hx33;cases hx33;(conv=>whnf);exact⟨(),trivial,xT⟩
      ·replace hx33:=af hc17 hx33;cases hx33;(conv=>whnf);exact⟨(),trivial,xT⟩
     ·rintro _ _;refine wB (fun hc18=>?_) (fun hc18=>?_)
      ·replace h:=af hc18 h;(conv=>whnf);cases h;exact rfl
      ·replace h:=ag hc18 h;refine ws ?_;(conv=>whnf);refine LnA.mk _ (List.length_map _) ?_;refine wB (fun hc22=>?_) (fun hc22=>?_)
       ·replace h:=af hc22 h;obtain⟨v12,hx38,h⟩:=ab h;(conv=>whnf);refine SeqG.mk Unit (fun y=>[(6,.d (.bool v12))]) (fun y=>[]) (fun _=>True) ?_ ?_
        ·refine ws ?_;(conv=>whnf);refine LnA.mk _ (List.length_map _) ?_;refine wB (fun hc24=>?_) (fun hc24=>?_)
         ·replace hx38:=af hc24 hx38;obtain⟨r22,hx39,hx38⟩:=ab hx38;(conv=>whnf);refine CallG.pure _ (jR hN hx39) ?_;cases hx38;(conv=>whnf);exact⟨(),trivial,xT⟩
         ·replace hx38:=ag hc24 hx38;cases hx38;(conv=>whnf);exact⟨(),trivial,xT⟩
        ·rintro _ _;(conv=>whnf);cases h;exact rfl
       ·replace h:=ag hc22 h;refine ws ?_;obtain⟨r24,hx42,h⟩:=ab h;(conv=>whnf);refine CallG.pure _ (DW hN hx42) ?_;obtain⟨⟨ra6,rb6⟩,hx43,h⟩:=ab h;(conv=>whnf);refine CallG.pure _ (oN hN hx43) ?_;refine ws ?_;obtain⟨r26,hx46,h⟩:=ab h;(conv=>whnf);refine CallG.pure _ (DW hN hx46) ?_;obtain⟨⟨ra8,rb8⟩,hx47,h⟩:=ab h;(conv=>whnf);refine CallG.pure _ (oN hN hx47) ?_;obtain⟨v16,hx49,h⟩:=ab h;(conv=>whnf);refine SeqG.mk Unit (fun y=>[(2,.d (.bool doubt1)),(14,.d (.list 1 (List.map I ra6))),(16,.d (.list 1 (List.map I ra8))),(96,.d (.bool v16))]) (fun y=>[]) (fun _=>True) ?_ ?_
        ·refine wB (fun hc29=>?_) (fun hc29=>?_)
         ·replace hx49:=ag hc29 hx49;cases hx49;(conv=>whnf);exact⟨(),trivial,xT⟩
         ·replace hx49:=af hc29 hx49;cases hx49;(conv=>whnf);exact⟨(),trivial,xT⟩
        ·rintro _ _;refine wB (fun hc30=>?_) (fun hc30=>?_)
         ·replace h:=af hc30 h;(conv=>whnf);cases h;exact rfl
         ·replace h:=ag hc30 h;obtain⟨⟨a2,b6⟩,hx50,h⟩:=ab h;(conv=>whnf);refine SeqG.mk Unit (fun y=>[(14,.d (.list 1 (List.map I a2))),(16,.d (.list 1 (List.map I b6)))]) (fun y=>[]) (fun _=>True) ?_ ?_
          ·refine wB (fun hc32=>?_) (fun hc32=>?_)
           ·replace hx50:=af hc32 hx50;cases hx50;(conv=>whnf);exact⟨(),trivial,xT⟩
           ·replace hx50:=ag hc32 hx50;cases hx50;(conv=>whnf);exact⟨(),trivial,xT⟩
          ·rintro _ _;(conv=>whnf);refine SeqG.mk Unit (fun y=>[(16,.d (.list 1 (List.map I b6)))]) (fun y=>[]) (fun y=>C2 N b6=some r) ?_ ?_
           ·(conv=>whnf);refine LoopG.mk (Nat×Int) (fun y=>[(14,.d (.list 1 (List.map I a2))),(16,.d (.list 1 (List.map I b6))),(18,.d (I y.2))]) (fun y=>[]) (fun y=>aj (fun rr x=>BK N a2 b6 rr x) y.1 y.2=some r) (fun y=>y.1) (N,0) h (Sub.eq rfl ?_ ?_) ?_
            ·(repeat ((conv=>whnf);refine nr ?_));exact trivial
            ·exact trivial
            ·rintro⟨n22,i8⟩ hl22;obtain⟨n22,rfl,hl22⟩:=ar hl22;replace hl22:BK N a2 b6 (aj (fun rr x=>BK N a2 b6 rr x) n22) i8=some r:=hl22;rw[BK]at hl22;(conv=>whnf);refine LnA.mk _ (List.length_map _) ?_;refine wB (fun hc256=>?_) (fun hc256=>?_)
             ·replace hl22:=af hc256 hl22;(conv=>whnf);refine SeqG.mk Unit (fun y=>[(14,.d (.list 1 (List.map I a2))),(16,.d (.list 1 (List.map I b6))),(18,.d (I i8))]) (fun y=>[]) (fun y=>C4 N i8 (aj (fun rr x=>BK N a2 b6 rr x) n22)=some r) ?_ ?_
              ·obtain⟨has219,hx410,hl22⟩:=ab hl22;(conv=>whnf);refine SeqG.mk Unit (fun y=>[(14,.d (.list 1 (List.map I a2))),(16,.d (.list 1 (List.map I b6))),(18,.d (I i8)),(19,.d (.bool has219))]) (fun y=>[]) (fun _=>True) ?_ ?_
               ·(conv=>whnf);refine LoopG.mk (Nat×(Bool×Int)) (fun y=>[(14,.d (.list 1 (List.map I a2))),(16,.d (.list 1 (List.map I b6))),(18,.d (I i8)),(19,.d (.bool y.2.1)),(20,.d (I y.2.2))]) (fun y=>[]) (fun y=>aj (fun rr x=>Cq N a2 b6 i8 rr x.1 x.2) y.1 y.2=some has219) (fun y=>y.1) (N,(false,0)) hx410 (Sub.eq rfl ?_ ?_) ?_
                ·(repeat ((conv=>whnf);refine nr ?_));exact trivial
                ·exact trivial
                ·rintro⟨n26,⟨has226,k96⟩⟩ hl26;obtain⟨n26,rfl,hl26⟩:=ar hl26;replace hl26:Cq N a2 b6 i8 (aj (fun rr x=>Cq N a2 b6 i8 rr x.1 x.2) n26) has226 k96=some has219:=hl26;rw[Cq]at hl26;(conv=>whnf);refine LnA.mk _ (List.length_map _) ?_;refine wB (fun hc295=>?_) (fun hc295=>?_)
                 ·replace hl26:=af hc295 hl26;obtain⟨has228,hx423,hl26⟩:=ab hl26;(conv=>whnf);refine SeqG.mk Unit (fun y=>[(14,.d (.list 1 (List.map I a2))),(16,.d (.list 1 (List.map I b6))),(18,.d (I i8)),(19,.d (.bool has228)),(20,.d (I k96))]) (fun y=>[]) (fun _=>True) ?_ ?_
                  ·(conv=>whnf);refine DrawG.mk (.take 0 (.take 1 (.spl 113 (.take 2 (.take 3 (.take 4 (.take 5 (.take 6 (.take 7 (.take 8 (.take 9 (.take 10 (.take 11 (.alt 12 [] .done .nil)))))))))))))) (by kernel_rfl) ?_;refine wB (fun hc297=>?_) (fun hc297=>?_)
                   ·replace hx423:=af hc297 hx423;refine wb ?_;cases hx423;(conv=>whnf);exact⟨(),trivial,xT⟩
                   ·replace hx423:=ag hc297 hx423;obtain⟨x287,hx424,hx423⟩:=ab hx423;obtain⟨x288,hx425,hx423⟩:=ab hx423;(conv=>whnf);refine Side.mk rfl ⟨_,aC hx424,ak _ hx424,?_⟩;(conv=>whnf);refine Side.mk rfl ⟨_,aC hx425,ak _ hx425,?_⟩;refine wb ?_;cases hx423;(conv=>whnf);exact⟨(),trivial,xT⟩
                  ·rintro _ _;(conv=>whnf);exact⟨(n26,(has228,w64 (k96+1))),hl26,xT,Nat.lt_succ_self _⟩
                 ·replace hl26:=ag hc295 hl26;cases hl26;(conv=>whnf);exact⟨(),trivial,xT⟩
               ·rintro _ _;refine wB (fun hc298=>?_) (fun hc298=>?_)
                ·replace hl22:=af hc298 hl22;(conv=>whnf);cases hl22;exact rfl
                ·replace hl22:=ag hc298 hl22;(conv=>whnf);exact⟨(),hl22,xT⟩
              ·rintro _ h;unfold C4 at h;(conv=>whnf);exact⟨(n22,w64 (i8+1)),h,xT,Nat.lt_succ_self _⟩
             ·replace hl22:=ag hc256 hl22;(conv=>whnf);exact⟨(),hl22,xT⟩
           ·clear h;rintro _ h;unfold C2 at h;obtain⟨v54,hx238,h⟩:=ab h;(conv=>whnf);refine SeqG.mk Unit (fun y=>[(6,.d (.bool v54))]) (fun y=>[]) (fun _=>True) ?_ ?_
            ·(conv=>whnf);refine LnA.mk _ (List.length_map _) ?_;refine wB (fun hc166=>?_) (fun hc166=>?_)
             ·replace hx238:=af hc166 hx238;obtain⟨r28,hx239,hx238⟩:=ab hx238;(conv=>whnf);refine CallG.pure _ (jR hN hx239) ?_;cases hx238;(conv=>whnf);exact⟨(),trivial,xT⟩
             ·replace hx238:=ag hc166 hx238;cases hx238;(conv=>whnf);exact⟨(),trivial,xT⟩
            ·rintro _ _;(conv=>whnf);cases h;exact rfl
end Go.Proofs.YtkbeeloccdfomaaGreatDoor
