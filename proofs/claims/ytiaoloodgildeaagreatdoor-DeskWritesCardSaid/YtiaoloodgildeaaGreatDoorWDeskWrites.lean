/-
  The walk of the law DeskWrites.
-/
import Derived.Test.YtiaoloodgildeaaGreatDoorDDeskWrites
import Derived.Test.YtiaoloodgildeaaGreatDoorWe
import Derived.Test.YtiaoloodgildeaaGreatDoorVa
import Derived.Test.YtiaoloodgildeaaGreatDoorVf
import Derived.Test.YtiaoloodgildeaaGreatDoorVg
namespace Go.Proofs.YtiaoloodgildeaaGreatDoor
open Go Go.Abs Go.Kp
set_option maxRecDepth 100000
set_option maxHeartbeats 8000000
set_option linter.all false
theorem DE{N:Nat}(hN:N≤1073741824){lines1:List (List UInt8)}{b1:List Int}{r:Bool}(h:CW N lines1 b1=some r) :
    ACalls Tryz.prog 15 [.d (.list 1 (List.map D.str lines1)),.d (.list 1 (List.map (fun x=>.int .u8 x) b1))] [] fun e os=>e=.ret (.d (.bool r))∧os=[]:=by
  refine ah (fresh:=false) al ap ⟨[],[],[],[],[1,6,10,11],0,[]⟩ Tryz.func15 rfl Tryz.call15 rfl ?_
  unfold CW at h
  obtain⟨v4,hx7,h⟩:=ab h;(conv=>whnf);refine SeqG.mk Unit (fun y=>[(0,.d (.list 1 (List.map D.str lines1))),(1,.d (.list 1 (List.map (fun x=>.int .u8 x) b1))),(19,.d (.bool v4))]) (fun y=>[]) (fun _=>True) ?_ ?_
  ·obtain⟨r6,hx8,hx7⟩:=ab hx7;(conv=>whnf);refine CallG.pure _ (sf hN hx8) ?_;refine wB (fun hc5=>?_) (fun hc5=>?_)
   ·replace hx7:=ag hc5 hx7;(conv=>whnf);refine LnA.mk _ (List.length_map _) ?_;cases hx7;(conv=>whnf);exact⟨(),trivial,xT⟩
   ·replace hx7:=af hc5 hx7;cases hx7;(conv=>whnf);exact⟨(),trivial,xT⟩
  ·rintro _ _;refine wB (fun hc6=>?_) (fun hc6=>?_)
   ·replace h:=af hc6 h;obtain⟨r8,hx10,h⟩:=ab h;(conv=>whnf);refine CallG.pure _ (jR hN hx10) ?_;(conv=>whnf);cases h;exact rfl
   ·replace h:=ag hc6 h;obtain⟨r10,hx13,h⟩:=ab h;(conv=>whnf);refine CallG.fresh 23 (sv hN hx13) ?_;intro hd2;obtain⟨⟨ra2,rb2⟩,hx14,h⟩:=ab h;refine ws ?_;(conv=>whnf);refine CallG.pure _ (ol hN hx14) ?_;(conv=>whnf);intro hd6;obtain⟨l2,hx17,h⟩:=ab h;refine ws ?_;(conv=>whnf);refine Side.mk ⟨rfl,rfl,rfl⟩ (Need.mk (aD hN hx17 (by decide)) (Eqv.mk (List.map (fun x=>.int .u8 x) l2) (aH _ hx17) ?_));(conv=>whnf);intro hd7;obtain⟨⟨ra4,rb4⟩,hx18,h⟩:=ab h;refine ws ?_;(conv=>whnf)
    refine CallG.own (li hN hx18) id [(23,.arr hd2 9 1 true (List.map D.str r10)),(28,.arr hd7 5 1 true (List.map (fun x=>.int .u8 x) l2))] _ (fun y=>[(275016,.arr y 9 1 false (List.map D.str rb4)),(23,.arr hd2 9 1 true (List.map D.str r10)),(28,.arr hd7 5 1 true (List.map (fun x=>.int .u8 x) l2))]) (ac _) trivial rfl trivial (ai (ai trivial)) (fun _=>AV.le_refl _) (fun _=>rfl) ?_;rintro hd8 _;refine ws ?_;(conv=>whnf);refine StrG.mk b1 rfl ?_;obtain⟨⟨ra6,rb6⟩,hx20,h⟩:=ab h;(conv=>whnf);refine CallG.pure _ (E3 hN hx20) ?_;obtain⟨v8,hx25,h⟩:=ab h;(conv=>whnf);refine SeqG.mk Unit (fun y=>[(0,.d (.list 1 (List.map D.str lines1))),(5,.d (.list 1 (List.map (fun x=>.int .u8 x) ra2))),(6,.d (I rb2)),(48,.d (.bool v8))]) (fun y=>[]) (fun _=>True) ?_ ?_
    ·obtain⟨r14,hx26,hx25⟩:=ab hx25;refine ws ?_;(conv=>whnf);refine CallG.pure _ (rx hN hx26) ?_;refine wB (fun hc11=>?_) (fun hc11=>?_)
     ·replace hx25:=ag hc11 hx25;cases hx25;(conv=>whnf);exact⟨(),trivial,xT⟩
     ·replace hx25:=af hc11 hx25;cases hx25;(conv=>whnf);exact⟨(),trivial,xT⟩
    ·rintro _ _;refine wB (fun hc12=>?_) (fun hc12=>?_)
     ·replace h:=af hc12 h;(conv=>whnf);cases h;exact rfl
     ·replace h:=ag hc12 h;obtain⟨r20,hx33,h⟩:=ab h;(conv=>whnf);refine CallG.pure _ (ED hN hx33) ?_;refine wB (fun hc18=>?_) (fun hc18=>?_)
      ·replace h:=af hc18 h;obtain⟨v12,hx35,h⟩:=ab h;(conv=>whnf);refine SeqG.mk Unit (fun y=>[(4,.d (.bool v12))]) (fun y=>[]) (fun _=>True) ?_ ?_
       ·refine wB (fun hc21=>?_) (fun hc21=>?_)
        ·replace hx35:=af hc21 hx35;(conv=>whnf);refine LnA.mk _ (List.length_map _) ?_;refine wB (fun hc22=>?_) (fun hc22=>?_)
         ·replace hx35:=af hc22 hx35;obtain⟨r22,hx36,hx35⟩:=ab hx35;(conv=>whnf);refine CallG.pure _ (jR hN hx36) ?_;cases hx35;(conv=>whnf);exact⟨(),trivial,xT⟩
         ·replace hx35:=ag hc22 hx35;cases hx35;(conv=>whnf);exact⟨(),trivial,xT⟩
        ·replace hx35:=ag hc21 hx35;cases hx35;(conv=>whnf);exact⟨(),trivial,xT⟩
       ·rintro _ _;(conv=>whnf);cases h;exact rfl
      ·replace h:=ag hc18 h;obtain⟨v14,hx40,h⟩:=ab h;(conv=>whnf);refine SeqG.mk Unit (fun y=>[(4,.d (.bool v14))]) (fun y=>[]) (fun _=>True) ?_ ?_
       ·(conv=>whnf);refine DrawG.mk (.take 0 (.take 1 (.take 2 (.spl 66 (.take 3 (.take 5 (.alt 4 [5,1,0] (.alt 6 [1,0] (.take 7 (.take 8 (.take 9 (.spl 73 (.alt 10 [8,7,1,0] (.take 11 (.take 12 .done)) .nil))))) .nil) (.alt 6 [3,1,0] (.alt 4 [1,0] (.take 7 (.take 8 (.take 9 (.spl 73 (.alt 10 [8,7,1,0] (.take 11 (.take 12 .done)) .nil))))) .nil) .nil)))))))) (by kernel_rfl) ?_;refine wB (fun hc26=>?_) (fun hc26=>?_)
        ·replace hx40:=af hc26 hx40;obtain⟨r26,hx41,hx40⟩:=ab hx40;(conv=>whnf);refine Both.mk ?_ ?_
         ·refine ws ?_;(conv=>whnf);refine StrG.mk ra2 rfl ?_;(iterate 3 refine wl ?_);refine wb ?_;(conv=>whnf);refine CallG.pure _ (D3 hN hx41) ?_;(iterate 2 refine wl ?_);refine wB (fun hc27=>?_) (fun hc27=>?_)
          ·replace hx40:=af hc27 hx40;obtain⟨r27,hx42,hx40⟩:=ab hx40;refine wb ?_;(conv=>whnf);refine CallG.pure _ (jR hN hx42) ?_;(iterate 4 refine wl ?_);cases hx40;(conv=>whnf);exact⟨(),trivial,xT⟩
          ·replace hx40:=ag hc27 hx40;refine wb ?_;(iterate 4 refine wl ?_);cases hx40;(conv=>whnf);exact⟨(),trivial,xT⟩
         ·refine wb ?_;(conv=>whnf);refine CallG.pure _ (D3 hN hx41) ?_;(iterate 3 refine wl ?_);refine wb ?_;refine ws ?_;(conv=>whnf);refine StrG.mk ra2 rfl ?_;(iterate 2 refine wl ?_);refine wB (fun hc28=>?_) (fun hc28=>?_)
          ·replace hx40:=af hc28 hx40;obtain⟨r28,hx43,hx40⟩:=ab hx40;refine wb ?_;(conv=>whnf);refine CallG.pure _ (jR hN hx43) ?_;(iterate 4 refine wl ?_);cases hx40;(conv=>whnf);exact⟨(),trivial,xT⟩
          ·replace hx40:=ag hc28 hx40;refine wb ?_;(iterate 4 refine wl ?_);cases hx40;(conv=>whnf);exact⟨(),trivial,xT⟩
        ·replace hx40:=ag hc26 hx40;(conv=>whnf);refine Both.mk ?_ ?_
         ·(conv=>whnf);refine nr ?_;(iterate 2 refine wl ?_);refine wb ?_;(iterate 2 refine wl ?_);refine wb ?_;refine wl ?_;(conv=>whnf);refine nr ?_;(iterate 2 refine wl ?_);cases hx40;(conv=>whnf);exact⟨(),trivial,xT⟩
         ·refine wb ?_;(conv=>whnf);refine nr ?_;(iterate 2 refine wl ?_);refine wb ?_;(iterate 2 refine wl ?_);refine wb ?_;refine wl ?_;(conv=>whnf);refine nr ?_;(iterate 2 refine wl ?_);cases hx40;(conv=>whnf);exact⟨(),trivial,xT⟩
       ·rintro _ _;(conv=>whnf);cases h;exact rfl
end Go.Proofs.YtiaoloodgildeaaGreatDoor
