/-
  The walk of the law DeskGoesOn.
-/
import Derived.Test.YtemciceobngijaaGreatDoorDDeskGoesOn
import Derived.Test.YtemciceobngijaaGreatDoorWe
import Derived.Test.YtemciceobngijaaGreatDoorVa
import Derived.Test.YtemciceobngijaaGreatDoorVg
namespace Go.Proofs.YtemciceobngijaaGreatDoor
open Go Go.Abs Go.Kp
set_option maxRecDepth 100000
set_option maxHeartbeats 8000000
set_option linter.all false
theorem FK{N:Nat}(hN:N≤1073741824){lines1:List (List UInt8)}{cut1:Int}{r:Bool}(h:Fv N lines1 cut1=some r) :
    ACalls Tryz.prog 4 [.d (.list 1 (List.map D.str lines1)),.d (.int .u16 cut1)] [] fun e os=>e=.ret (.d (.bool r))∧os=[]:=by
  refine ah (fresh:=false) al ap ⟨[],[],[],[],[1,6,12,13],0,[]⟩ Tryz.func4 rfl Tryz.call4 rfl ?_
  unfold Fv at h
  obtain⟨v4,hx10,h⟩:=ab h;(conv=>whnf);refine SeqG.mk Unit (fun y=>[(0,.d (.list 1 (List.map D.str lines1))),(1,.d (.int .u16 cut1)),(24,.d (.bool v4))]) (fun y=>[]) (fun _=>True) ?_ ?_
  ·obtain⟨r9,hx11,hx10⟩:=ab hx10;(conv=>whnf);refine CallG.pure _ (sf hN hx11) ?_;refine wB (fun hc5=>?_) (fun hc5=>?_)
   ·replace hx10:=ag hc5 hx10;obtain⟨r10,hx12,hx10⟩:=ab hx10;(conv=>whnf);refine CallG.pure _ (rm hN hx12) ?_;cases hx10;(conv=>whnf);exact⟨(),trivial,xT⟩
   ·replace hx10:=af hc5 hx10;cases hx10;(conv=>whnf);exact⟨(),trivial,xT⟩
  ·rintro _ _;refine wB (fun hc6=>?_) (fun hc6=>?_)
   ·replace h:=af hc6 h;obtain⟨r12,hx14,h⟩:=ab h;(conv=>whnf);refine CallG.pure _ (jR hN hx14) ?_;(conv=>whnf);cases h;exact rfl
   ·replace h:=ag hc6 h;obtain⟨⟨ra2,rb2,rc2⟩,hx16,h⟩:=ab h;(conv=>whnf);refine CallG.pure _ (zV hN hx16) ?_;(conv=>whnf);intro b2;refine ws ?_;obtain⟨r14,hx19,h⟩:=ab h;(conv=>whnf);refine CallG.fresh 34 (sv hN hx19) ?_;intro hd2;obtain⟨⟨ra4,rb4⟩,hx20,h⟩:=ab h;refine ws ?_;(conv=>whnf);refine CallG.pure _ (ol hN hx20) ?_;obtain⟨r16,hx23,h⟩:=ab h;(conv=>whnf);refine CallG.fresh 40 (sv hN hx23) ?_;intro hd4;obtain⟨⟨ra6,rb6⟩,hx24,h⟩:=ab h;refine ws ?_;(conv=>whnf);refine CallG.pure _ (Fu hN hx24) ?_;obtain⟨v8,hx26,h⟩:=ab h;(conv=>whnf);refine SeqG.mk Unit (fun y=>[(1,.d (.int .u16 cut1)),(6,.d (.list 1 (List.map D.str rb2))),(8,.d (.list 1 (List.map (fun x=>.int .u8 x) ra4))),(60,.d (.bool v8))]) (fun y=>[]) (fun _=>True) ?_ ?_
    ·refine wB (fun hc17=>?_) (fun hc17=>?_)
     ·replace hx26:=ag hc17 hx26;refine wB (fun hc18=>?_) (fun hc18=>?_)
      ·replace hx26:=ag hc18 hx26;refine wB (fun hc19=>?_) (fun hc19=>?_)
       ·replace hx26:=ag hc19 hx26;refine ws ?_;(conv=>whnf);refine StrG.mk ra4 rfl ?_;refine ws ?_;(conv=>whnf);refine StrG.mk ra6 rfl ?_;cases hx26;(conv=>whnf);exact⟨(),trivial,xT⟩
       ·replace hx26:=af hc19 hx26;cases hx26;(conv=>whnf);exact⟨(),trivial,xT⟩
      ·replace hx26:=af hc18 hx26;cases hx26;(conv=>whnf);exact⟨(),trivial,xT⟩
     ·replace hx26:=af hc17 hx26;cases hx26;(conv=>whnf);exact⟨(),trivial,xT⟩
    ·rintro _ _;refine wB (fun hc20=>?_) (fun hc20=>?_)
     ·replace h:=af hc20 h;(conv=>whnf);cases h;exact rfl
     ·replace h:=ag hc20 h;(conv=>whnf);refine LnA.mk _ (List.length_map _) ?_;obtain⟨_,hx28,h⟩:=ab h;(conv=>whnf);refine Need.mk (xk hx28) ?_;(conv=>whnf);intro hd8;obtain⟨l3,hx32,h⟩:=ab h;(conv=>whnf);refine Need.mk (dt _ hx32) (Eqv.mk (List.map (fun x=>.int .u8 x) l3) (dA _ hx32) ?_);obtain⟨l4,hx33,h⟩:=ab h;refine ws ?_;(conv=>whnf);refine Side.mk ⟨rfl,rfl,rfl⟩ (Need.mk (aD hN hx33 (by decide)) (Eqv.mk (List.map (fun x=>.int .u8 x) l4) (aH _ hx33) ?_));(conv=>whnf);intro hd9;obtain⟨⟨ra8,rb8⟩,hx34,h⟩:=ab h;refine ws ?_;(conv=>whnf)
      refine CallG.own (li hN hx34) id [(68,.arr hd9 5 1 true (List.map (fun x=>.int .u8 x) l4))] _ (fun y=>[(80016,.arr y 9 1 false (List.map D.str rb8)),(68,.arr hd9 5 1 true (List.map (fun x=>.int .u8 x) l4))]) (ac _) trivial rfl trivial (ai trivial) (fun _=>AV.le_refl _) (fun _=>rfl) ?_;rintro hd10 _;(conv=>whnf);refine Side.mk rfl (LnA.mk _ (List.length_map _) ?_);(conv=>whnf);refine LnA.mk _ (List.length_map _) ?_;refine wB (fun hc22=>?_) (fun hc22=>?_)
      ·replace h:=af hc22 h;(conv=>whnf);cases h;exact rfl
      ·replace h:=ag hc22 h;obtain⟨⟨d2,g2⟩,hx40,h⟩:=ab h;(conv=>whnf);refine SeqG.mk Unit (fun y=>[(8,.d (.list 1 (List.map (fun x=>.int .u8 x) ra4))),(15,.d (.list 1 (List.map (fun x=>.int .u8 x) d2))),(16,.d (I g2))]) (fun y=>[]) (fun _=>True) ?_ ?_
       ·obtain⟨l8,hx41,hx40⟩:=ab hx40;obtain⟨l9,hx42,hx40⟩:=ab hx40;obtain⟨l10,hx43,hx40⟩:=ab hx40;obtain⟨r18,hx44,hx40⟩:=ab hx40;obtain⟨⟨ra10,rb10⟩,hx45,hx40⟩:=ab hx40;(conv=>whnf)
        refine DrawG.mk (.take 1 (.take 2 (.take 5 (.take 6 (.take 7 (.alt 0 [7,6,5,2,1] (.alt 3 [7,6,5] (.alt 4 [7,6,5] (.alt 8 [6] (.alt 9 [6] (.alt 10 [6] (.take 11 (.take 12 (.take 13 (.take 14 (.take 15 .done))))) .nil) .nil) .nil) (.alt 8 [6] (.alt 4 [6] (.alt 9 [6] (.alt 10 [6] (.take 11 (.take 12 (.take 13 (.take 14 (.take 15 .done))))) .nil) .nil) .nil) .nil)) (.alt 8 [6,2,1] (.alt 3 [6] (.alt 4 [6] (.alt 9 [6] (.alt 10 [6] (.take 11 (.take 12 (.take 13 (.take 14 (.take 15 .done))))) .nil) .nil) .nil) .nil) .nil)) (.alt 3 [7,6,5] (.alt 0 [7,6,5] (.alt 4 [7,6,5] (.alt 8 [6] (.alt 9 [6] (.alt 10 [6] (.take 11 (.take 12 (.take 13 (.take 14 (.take 15 .done))))) .nil) .nil) .nil) (.alt 8 [6] (.alt 4 [6] (.alt 9 [6] (.alt 10 [6] (.take 11 (.take 12 (.take 13 (.take 14 (.take 15 .done))))) .nil) .nil) .nil) .nil)) (.alt 8 [6] (.alt 0 [6] (.alt 4 [6] (.alt 9 [6] (.alt 10 [6] (.take 11 (.take 12 (.take 13 (.take 14 (.take 15 .done))))) .nil) .nil) .nil) .nil) .nil)) (.alt 8 [6,2,1] (.alt 0 [6,2,1] (.alt 3 [6] (.alt 4 [6] (.alt 9 [6] (.alt 10 [6] (.take 11 (.take 12 (.take 13 (.take 14 (.take 15 .done))))) .nil) .nil) .nil) .nil) (.alt 3 [6] (.alt 0 [6] (.alt 4 [6] (.alt 9 [6] (.alt 10 [6] (.take 11 (.take 12 (.take 13 (.take 14 (.take 15 .done))))) .nil) .nil) .nil) .nil) .nil)) .nil)))))))) (by kernel_rfl) ?_
        (conv=>whnf);refine Side.mk rfl (LnA.mk _ (List.length_map _) ?_);(conv=>whnf);refine Both.mk ?_ ?_
        ·(conv=>whnf);intro hd38;(conv=>whnf);refine Side.mk rfl (LnA.mk _ (List.length_map _) ?_);(iterate 5 refine wl ?_);(conv=>whnf);refine Both.mk ?_ ?_
         ·(conv=>whnf);refine Need.mk (dt _ hx41) (Eqv.mk (List.map (fun x=>.int .u8 x) l8) (dA _ hx41) ?_);(conv=>whnf);refine Side.mk rfl (LnA.mk _ (List.length_map _) ?_);(iterate 3 refine wl ?_);(conv=>whnf);refine Both.mk ?_ ?_
          ·refine ws ?_;(conv=>whnf);refine Side.mk ⟨rfl,rfl,rfl⟩ (Need.mk (aD hN hx42 (by decide)) (Eqv.mk (List.map (fun x=>.int .u8 x) l9) (aH _ hx42) ?_));(conv=>whnf);intro hd39;(conv=>whnf);refine Side.mk rfl (LnA.mk _ (List.length_map _) ?_);(iterate 3 refine wl ?_);refine wb ?_;(conv=>whnf);refine Need.mk (lT _ hx43) (Eqv.mk (List.map D.str l10) (nW _ hx43) ?_);refine wl ?_;refine wb ?_;(conv=>whnf);refine CallG.fresh 91 (sv hN hx44) ?_;intro hd40;refine wl ?_;refine wb ?_;(iterate 2 refine ws ?_);(conv=>whnf);refine CallG.pure _ (Fu hN hx45) ?_;refine wl ?_;cases hx40;(conv=>whnf);exact⟨(),trivial,xT⟩
          ·refine wb ?_;(conv=>whnf);refine Need.mk (lT _ hx43) (Eqv.mk (List.map D.str l10) (nW _ hx43) ?_);refine wl ?_;refine wb ?_;refine ws ?_;(conv=>whnf);refine Side.mk ⟨rfl,rfl,rfl⟩ (Need.mk (aD hN hx42 (by decide)) (Eqv.mk (List.map (fun x=>.int .u8 x) l9) (aH _ hx42) ?_));(conv=>whnf);intro hd41;refine wl ?_;refine wb ?_;(conv=>whnf);refine CallG.fresh 91 (sv hN hx44) ?_;intro hd42;refine wl ?_;refine wb ?_;(iterate 2 refine ws ?_);(conv=>whnf);refine CallG.pure _ (Fu hN hx45) ?_;refine wl ?_;cases hx40;(conv=>whnf);exact⟨(),trivial,xT⟩
         ·refine wb ?_;(conv=>whnf);refine Need.mk (lT _ hx43) (Eqv.mk (List.map D.str l10) (nW _ hx43) ?_);(iterate 3 refine wl ?_);refine wb ?_;(conv=>whnf);refine Need.mk (dt _ hx41) (Eqv.mk (List.map (fun x=>.int .u8 x) l8) (dA _ hx41) ?_);refine wl ?_;refine wb ?_;refine ws ?_;(conv=>whnf);refine Side.mk ⟨rfl,rfl,rfl⟩ (Need.mk (aD hN hx42 (by decide)) (Eqv.mk (List.map (fun x=>.int .u8 x) l9) (aH _ hx42) ?_));(conv=>whnf);intro hd43;refine wl ?_;refine wb ?_;(conv=>whnf);refine CallG.fresh 91 (sv hN hx44) ?_;intro hd44;refine wl ?_;refine wb ?_;refine ws ?_;refine ws ?_
          (conv=>whnf);refine CallG.pure _ (Fu hN hx45) ?_;refine wl ?_;cases hx40;(conv=>whnf);exact⟨(),trivial,xT⟩
        ·(conv=>whnf);refine Both.mk ?_ ?_
         ·(conv=>whnf);refine Need.mk (dt _ hx41) (Eqv.mk (List.map (fun x=>.int .u8 x) l8) (dA _ hx41) ?_);(conv=>whnf);refine Side.mk rfl (LnA.mk _ (List.length_map _) ?_);(iterate 3 refine wl ?_);(conv=>whnf);refine Both.mk ?_ ?_
          ·(conv=>whnf);intro hd45;(conv=>whnf);refine Side.mk rfl (LnA.mk _ (List.length_map _) ?_);(iterate 3 refine wl ?_);(conv=>whnf);refine Both.mk ?_ ?_
           ·refine ws ?_;(conv=>whnf);refine Side.mk ⟨rfl,rfl,rfl⟩ (Need.mk (aD hN hx42 (by decide)) (Eqv.mk (List.map (fun x=>.int .u8 x) l9) (aH _ hx42) ?_));(conv=>whnf);intro hd46;(conv=>whnf);refine Side.mk rfl (LnA.mk _ (List.length_map _) ?_);(iterate 3 refine wl ?_);refine wb ?_;(conv=>whnf);refine Need.mk (lT _ hx43) (Eqv.mk (List.map D.str l10) (nW _ hx43) ?_);refine wl ?_;refine wb ?_;(conv=>whnf);refine CallG.fresh 91 (sv hN hx44) ?_;intro hd47;refine wl ?_;refine wb ?_;(iterate 2 refine ws ?_);(conv=>whnf);refine CallG.pure _ (Fu hN hx45) ?_;refine wl ?_;cases hx40;(conv=>whnf);exact⟨(),trivial,xT⟩
           ·refine wb ?_;(conv=>whnf);refine Need.mk (lT _ hx43) (Eqv.mk (List.map D.str l10) (nW _ hx43) ?_);refine wl ?_;refine wb ?_;refine ws ?_;(conv=>whnf);refine Side.mk ⟨rfl,rfl,rfl⟩ (Need.mk (aD hN hx42 (by decide)) (Eqv.mk (List.map (fun x=>.int .u8 x) l9) (aH _ hx42) ?_));(conv=>whnf);intro hd48;refine wl ?_;refine wb ?_;(conv=>whnf);refine CallG.fresh 91 (sv hN hx44) ?_;intro hd49;refine wl ?_;refine wb ?_;(iterate 2 refine ws ?_);(conv=>whnf);refine CallG.pure _ (Fu hN hx45) ?_;refine wl ?_;cases hx40;(conv=>whnf);exact⟨(),trivial,xT⟩
          ·refine wb ?_;(conv=>whnf);refine Need.mk (lT _ hx43) (Eqv.mk (List.map D.str l10) (nW _ hx43) ?_);refine wl ?_;refine wb ?_;(conv=>whnf);intro hd50;refine wl ?_;refine wb ?_;refine ws ?_;(conv=>whnf);refine Side.mk ⟨rfl,rfl,rfl⟩ (Need.mk (aD hN hx42 (by decide)) (Eqv.mk (List.map (fun x=>.int .u8 x) l9) (aH _ hx42) ?_));(conv=>whnf);intro hd51;refine wl ?_;refine wb ?_;(conv=>whnf);refine CallG.fresh 91 (sv hN hx44) ?_;intro hd52;refine wl ?_;refine wb ?_;(iterate 2 refine ws ?_);(conv=>whnf);refine CallG.pure _ (Fu hN hx45) ?_;refine wl ?_;cases hx40;(conv=>whnf);exact⟨(),trivial,xT⟩
         ·refine wb ?_;(conv=>whnf);refine Need.mk (lT _ hx43) (Eqv.mk (List.map D.str l10) (nW _ hx43) ?_);(iterate 3 refine wl ?_);(conv=>whnf);refine Both.mk ?_ ?_
          ·(conv=>whnf);intro hd53;(iterate 3 refine wl ?_);refine wb ?_;(conv=>whnf);refine Need.mk (dt _ hx41) (Eqv.mk (List.map (fun x=>.int .u8 x) l8) (dA _ hx41) ?_);refine wl ?_;refine wb ?_;refine ws ?_;(conv=>whnf);refine Side.mk ⟨rfl,rfl,rfl⟩ (Need.mk (aD hN hx42 (by decide)) (Eqv.mk (List.map (fun x=>.int .u8 x) l9) (aH _ hx42) ?_));(conv=>whnf);intro hd54;refine wl ?_;refine wb ?_;(conv=>whnf);refine CallG.fresh 91 (sv hN hx44) ?_;intro hd55;refine wl ?_;refine wb ?_;(iterate 2 refine ws ?_);(conv=>whnf);refine CallG.pure _ (Fu hN hx45) ?_;refine wl ?_;cases hx40;(conv=>whnf)
           exact⟨(),trivial,xT⟩
          ·refine wb ?_;(conv=>whnf);refine Need.mk (dt _ hx41) (Eqv.mk (List.map (fun x=>.int .u8 x) l8) (dA _ hx41) ?_);refine wl ?_;refine wb ?_;(conv=>whnf);intro hd56;refine wl ?_;refine wb ?_;refine ws ?_;(conv=>whnf);refine Side.mk ⟨rfl,rfl,rfl⟩ (Need.mk (aD hN hx42 (by decide)) (Eqv.mk (List.map (fun x=>.int .u8 x) l9) (aH _ hx42) ?_));(conv=>whnf);intro hd57;refine wl ?_;refine wb ?_;(conv=>whnf);refine CallG.fresh 91 (sv hN hx44) ?_;intro hd58;refine wl ?_;refine wb ?_;(iterate 2 refine ws ?_);(conv=>whnf);refine CallG.pure _ (Fu hN hx45) ?_;refine wl ?_;cases hx40;(conv=>whnf)
           exact⟨(),trivial,xT⟩
       ·rintro _ _;obtain⟨v10,hx47,h⟩:=ab h;(conv=>whnf);refine SeqG.mk Unit (fun y=>[(4,.d (.bool v10))]) (fun y=>[]) (fun _=>True) ?_ ?_
        ·refine wB (fun hc25=>?_) (fun hc25=>?_)
         ·replace hx47:=af hc25 hx47;refine ws ?_;(conv=>whnf);refine StrG.mk d2 rfl ?_;refine ws ?_;(conv=>whnf);refine StrG.mk ra4 rfl ?_;refine wB (fun hc26=>?_) (fun hc26=>?_)
          ·replace hx47:=af hc26 hx47;obtain⟨r20,hx48,hx47⟩:=ab hx47;(conv=>whnf);refine CallG.pure _ (jR hN hx48) ?_;cases hx47;(conv=>whnf);exact⟨(),trivial,xT⟩
          ·replace hx47:=ag hc26 hx47;cases hx47;(conv=>whnf);exact⟨(),trivial,xT⟩
         ·replace hx47:=ag hc25 hx47;cases hx47;(conv=>whnf);exact⟨(),trivial,xT⟩
        ·rintro _ _;(conv=>whnf);cases h;exact rfl
end Go.Proofs.YtemciceobngijaaGreatDoor
