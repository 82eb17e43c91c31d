/-
  The walk of the law DeskAgrees.
-/
import Derived.Test.YtemciceobngijaaGreatDoorDDeskAgrees
import Derived.Test.YtemciceobngijaaGreatDoorWe
import Derived.Test.YtemciceobngijaaGreatDoorVa
import Derived.Test.YtemciceobngijaaGreatDoorVf
import Derived.Test.YtemciceobngijaaGreatDoorVh
namespace Go.Proofs.YtemciceobngijaaGreatDoor
open Go Go.Abs Go.Kp
set_option maxRecDepth 100000
set_option maxHeartbeats 8000000
set_option linter.all false
theorem De{N:Nat}(hN:N≤1073741824){lines1:List (List UInt8)}{bowler1:Int}{week1:Int}{r:Bool}(h:Cw N lines1 bowler1 week1=some r) :
    ACalls Tryz.prog 3 [.d (.list 1 (List.map D.str lines1)),.d (.int .u8 bowler1),.d (.int .u8 week1)] [] fun e os=>e=.ret (.d (.bool r))∧os=[]:=by
  refine ah (fresh:=false) al ap ⟨[],[],[],[],[1,13],0,[]⟩ Tryz.func3 rfl Tryz.call3 rfl ?_
  unfold Cw at h
  obtain⟨v4,hx10,h⟩:=ab h;(conv=>whnf);refine SeqG.mk Unit (fun y=>[(0,.d (.list 1 (List.map D.str lines1))),(1,.d (.int .u8 bowler1)),(2,.d (.int .u8 week1)),(27,.d (.bool v4))]) (fun y=>[]) (fun _=>True) ?_ ?_
  ·obtain⟨r9,hx11,hx10⟩:=ab hx10;(conv=>whnf);refine CallG.pure _ (sf hN hx11) ?_;refine wB (fun hc5=>?_) (fun hc5=>?_)
   ·replace hx10:=ag hc5 hx10;obtain⟨r10,hx12,hx10⟩:=ab hx10;(conv=>whnf);refine CallG.pure _ (rm hN hx12) ?_;cases hx10;(conv=>whnf);exact⟨(),trivial,xT⟩
   ·replace hx10:=af hc5 hx10;cases hx10;(conv=>whnf);exact⟨(),trivial,xT⟩
  ·rintro _ _;refine wB (fun hc6=>?_) (fun hc6=>?_)
   ·replace h:=af hc6 h;obtain⟨r12,hx14,h⟩:=ab h;(conv=>whnf);refine CallG.pure _ (jR hN hx14) ?_;(conv=>whnf);cases h;exact rfl
   ·replace h:=ag hc6 h;obtain⟨⟨ra2,rb2,rc2⟩,hx16,h⟩:=ab h;(conv=>whnf);refine CallG.pure _ (zV hN hx16) ?_;(conv=>whnf);intro b2;refine ws ?_;refine wB (fun hc8=>?_) (fun hc8=>?_)
    ·replace h:=af hc8 h;(conv=>whnf);cases h;exact rfl
    ·replace h:=ag hc8 h;refine ws ?_;(conv=>whnf);refine LnA.mk _ (List.length_map _) ?_;refine wB (fun hc10=>?_) (fun hc10=>?_)
     ·replace h:=af hc10 h;obtain⟨r16,hx20,h⟩:=ab h;(conv=>whnf);refine CallG.pure _ (jR hN hx20) ?_;(conv=>whnf);cases h;exact rfl
     ·replace h:=ag hc10 h;refine ws ?_;(conv=>whnf);refine LnA.mk _ (List.length_map _) ?_;obtain⟨_,hx22,h⟩:=ab h;(conv=>whnf);refine Need.mk (xk hx22) ?_;(conv=>whnf);refine Need.mk (by decide) ?_;(iterate 3 refine ws ?_);(conv=>whnf);intro b4;refine ws ?_;obtain⟨r18,hx25,h⟩:=ab h;(conv=>whnf);refine CallG.fresh 62 (sv hN hx25) ?_;intro hd2;obtain⟨⟨ra4,rb4,rc4⟩,hx26,h⟩:=ab h;refine ws ?_;(conv=>whnf);refine CallG.pure _ (sq hN hx26) ?_;refine ws ?_;obtain⟨⟨ra6,rb6⟩,hx28,h⟩:=ab h;(conv=>whnf);refine CallG.pure _ (qf hN hx28) ?_;refine ws ?_;obtain⟨⟨ra8,rb8⟩,hx30,h⟩:=ab h;(conv=>whnf);refine CallG.pure _ (oL hN hx30) ?_;obtain⟨v6,hx32,h⟩:=ab h;(conv=>whnf)
      refine SeqG.mk Unit (fun y=>[(6,.d (.bool v6))]) (fun y=>[]) (fun _=>True) ?_ ?_
      ·refine wB (fun hc16=>?_) (fun hc16=>?_)
       ·replace hx32:=af hc16 hx32;refine wB (fun hc17=>?_) (fun hc17=>?_)
        ·replace hx32:=af hc17 hx32;refine wB (fun hc18=>?_) (fun hc18=>?_)
         ·replace hx32:=af hc18 hx32;refine wB (fun hc19=>?_) (fun hc19=>?_)
          ·replace hx32:=af hc19 hx32;refine wB (fun hc20=>?_) (fun hc20=>?_)
           ·replace hx32:=af hc20 hx32;obtain⟨r20,hx33,hx32⟩:=ab hx32;(conv=>whnf);refine CallG.pure _ (jR hN hx33) ?_;cases hx32;(conv=>whnf);exact⟨(),trivial,xT⟩
           ·replace hx32:=ag hc20 hx32;cases hx32;(conv=>whnf);exact⟨(),trivial,xT⟩
          ·replace hx32:=ag hc19 hx32;cases hx32;(conv=>whnf);exact⟨(),trivial,xT⟩
         ·replace hx32:=ag hc18 hx32;cases hx32;(conv=>whnf);exact⟨(),trivial,xT⟩
        ·replace hx32:=ag hc17 hx32;cases hx32;(conv=>whnf);exact⟨(),trivial,xT⟩
       ·replace hx32:=ag hc16 hx32;cases hx32;(conv=>whnf);exact⟨(),trivial,xT⟩
      ·rintro _ _;(conv=>whnf);cases h;exact rfl
end Go.Proofs.YtemciceobngijaaGreatDoor
