/-
  The walk of the law DeskReplays.
-/
import Derived.Test.YtiaoloodgildeaaGreatDoorDDeskReplays
import Derived.Test.YtiaoloodgildeaaGreatDoorWe
import Derived.Test.YtiaoloodgildeaaGreatDoorVa
import Derived.Test.YtiaoloodgildeaaGreatDoorVg
import Derived.Test.YtiaoloodgildeaaGreatDoorVh
namespace Go.Proofs.YtiaoloodgildeaaGreatDoor
open Go Go.Abs Go.Kp
set_option maxRecDepth 100000
set_option maxHeartbeats 8000000
set_option linter.all false
theorem zW{N:Nat}(hN:N≤1073741824){lines1:List (List UInt8)}{r:Bool}(h:yo N lines1=some r) :
    ACalls Tryz.prog 8 [.d (.list 1 (List.map D.str lines1))] [] fun e os=>e=.ret (.d (.bool r))∧os=[]:=by
  refine ah (fresh:=false) al ap ⟨[],[],[],[],[1,7],0,[]⟩ Tryz.func8 rfl Tryz.call8 rfl ?_
  unfold yo at h
  obtain⟨v4,hx10,h⟩:=ab h;(conv=>whnf);refine SeqG.mk Unit (fun y=>[(0,.d (.list 1 (List.map D.str lines1))),(16,.d (.bool v4))]) (fun y=>[]) (fun _=>True) ?_ ?_
  ·obtain⟨r9,hx11,hx10⟩:=ab hx10;(conv=>whnf);refine CallG.pure _ (sf hN hx11) ?_;refine wB (fun hc5=>?_) (fun hc5=>?_)
   ·replace hx10:=ag hc5 hx10;obtain⟨r10,hx12,hx10⟩:=ab hx10;(conv=>whnf);refine CallG.pure _ (rm hN hx12) ?_;cases hx10;(conv=>whnf);exact⟨(),trivial,xT⟩
   ·replace hx10:=af hc5 hx10;cases hx10;(conv=>whnf);exact⟨(),trivial,xT⟩
  ·rintro _ _;refine wB (fun hc6=>?_) (fun hc6=>?_)
   ·replace h:=af hc6 h;obtain⟨r12,hx14,h⟩:=ab h;(conv=>whnf);refine CallG.pure _ (jR hN hx14) ?_;(conv=>whnf);cases h;exact rfl
   ·replace h:=ag hc6 h;obtain⟨⟨ra2,rb2,rc2⟩,hx16,h⟩:=ab h;(conv=>whnf);refine CallG.pure _ (zV hN hx16) ?_;(conv=>whnf);intro b2;refine ws ?_;refine wB (fun hc8=>?_) (fun hc8=>?_)
    ·replace h:=af hc8 h;(conv=>whnf);cases h;exact rfl
    ·replace h:=ag hc8 h;obtain⟨⟨ra4,rb4,rc4⟩,hx18,h⟩:=ab h;(conv=>whnf);refine CallG.pure _ (zV hN hx18) ?_;(conv=>whnf);intro b4;refine ws ?_;obtain⟨v6,hx21,h⟩:=ab h;(conv=>whnf);refine SeqG.mk Unit (fun y=>[(2,.d (.bool v6))]) (fun y=>[]) (fun _=>True) ?_ ?_
     ·refine wB (fun hc12=>?_) (fun hc12=>?_)
      ·replace hx21:=af hc12 hx21;(conv=>whnf);refine LnA.mk _ (List.length_map _) ?_;(conv=>whnf);refine LnA.mk _ (List.length_map _) ?_;refine wB (fun hc13=>?_) (fun hc13=>?_)
       ·replace hx21:=af hc13 hx21;(iterate 2 refine ws ?_);obtain⟨r15,hx22,hx21⟩:=ab hx21;(conv=>whnf);refine CallG.pure _ (Bt hN hx22) ?_;refine wB (fun hc14=>?_) (fun hc14=>?_)
        ·replace hx21:=af hc14 hx21;obtain⟨r16,hx23,hx21⟩:=ab hx21;(conv=>whnf);refine CallG.pure _ (jR hN hx23) ?_;cases hx21;(conv=>whnf);exact⟨(),trivial,xT⟩
        ·replace hx21:=ag hc14 hx21;cases hx21;(conv=>whnf);exact⟨(),trivial,xT⟩
       ·replace hx21:=ag hc13 hx21;cases hx21;(conv=>whnf);exact⟨(),trivial,xT⟩
      ·replace hx21:=ag hc12 hx21;cases hx21;(conv=>whnf);exact⟨(),trivial,xT⟩
     ·rintro _ _;(conv=>whnf);cases h;exact rfl
end Go.Proofs.YtiaoloodgildeaaGreatDoor
