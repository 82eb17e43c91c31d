/-
  The walk of the law DeskBack.
-/
import Derived.Test.YtiaoloodgildeaaGreatDoorDDeskBack
import Derived.Test.YtiaoloodgildeaaGreatDoorWe
import Derived.Test.YtiaoloodgildeaaGreatDoorVa
import Derived.Test.YtiaoloodgildeaaGreatDoorVe
import Derived.Test.YtiaoloodgildeaaGreatDoorVg
import Derived.Test.YtiaoloodgildeaaGreatDoorVh
namespace Go.Proofs.YtiaoloodgildeaaGreatDoor
open Go Go.Abs Go.Kp
set_option maxRecDepth 100000
set_option maxHeartbeats 8000000
set_option linter.all false
theorem Cs{N:Nat}(hN:N≤1073741824)(nrec:Nat):∀{n1:Int} {r:(List UInt8)} (h:aj (fun rr x=>xV N rr x) nrec n1=some r),
    ACalls Tryz.prog 47 [.d (I n1)] [] fun e os=>e=.ret (.d (.str r))∧os=[]:=by
  induction nrec with
  | zero=>intro n1 r h;cases h
  | succ nrec ih =>
  intro n1 r h
  replace h:xV N (aj (fun rr x=>xV N rr x) nrec) n1=some r:=h
  refine ah (fresh:=false) al ap ⟨[],[],[],[],[],0,[]⟩ Tryz.func47 rfl Tryz.call47 rfl ?_
  unfold xV at h
  refine wB (fun hc2=>?_) (fun hc2=>?_)
  ·replace h:=af hc2 h;obtain⟨r4,hx7,h⟩:=ab h;(conv=>whnf);refine CallG.pure _ (ih hx7) ?_;obtain⟨s4,hx8,h⟩:=ab h;(conv=>whnf);refine Need.mk (eO hN hx8) ?_;(conv=>whnf);cases h;exact rfl
  ·replace h:=ag hc2 h;refine wB (fun hc4=>?_) (fun hc4=>?_)
   ·replace h:=af hc4 h;(conv=>whnf);intro hd4;(conv=>whnf);refine Side.mk ⟨rfl,rfl⟩ ?_;(conv=>whnf);refine StrG.mk ([Go.IntKind.wrap .u8 (w64 (48+n1))]) rfl ?_;(conv=>whnf);cases h;exact rfl
   ·replace h:=ag hc4 h;(conv=>whnf);refine Need.mk (by decide) ?_;obtain⟨r7,hx12,h⟩:=ab h;(conv=>whnf);refine CallG.pure _ (ih hx12) ?_;(conv=>whnf);refine Need.mk (by decide) ?_;obtain⟨r8,hx13,h⟩:=ab h;(conv=>whnf);refine CallG.pure _ (ih hx13) ?_;obtain⟨s6,hx14,h⟩:=ab h;(conv=>whnf);refine Need.mk (eO hN hx14) ?_;(conv=>whnf);cases h;exact rfl
theorem Bx{N:Nat}(hN:N≤1073741824){n1:Int}{r:(List UInt8)}(h:yU N n1=some r) :
    ACalls Tryz.prog 47 [.d (I n1)] [] fun e os=>e=.ret (.d (.str r))∧os=[]:=Cs hN N h
end Go.Proofs.YtiaoloodgildeaaGreatDoor
namespace Go.Proofs.YtiaoloodgildeaaGreatDoor
open Go Go.Abs Go.Kp
set_option maxRecDepth 100000
set_option maxHeartbeats 8000000
set_option linter.all false
theorem Cr{N:Nat}(hN:N≤1073741824){lines1:List (List UInt8)}{lane1:Int}{pins1:Int}{r:Bool}(h:y7 N lines1 lane1 pins1=some r) :
    ACalls Tryz.prog 10 [.d (.list 1 (List.map D.str lines1)),.d (.int .u8 lane1),.d (.int .u8 pins1)] [] fun e os=>e=.ret (.d (.bool r))∧os=[]:=by
  refine ah (fresh:=false) al ap ⟨[],[],[],[],[1,8,12,13],0,[]⟩ Tryz.func10 rfl Tryz.call10 rfl ?_
  unfold y7 at h
  obtain⟨v4,hx10,h⟩:=ab h;(conv=>whnf);refine SeqG.mk Unit (fun y=>[(0,.d (.list 1 (List.map D.str lines1))),(1,.d (.int .u8 lane1)),(2,.d (.int .u8 pins1)),(31,.d (.bool v4))]) (fun y=>[]) (fun _=>True) ?_ ?_
  ·obtain⟨r9,hx11,hx10⟩:=ab hx10;(conv=>whnf);refine CallG.pure _ (sf hN hx11) ?_;refine wB (fun hc8=>?_) (fun hc8=>?_)
   ·replace hx10:=ag hc8 hx10;obtain⟨r10,hx12,hx10⟩:=ab hx10;(conv=>whnf);refine CallG.pure _ (rm hN hx12) ?_;refine wB (fun hc9=>?_) (fun hc9=>?_)
    ·replace hx10:=ag hc9 hx10;(conv=>whnf);refine LnA.mk _ (List.length_map _) ?_;cases hx10;(conv=>whnf);exact⟨(),trivial,xT⟩
    ·replace hx10:=af hc9 hx10;cases hx10;(conv=>whnf);exact⟨(),trivial,xT⟩
   ·replace hx10:=af hc8 hx10;cases hx10;(conv=>whnf);exact⟨(),trivial,xT⟩
  ·rintro _ _;refine wB (fun hc10=>?_) (fun hc10=>?_)
   ·replace h:=af hc10 h;obtain⟨r12,hx14,h⟩:=ab h;(conv=>whnf);refine CallG.pure _ (jR hN hx14) ?_;(conv=>whnf);cases h;exact rfl
   ·replace h:=ag hc10 h;(conv=>whnf);refine Need.mk (by decide) ?_;obtain⟨r15,hx20,h⟩:=ab h;(conv=>whnf);refine CallG.pure _ (Bx hN hx20) ?_;obtain⟨s4,hx21,h⟩:=ab h;(conv=>whnf);refine Need.mk (eO hN hx21) ?_;obtain⟨s5,hx22,h⟩:=ab h;(conv=>whnf);refine Need.mk (eO hN hx22) ?_;(conv=>whnf);refine Need.mk (by decide) ?_;obtain⟨r16,hx23,h⟩:=ab h;(conv=>whnf);refine CallG.pure _ (Bx hN hx23) ?_;obtain⟨s6,hx24,h⟩:=ab h;(conv=>whnf);refine Need.mk (eO hN hx24) ?_;obtain⟨⟨ra2,rb2,rc2⟩,hx26,h⟩:=ab h;(conv=>whnf);refine CallG.pure _ (zV hN hx26) ?_;(conv=>whnf);intro b2;refine ws ?_;obtain⟨r18,hx30,h⟩:=ab h;(conv=>whnf);refine CallG.fresh 54 (sv hN hx30) ?_;intro hd4;(conv=>whnf);intro hd5;obtain⟨l2,hx31,h⟩:=ab h;(conv=>whnf);refine Side.mk ⟨rfl,rfl⟩ ?_
    (conv=>whnf);refine Side.mk ⟨rfl,rfl,rfl⟩ (Need.mk (aD hN hx31 (by decide)) (Eqv.mk (List.map D.str l2) (aH _ hx31) ?_));(conv=>whnf);intro hd6;obtain⟨⟨ra4,rb4,rc4⟩,hx32,h⟩:=ab h;refine ws ?_;(conv=>whnf);refine CallG.pure _ (uk hN hx32) ?_;(conv=>whnf);intro b4;refine ws ?_;obtain⟨r21,hx38,h⟩:=ab h;(conv=>whnf);refine CallG.fresh 64 (sv hN hx38) ?_;intro hd10;obtain⟨r22,hx39,h⟩:=ab h;(conv=>whnf);refine CallG.pure _ (Bx hN hx39) ?_;obtain⟨s8,hx40,h⟩:=ab h;(conv=>whnf);refine Need.mk (eO hN hx40) ?_;(conv=>whnf);intro hd11;obtain⟨l4,hx41,h⟩:=ab h;(conv=>whnf);refine Side.mk ⟨rfl,rfl⟩ ?_;(conv=>whnf);refine Side.mk ⟨rfl,rfl,rfl⟩ (Need.mk (aD hN hx41 (by decide)) (Eqv.mk (List.map D.str l4) (aH _ hx41) ?_));(conv=>whnf);intro hd12
    obtain⟨⟨ra6,rb6,rc6⟩,hx42,h⟩:=ab h;refine ws ?_;(conv=>whnf);refine CallG.pure _ (uk hN hx42) ?_;(conv=>whnf);intro b6;refine ws ?_;obtain⟨v8,hx44,h⟩:=ab h;(conv=>whnf)
    refine SeqG.mk Unit (fun y=>[(0,.d (.list 1 (List.map D.str lines1))),(9,.ptr 9 b2 0),(13,.d (.list 1 (List.map I rb4))),(15,.ptr 15 b6 0),(16,.d (.list 1 (List.map I rb6))),(100,.d (.bool v8))]) (fun y=>[(9,.cells b2 [.d (.list 1 (List.map I ra2.fBowlers)),.d (.list 2 (List.map DeskLane.enc ra2.fLanes)),.d (.list 1 (List.map eL ra2.fKept)),.d (.list 6 (List.map RateSheet.enc ra2.fSheets)),.d (.list 1 (List.map I ra2.fWithdrawn)),.d (.list 3 (List.map LadderResult.enc ra2.fResults))]),(15,.cells b6 [.d (.list 1 (List.map I ra6.fBowlers)),.d (.list 2 (List.map DeskLane.enc ra6.fLanes)),.d (.list 1 (List.map eL ra6.fKept)),.d (.list 6 (List.map RateSheet.enc ra6.fSheets)),.d (.list 1 (List.map I ra6.fWithdrawn)),.d (.list 3 (List.map LadderResult.enc ra6.fResults))])]) (fun _=>True) ?_ ?_
    ·refine wB (fun hc24=>?_) (fun hc24=>?_)
     ·replace hx44:=ag hc24 hx44;refine wB (fun hc25=>?_) (fun hc25=>?_)
      ·replace hx44:=ag hc25 hx44;(conv=>whnf);refine LnA.mk _ (List.length_map _) ?_;(conv=>whnf);refine LnA.mk _ (List.length_map _) ?_;refine wB (fun hc26=>?_) (fun hc26=>?_)
       ·replace hx44:=ag hc26 hx44;refine wB (fun hc27=>?_) (fun hc27=>?_)
        ·replace hx44:=ag hc27 hx44;(conv=>whnf);refine LnA.mk _ (List.length_map _) ?_;(conv=>whnf);refine LnA.mk _ (List.length_map _) ?_;cases hx44;(conv=>whnf);exact⟨(),trivial,xT⟩
        ·replace hx44:=af hc27 hx44;cases hx44;(conv=>whnf);exact⟨(),trivial,xT⟩
       ·replace hx44:=af hc26 hx44;cases hx44;(conv=>whnf);exact⟨(),trivial,xT⟩
      ·replace hx44:=af hc25 hx44;cases hx44;(conv=>whnf);exact⟨(),trivial,xT⟩
     ·replace hx44:=af hc24 hx44;cases hx44;(conv=>whnf);exact⟨(),trivial,xT⟩
    ·rintro _ _;refine wB (fun hc28=>?_) (fun hc28=>?_)
     ·replace h:=af hc28 h;(conv=>whnf);cases h;exact rfl
     ·replace h:=ag hc28 h;(conv=>whnf);refine LnA.mk _ (List.length_map _) ?_;obtain⟨x4,hx53,h⟩:=ab h;(conv=>whnf);refine Side.mk rfl ⟨_,aC hx53,ak _ hx53,?_⟩;refine wB (fun hc34=>?_) (fun hc34=>?_)
      ·replace h:=af hc34 h;(conv=>whnf);refine LnA.mk _ (List.length_map _) ?_;(conv=>whnf);refine Side.mk rfl ⟨_,aC hx53,ak _ hx53,?_⟩;obtain⟨v12,hx56,h⟩:=ab h;(conv=>whnf);refine SeqG.mk Unit (fun y=>[(6,.d (.bool v12))]) (fun y=>[]) (fun _=>True) ?_ ?_
       ·refine wB (fun hc37=>?_) (fun hc37=>?_)
        ·replace hx56:=ag hc37 hx56;refine wB (fun hc38=>?_) (fun hc38=>?_)
         ·replace hx56:=af hc38 hx56;obtain⟨r29,hx57,hx56⟩:=ab hx56;(conv=>whnf);refine CallG.pure _ (jR hN hx57) ?_;cases hx56;(conv=>whnf);exact⟨(),trivial,xT⟩
         ·replace hx56:=ag hc38 hx56;cases hx56;(conv=>whnf);exact⟨(),trivial,xT⟩
        ·replace hx56:=af hc37 hx56;obtain⟨r30,hx58,hx56⟩:=ab hx56;(conv=>whnf);refine CallG.pure _ (jR hN hx58) ?_;cases hx56;(conv=>whnf);exact⟨(),trivial,xT⟩
       ·rintro _ _;(conv=>whnf);cases h;exact rfl
      ·replace h:=ag hc34 h;obtain⟨v14,hx62,h⟩:=ab h;(conv=>whnf);refine SeqG.mk Unit (fun y=>[(6,.d (.bool v14))]) (fun y=>[]) (fun _=>True) ?_ ?_
       ·(conv=>whnf);refine LnA.mk _ (List.length_map _) ?_;obtain⟨x6,hx63,hx62⟩:=ab hx62;(conv=>whnf);refine Side.mk rfl ⟨_,aC hx63,ak _ hx63,?_⟩;refine wB (fun hc41=>?_) (fun hc41=>?_)
        ·replace hx62:=af hc41 hx62;(iterate 2 refine ws ?_);obtain⟨r33,hx64,hx62⟩:=ab hx62;(conv=>whnf);refine CallG.pure _ (Bt hN hx64) ?_;refine wB (fun hc42=>?_) (fun hc42=>?_)
         ·replace hx62:=af hc42 hx62;obtain⟨r34,hx65,hx62⟩:=ab hx62;(conv=>whnf);refine CallG.pure _ (jR hN hx65) ?_;cases hx62;(conv=>whnf);exact⟨(),trivial,xT⟩
         ·replace hx62:=ag hc42 hx62;cases hx62;(conv=>whnf);exact⟨(),trivial,xT⟩
        ·replace hx62:=ag hc41 hx62;cases hx62;(conv=>whnf);exact⟨(),trivial,xT⟩
       ·rintro _ _;(conv=>whnf);cases h;exact rfl
end Go.Proofs.YtiaoloodgildeaaGreatDoor
