/-
  The walk of the law DeskStops.
-/
import Derived.Test.YtiaoloodgildeaaGreatDoorDDeskStops
import Derived.Test.YtiaoloodgildeaaGreatDoorWe
import Derived.Test.YtiaoloodgildeaaGreatDoorVa
import Derived.Test.YtiaoloodgildeaaGreatDoorVf
namespace Go.Proofs.YtiaoloodgildeaaGreatDoor
open Go Go.Abs Go.Kp
set_option maxRecDepth 100000
set_option maxHeartbeats 8000000
set_option linter.all false
theorem mP{N:Nat}(hN:N≤1073741824){lines1:List (List UInt8)}{cut1:Int}{r:Bool}(h:da N lines1 cut1=some r) :
    ACalls Tryz.prog 16 [.d (.list 1 (List.map D.str lines1)),.d (.int .u16 cut1)] [] fun e os=>e=.ret (.d (.bool r))∧os=[]:=by
  refine ah (fresh:=false) al ap ⟨[],[],[],[],[1,7,13,16,18,1012],0,[]⟩ Tryz.func16 rfl Tryz.call16 rfl ?_
  unfold da at h
  obtain⟨v4,hx10,h⟩:=ab h;(conv=>whnf);refine SeqG.mk Unit (fun y=>[(0,.d (.list 1 (List.map D.str lines1))),(1,.d (.int .u16 cut1)),(21,.d (.bool v4))]) (fun y=>[]) (fun _=>True) ?_ ?_
  ·obtain⟨r9,hx11,hx10⟩:=ab hx10;(conv=>whnf);refine CallG.pure _ (sf hN hx11) ?_;(conv=>whnf);refine Br.mk (fun hc5=>?_) (fun hc5=>?_)
   ·replace hx10:=ag hc5 hx10;obtain⟨r10,hx12,hx10⟩:=ab hx10;(conv=>whnf);refine CallG.pure _ (rm hN hx12) ?_;cases hx10;(conv=>whnf);refine⟨(),trivial,Sub.eq rfl ?_ ?_⟩
    ·(repeat ((conv=>whnf);refine nr ?_));exact trivial
    ·exact trivial
   ·replace hx10:=af hc5 hx10;cases hx10;(conv=>whnf);refine⟨(),trivial,Sub.eq rfl ?_ ?_⟩
    ·(repeat ((conv=>whnf);refine nr ?_));exact trivial
    ·exact trivial
  ·rintro _ _;(conv=>whnf);refine Br.mk (fun hc6=>?_) (fun hc6=>?_)
   ·replace h:=af hc6 h;obtain⟨r12,hx14,h⟩:=ab h;(conv=>whnf);refine CallG.pure _ (jR hN hx14) ?_;(conv=>whnf);cases h;exact rfl
   ·replace h:=ag hc6 h;obtain⟨r14,hx17,h⟩:=ab h;(conv=>whnf);refine CallG.fresh 25 (sv hN hx17) ?_;intro hd2;obtain⟨⟨ra2,rb2⟩,hx18,h⟩:=ab h;(conv=>whnf);refine sr ?_;(conv=>whnf);refine CallG.pure _ (ol hN hx18) ?_;(conv=>whnf);refine Br.mk (fun hc8=>?_) (fun hc8=>?_)
    ·replace h:=af hc8 h;(conv=>whnf);cases h;exact rfl
    ·replace h:=ag hc8 h;(conv=>whnf);intro hd6;obtain⟨l2,hx21,h⟩:=ab h;(conv=>whnf);refine sr ?_;(conv=>whnf);refine Side.mk ⟨rfl,rfl,rfl⟩ (Need.mk (aD hN hx21 (by decide)) (Eqv.mk (List.map (fun x=>.int .u8 x) l2) (aH _ hx21) ?_));(conv=>whnf);intro hd7;obtain⟨⟨ra4,rb4⟩,hx22,h⟩:=ab h;(conv=>whnf);refine sr ?_;(conv=>whnf);refine CallG.own (li hN hx22) id [(25,.arr hd2 9 1 true (List.map D.str r14)),(32,.arr hd7 5 1 true (List.map (fun x=>.int .u8 x) l2))] _ (fun y=>[(275016,.arr y 9 1 false (List.map D.str rb4)),(25,.arr hd2 9 1 true (List.map D.str r14)),(32,.arr hd7 5 1 true (List.map (fun x=>.int .u8 x) l2))]) (ac _) trivial rfl trivial (ai (ai trivial)) (fun _=>AV.le_refl _) (fun _=>rfl) ?_;rintro hd8 _;obtain⟨v8,hx27,h⟩:=ab h;(conv=>whnf)
     refine SeqG.mk Unit (fun y=>[(0,.d (.list 1 (List.map D.str lines1))),(1,.d (.int .u16 cut1)),(5,.d (.list 1 (List.map (fun x=>.int .u8 x) ra2))),(47,.d (.bool v8))]) (fun y=>[]) (fun _=>True) ?_ ?_
     ·obtain⟨r18,hx28,hx27⟩:=ab hx27;(conv=>whnf);refine sr ?_;(conv=>whnf);refine CallG.pure _ (rx hN hx28) ?_;(conv=>whnf);refine Br.mk (fun hc13=>?_) (fun hc13=>?_)
      ·replace hx27:=ag hc13 hx27;(conv=>whnf);refine LnA.mk _ (List.length_map _) ?_;cases hx27;(conv=>whnf);refine⟨(),trivial,Sub.eq rfl ?_ ?_⟩
       ·(repeat ((conv=>whnf);refine nr ?_));exact trivial
       ·exact trivial
      ·replace hx27:=af hc13 hx27;cases hx27;(conv=>whnf);refine⟨(),trivial,Sub.eq rfl ?_ ?_⟩
       ·(repeat ((conv=>whnf);refine nr ?_));exact trivial
       ·exact trivial
     ·rintro _ _;(conv=>whnf);refine Br.mk (fun hc14=>?_) (fun hc14=>?_)
      ·replace h:=af hc14 h;(conv=>whnf);cases h;exact rfl
      ·replace h:=ag hc14 h;(conv=>whnf);refine LnA.mk _ (List.length_map _) ?_;obtain⟨_,hx30,h⟩:=ab h;(conv=>whnf);refine Need.mk (xk hx30) ?_;(conv=>whnf);intro hd12;obtain⟨l5,hx34,h⟩:=ab h;(conv=>whnf);refine Need.mk (dt _ hx34) (Eqv.mk (List.map (fun x=>.int .u8 x) l5) (dA _ hx34) ?_);obtain⟨l6,hx35,h⟩:=ab h;(conv=>whnf);refine sr ?_;(conv=>whnf);refine Side.mk ⟨rfl,rfl,rfl⟩ (Need.mk (aD hN hx35 (by decide)) (Eqv.mk (List.map (fun x=>.int .u8 x) l6) (aH _ hx35) ?_));(conv=>whnf);intro hd13;obtain⟨⟨ra6,rb6⟩,hx36,h⟩:=ab h;(conv=>whnf);refine sr ?_;(conv=>whnf)
       refine CallG.own (li hN hx36) id [(55,.arr hd13 5 1 true (List.map (fun x=>.int .u8 x) l6))] _ (fun y=>[(275016,.arr y 9 1 false (List.map D.str rb6)),(55,.arr hd13 5 1 true (List.map (fun x=>.int .u8 x) l6))]) (ac _) trivial rfl trivial (ai trivial) (fun _=>AV.le_refl _) (fun _=>rfl) ?_;rintro hd14 _;(conv=>whnf);refine SeqG.mk (Int×Int) (fun y=>[(0,.d (.list 1 (List.map D.str lines1))),(9,.d (I y.1)),(10,.sl 275016 hd14),(11,.d (I ra6)),(12,.d (I y.2))]) (fun y=>[(275016,.arr hd14 9 1 false (List.map D.str rb6))]) (fun y=>bZ N lines1 ra6 rb6 y.1 y.2=some r) ?_ ?_
       ·(conv=>whnf);refine LoopG.mk (Nat×(Int×Int×Int)) (fun y=>[(0,.d (.list 1 (List.map D.str lines1))),(9,.d (I y.2.1)),(10,.sl 275016 hd14),(11,.d (I ra6)),(12,.d (I y.2.2.1)),(13,.d (I y.2.2.2))]) (fun y=>[(275016,.arr hd14 9 1 false (List.map D.str rb6))]) (fun y=>aj (fun rr x=>aR N lines1 ra6 rb6 rr x.1 x.2.1 x.2.2) y.1 y.2=some r) (fun y=>y.1) (N,(Int.tmod (w64 cut1) (w64 ((ra2.length:Int)+1)),0,0)) h (Sub.eq rfl ?_ ?_) ?_
        ·(repeat ((conv=>whnf);refine nr ?_));exact trivial
        ·(conv=>whnf);refine no ?_;exact trivial
        ·rintro⟨n2,⟨k11,whole29,i8⟩⟩ hl2;obtain⟨n2,rfl,hl2⟩:=ar hl2;replace hl2:aR N lines1 ra6 rb6 (aj (fun rr x=>aR N lines1 ra6 rb6 rr x.1 x.2.1 x.2.2) n2) k11 whole29 i8=some r:=hl2;rw[aR]at hl2;obtain⟨v54,hx128,hl2⟩:=ab hl2;(conv=>whnf);refine SeqG.mk Unit (fun y=>[(0,.d (.list 1 (List.map D.str lines1))),(9,.d (I k11)),(10,.sl 275016 hd14),(11,.d (I ra6)),(12,.d (I whole29)),(13,.d (I i8)),(78,.d (.bool v54))]) (fun y=>[(275016,.arr hd14 9 1 false (List.map D.str rb6))]) (fun _=>True) ?_ ?_
         ·(conv=>whnf);refine LnA.mk _ (List.length_map _) ?_;(conv=>whnf);refine Br.mk (fun hc87=>?_) (fun hc87=>?_)
          ·replace hx128:=af hc87 hx128;obtain⟨x66,hx129,hx128⟩:=ab hx128;(conv=>whnf);refine Side.mk rfl ⟨_,aC hx129,ak _ hx129,?_⟩;cases hx128;(conv=>whnf);refine⟨(),trivial,Sub.eq rfl ?_ ?_⟩
           ·(repeat ((conv=>whnf);refine nr ?_));exact trivial
           ·(conv=>whnf);refine no ?_;exact trivial
          ·replace hx128:=ag hc87 hx128;cases hx128;(conv=>whnf);refine⟨(),trivial,Sub.eq rfl ?_ ?_⟩
           ·(repeat ((conv=>whnf);refine nr ?_));exact trivial
           ·(conv=>whnf);refine no ?_;exact trivial
         ·rintro _ _;(conv=>whnf);refine Br.mk (fun hc88=>?_) (fun hc88=>?_)
          ·replace hl2:=af hc88 hl2;obtain⟨x72,hx136,hl2⟩:=ab hl2;(conv=>whnf);refine Side.mk rfl ⟨_,aC hx136,ak _ hx136,?_⟩;obtain⟨⟨whole33,v58⟩,hx138,hl2⟩:=ab hl2;(conv=>whnf);refine SeqG.mk Unit (fun y=>[(0,.d (.list 1 (List.map D.str lines1))),(9,.d (I k11)),(10,.sl 275016 hd14),(11,.d (I ra6)),(12,.d (I whole33)),(13,.d (I i8)),(103,.d (.bool v58))]) (fun y=>[(275016,.arr hd14 9 1 false (List.map D.str rb6))]) (fun _=>True) ?_ ?_
           ·(conv=>whnf);refine DrawG.mk (.take 0 (.take 1 (.take 2 (.take 3 (.take 4 (.spl 93 (.take 5 (.take 6 (.take 7 (.take 8 (.take 9 (.take 10 (.take 11 (.take 12 (.take 13 (.take 14 .done)))))))))))))))) (by kernel_rfl) ?_;(conv=>whnf);refine Side.mk rfl (LnA.mk _ (List.length_map _) ?_);(conv=>whnf);refine Br.mk (fun hc93=>?_) (fun hc93=>?_)
            ·replace hx138:=af hc93 hx138;cases hx138;(conv=>whnf);refine⟨(),trivial,Sub.eq rfl ?_ ?_⟩
             ·(repeat ((conv=>whnf);refine nr ?_));exact trivial
             ·(conv=>whnf);refine no ?_;exact trivial
            ·replace hx138:=ag hc93 hx138;obtain⟨x74,hx139,hx138⟩:=ab hx138;(conv=>whnf);refine Side.mk ⟨rfl,rfl⟩ (Need.mk (aL _ hx139) ?_);(conv=>whnf);refine Side.mk ⟨rfl,rfl⟩ ⟨_,Int.natCast_nonneg _,bX _ hx139,?_⟩;(conv=>whnf);refine Side.mk rfl ⟨_,aC hx136,ak _ hx136,?_⟩;cases hx138;(conv=>whnf);refine⟨(),trivial,Sub.eq rfl ?_ ?_⟩
             ·(repeat ((conv=>whnf);refine nr ?_));exact trivial
             ·(conv=>whnf);refine no ?_;exact trivial
           ·rintro _ _;(conv=>whnf);refine Br.mk (fun hc94=>?_) (fun hc94=>?_)
            ·replace hl2:=af hc94 hl2;(conv=>whnf);cases hl2;exact rfl
            ·replace hl2:=ag hc94 hl2;(conv=>whnf);refine⟨(n2,(k11,whole33,w64 (i8+1))),hl2,Sub.eq rfl ?_ ?_,Nat.lt_succ_self _⟩
             ·(repeat ((conv=>whnf);refine nr ?_));exact trivial
             ·(conv=>whnf);refine no ?_;exact trivial
          ·replace hl2:=ag hc88 hl2;(conv=>whnf);refine⟨(k11,whole29),hl2,Sub.eq rfl ?_ ?_⟩
           ·(repeat ((conv=>whnf);refine nr ?_));exact trivial
           ·(conv=>whnf);refine no ?_;exact trivial
       ·clear h;rintro⟨k6,whole17⟩ h;unfold bZ at h;obtain⟨v34,hx88,h⟩:=ab h;(conv=>whnf);refine SeqG.mk Unit (fun y=>[(4,.d (.bool v34))]) (fun y=>[]) (fun _=>True) ?_ ?_
        ·(conv=>whnf);refine Br.mk (fun hc55=>?_) (fun hc55=>?_)
         ·replace hx88:=af hc55 hx88;(conv=>whnf);refine Side.mk rfl (LnA.mk _ (List.length_map _) ?_);(conv=>whnf);refine LnA.mk _ (List.length_map _) ?_;(conv=>whnf);refine Br.mk (fun hc56=>?_) (fun hc56=>?_)
          ·replace hx88:=af hc56 hx88;(conv=>whnf);refine Side.mk rfl (LnA.mk _ (List.length_map _) ?_);(conv=>whnf);refine LnA.mk _ (List.length_map _) ?_;(conv=>whnf);refine Br.mk (fun hc57=>?_) (fun hc57=>?_)
           ·replace hx88:=ag hc57 hx88;(conv=>whnf);refine Side.mk rfl (LnA.mk _ (List.length_map _) ?_);obtain⟨x38,hx89,hx88⟩:=ab hx88;(conv=>whnf);refine Side.mk rfl ⟨_,aC hx89,ak _ hx89,?_⟩;(conv=>whnf);refine Br.mk (fun hc58=>?_) (fun hc58=>?_)
            ·replace hx88:=af hc58 hx88;obtain⟨r21,hx90,hx88⟩:=ab hx88;(conv=>whnf);refine CallG.pure _ (jR hN hx90) ?_;cases hx88;(conv=>whnf);refine⟨(),trivial,Sub.eq rfl ?_ ?_⟩
             ·(repeat ((conv=>whnf);refine nr ?_));exact trivial
             ·exact trivial
            ·replace hx88:=ag hc58 hx88;cases hx88;(conv=>whnf);refine⟨(),trivial,Sub.eq rfl ?_ ?_⟩
             ·(repeat ((conv=>whnf);refine nr ?_));exact trivial
             ·exact trivial
           ·replace hx88:=af hc57 hx88;obtain⟨r22,hx91,hx88⟩:=ab hx88;(conv=>whnf);refine CallG.pure _ (jR hN hx91) ?_;cases hx88;(conv=>whnf);refine⟨(),trivial,Sub.eq rfl ?_ ?_⟩
            ·(repeat ((conv=>whnf);refine nr ?_));exact trivial
            ·exact trivial
          ·replace hx88:=ag hc56 hx88;cases hx88;(conv=>whnf);refine⟨(),trivial,Sub.eq rfl ?_ ?_⟩
           ·(repeat ((conv=>whnf);refine nr ?_));exact trivial
           ·exact trivial
         ·replace hx88:=ag hc55 hx88;cases hx88;(conv=>whnf);refine⟨(),trivial,Sub.eq rfl ?_ ?_⟩
          ·(repeat ((conv=>whnf);refine nr ?_));exact trivial
          ·exact trivial
        ·rintro _ _;(conv=>whnf);cases h;exact rfl
end Go.Proofs.YtiaoloodgildeaaGreatDoor
