/-
  Walks: what the typed functions compute, the program’s functions return.
-/
import Derived.Test.YtdodahpkpeodfaaGreatDoorWe
import Derived.Test.YtdodahpkpeodfaaGreatDoorVc
namespace Go.Proofs.YtdodahpkpeodfaaGreatDoor
open Go Go.Abs Go.Kp
set_option maxRecDepth 100000
set_option maxHeartbeats 8000000
set_option linter.all false
theorem Fp{N:Nat}(hN:N≤1073741824){s1:List UInt8}{r:Int×Bool}(h:yW N s1=some r) :
    ACalls Tryz.prog 111 [.d (.str s1)] [] fun e os=>e=.ret (.d (.tup [I r.1,.bool r.2]))∧os=[]:=by
  refine ah (fresh:=false) al ap ⟨[],[],[],[],[2,4,9,1002,1007,1012],0,[]⟩ Tryz.func111 rfl Tryz.call111 rfl ?_
  unfold yW at h
  obtain⟨⟨less2,at2⟩,hx4,h⟩:=obind h;(conv=>whnf);refine SeqG.mk Unit (fun y=>[(0,.d (.str s1)),(4,.d (.bool less2)),(5,.d (I at2))]) (fun y=>[]) (fun _=>True) ?_ ?_
  ·obtain⟨v4,hx6,hx4⟩:=obind hx4;(conv=>whnf);refine SeqG.mk Unit (fun y=>[(0,.d (.str s1)),(4,.b false),(5,.i .i64 0),(14,.d (.bool v4))]) (fun y=>[]) (fun _=>True) ?_ ?_
   ·refine wB (fun hc5=>?_) (fun hc5=>?_)
    ·replace hx6:=ite_t hc5 hx6;obtain⟨c4,hx7,hx6⟩:=obind hx6;(conv=>whnf);refine ByG.mk c4 (idx_0 hx7) (idx_byte hx7) ?_;cases hx6;(conv=>whnf);exact⟨(),trivial,b9⟩
    ·replace hx6:=ite_f hc5 hx6;cases hx6;(conv=>whnf);exact⟨(),trivial,b9⟩
   ·rintro _ _;refine wB (fun hc6=>?_) (fun hc6=>?_)
    ·replace hx4:=ite_t hc6 hx4;cases hx4;(conv=>whnf);exact⟨(),trivial,b9⟩
    ·replace hx4:=ite_f hc6 hx4;cases hx4;(conv=>whnf);exact⟨(),trivial,b9⟩
  ·rintro _ _;obtain⟨v8,hx12,h⟩:=obind h;(conv=>whnf);refine SeqG.mk Unit (fun y=>[(0,.d (.str s1)),(4,.d (.bool less2)),(5,.d (I at2)),(36,.d (.bool v8))]) (fun y=>[]) (fun _=>True) ?_ ?_
   ·refine wB (fun hc17=>?_) (fun hc17=>?_)
    ·replace hx12:=ite_f hc17 hx12;refine wB (fun hc18=>?_) (fun hc18=>?_)
     ·replace hx12:=ite_f hc18 hx12;obtain⟨c8,hx13,hx12⟩:=obind hx12;(conv=>whnf);refine ByG.mk c8 (idx_0 hx13) (idx_byte hx13) ?_;refine wB (fun hc19=>?_) (fun hc19=>?_)
      ·replace hx12:=ite_t hc19 hx12;cases hx12;(conv=>whnf);exact⟨(),trivial,b9⟩
      ·replace hx12:=ite_f hc19 hx12;cases hx12;(conv=>whnf);exact⟨(),trivial,b9⟩
     ·replace hx12:=ite_t hc18 hx12;cases hx12;(conv=>whnf);exact⟨(),trivial,b9⟩
    ·replace hx12:=ite_t hc17 hx12;cases hx12;(conv=>whnf);exact⟨(),trivial,b9⟩
   ·rintro _ _;refine wB (fun hc20=>?_) (fun hc20=>?_)
    ·replace h:=ite_t hc20 h;(conv=>whnf);cases h;exact rfl
    ·replace h:=ite_f hc20 h;(conv=>whnf);refine SeqG.mk Int (fun y=>[(4,.d (.bool less2)),(6,.d (I y))]) (fun y=>[]) (fun y=>CF N less2 y=some r) ?_ ?_
     ·(conv=>whnf);refine LoopG.mk (Nat×(Int×Int)) (fun y=>[(0,.d (.str s1)),(4,.d (.bool less2)),(5,.d (I y.2.1)),(6,.d (I y.2.2))]) (fun y=>[]) (fun y=>loopN (fun rr x=>kW N s1 less2 rr x.1 x.2) y.1 y.2=some r) (fun y=>y.1) (N,(at2,0)) h (Sub.eq rfl ?_ ?_) ?_
      ·(repeat ((conv=>whnf);refine nr ?_));exact trivial
      ·exact trivial
      ·rintro⟨n13,⟨at10,n12⟩⟩ hl2;obtain⟨n13,rfl,hl2⟩:=loopN_some hl2;replace hl2:kW N s1 less2 (loopN (fun rr x=>kW N s1 less2 rr x.1 x.2) n13) at10 n12=some r:=hl2;rw[kW]at hl2;(conv=>whnf);refine SeqG.mk Unit (fun y=>[(0,.d (.str s1)),(4,.d (.bool less2)),(5,.d (I at10)),(6,.d (I n12))]) (fun y=>[]) (fun y=>Cm N s1 at10 n12 (loopN (fun rr x=>kW N s1 less2 rr x.1 x.2) n13)=some r) ?_ ?_
       ·refine wB (fun hc106=>?_) (fun hc106=>?_)
        ·replace hl2:=ite_t hc106 hl2;(conv=>whnf);exact⟨(),hl2,b9⟩
        ·replace hl2:=ite_f hc106 hl2;(conv=>whnf);exact⟨n12,hl2,b9⟩
       ·rintro _ h;unfold Cm at h;obtain⟨v56,hx96,h⟩:=obind h;(conv=>whnf);refine SeqG.mk Unit (fun y=>[(0,.d (.str s1)),(4,.d (.bool less2)),(5,.d (I at10)),(6,.d (I n12)),(52,.d (.bool v56))]) (fun y=>[]) (fun _=>True) ?_ ?_
        ·obtain⟨c67,hx97,hx96⟩:=obind hx96;(conv=>whnf);refine ByG.mk c67 (idx_0 hx97) (idx_byte hx97) ?_;refine wB (fun hc104=>?_) (fun hc104=>?_)
         ·replace hx96:=ite_f hc104 hx96;(conv=>whnf);refine ByG.mk c67 (idx_0 hx97) (idx_byte hx97) ?_;cases hx96;(conv=>whnf);exact⟨(),trivial,b9⟩
         ·replace hx96:=ite_t hc104 hx96;cases hx96;(conv=>whnf);exact⟨(),trivial,b9⟩
        ·rintro _ _;refine wB (fun hc105=>?_) (fun hc105=>?_)
         ·replace h:=ite_t hc105 h;(conv=>whnf);cases h;exact rfl
         ·replace h:=ite_f hc105 h;obtain⟨c68,hx98,h⟩:=obind h;(conv=>whnf);refine ByG.mk c68 (idx_0 hx98) (idx_byte hx98) ?_;(conv=>whnf);exact⟨(n13,(w64 (at10+1),w64 ((w64 (10*n12))+(w64 (Go.IntKind.wrap .u8 ((c68.toNat:Int)-48)))))),h,b9,Nat.lt_succ_self _⟩
     ·clear h;rintro n6 h;unfold CF at h;obtain⟨n8,hx56,h⟩:=obind h;(conv=>whnf);refine SeqG.mk Unit (fun y=>[(6,.d (I n8))]) (fun y=>[]) (fun _=>True) ?_ ?_
      ·refine wB (fun hc64=>?_) (fun hc64=>?_)
       ·replace hx56:=ite_t hc64 hx56;cases hx56;(conv=>whnf);exact⟨(),trivial,b9⟩
       ·replace hx56:=ite_f hc64 hx56;cases hx56;(conv=>whnf);exact⟨(),trivial,b9⟩
      ·rintro _ _;(conv=>whnf);cases h;exact rfl
theorem FSq{N:Nat}(hN:N≤1073741824){line1:List UInt8}{r:(List UInt8)×(List Int)×Bool}(h:Cz N line1=some r) :
    ACalls Tryz.prog 65 [.d (.str line1)] [] fun e os=>e=.ret (.d (.tup [.str r.1,.list 1 (List.map I r.2.1),.bool r.2.2]))∧os=[]:=by
  refine ah (fresh:=false) al ap ⟨[],[],[],[],[6,1003,1006,1010,1011,1018,1025],0,[]⟩ Tryz.func65 rfl Tryz.call65 rfl ?_
  unfold Cz at h
  obtain⟨l23,hx46,h⟩:=obind h;(conv=>whnf);refine SeqG.mk Value (fun y=>[(5,.sl 35 y)]) (fun y=>[(35,.arr y 9 1 false (List.map D.str l23))]) (fun _=>True) ?_ ?_
  ·(conv=>whnf);refine LoopG.mk (Nat×(Int×Int×(List (List UInt8)))×Value) (fun y=>[(0,.d (.str line1)),(5,.sl 35 y.2.2),(6,.d (I y.2.1.1)),(7,.d (I y.2.1.2.1))]) (fun y=>[(35,.arr y.2.2 9 1 false (List.map D.str y.2.1.2.2))]) (fun y=>loopN (fun rr x=>y7 N line1 rr x.1 x.2.1 x.2.2) y.1 y.2.1=some l23) (fun y=>y.1) (N,(0,0,[]),(.slice none 0 0)) hx46 (Sub.eq rfl ?_ ?_) ?_
   ·(repeat ((conv=>whnf);refine nr ?_));exact trivial
   ·(conv=>whnf);refine Need.mk (OLe.nil _ _ _ _) ?_;exact trivial
   ·rintro⟨n2,⟨from18,i8,l39⟩,hd59⟩ hl2;obtain⟨n2,rfl,hl2⟩:=loopN_some hl2;replace hl2:y7 N line1 (loopN (fun rr x=>y7 N line1 rr x.1 x.2.1 x.2.2) n2) from18 i8 l39=some l23:=hl2;rw[y7]at hl2;refine wB (fun hc42=>?_) (fun hc42=>?_)
    ·replace hl2:=ite_t hc42 hl2;obtain⟨⟨from20,l43⟩,hx84,hl2⟩:=obind hl2;(conv=>whnf);refine SeqG.mk Value (fun y=>[(0,.d (.str line1)),(5,.sl 35 y),(6,.d (I from20)),(7,.d (I i8))]) (fun y=>[(35,.arr y 9 1 false (List.map D.str l43))]) (fun _=>True) ?_ ?_
     ·obtain⟨v24,hx86,hx84⟩:=obind hx84;(conv=>whnf);refine SeqG.mk Unit (fun y=>[(0,.d (.str line1)),(5,.sl 35 hd59),(6,.d (I from18)),(7,.d (I i8)),(28,.d (.bool v24))]) (fun y=>[(35,.arr hd59 9 1 false (List.map D.str l39))]) (fun _=>True) ?_ ?_
      ·refine wB (fun hc47=>?_) (fun hc47=>?_)
       ·replace hx86:=ite_f hc47 hx86;obtain⟨c24,hx87,hx86⟩:=obind hx86;(conv=>whnf);refine ByG.mk c24 (idx_0 hx87) (idx_byte hx87) ?_;cases hx86;(conv=>whnf);refine⟨(),trivial,Sub.eq rfl ?_ ?_⟩
        ·(repeat ((conv=>whnf);refine nr ?_));exact trivial
        ·(conv=>whnf);refine no ?_;exact trivial
       ·replace hx86:=ite_t hc47 hx86;cases hx86;(conv=>whnf);refine⟨(),trivial,Sub.eq rfl ?_ ?_⟩
        ·(repeat ((conv=>whnf);refine nr ?_));exact trivial
        ·(conv=>whnf);refine no ?_;exact trivial
      ·rintro _ _;refine wB (fun hc48=>?_) (fun hc48=>?_)
       ·replace hx84:=ite_t hc48 hx84;obtain⟨_,hx90,hx84⟩:=obind hx84;(conv=>whnf);refine Need.mk (Hk hx90) ?_;(conv=>whnf);intro hd68;obtain⟨l45,hx91,hx84⟩:=obind hx84;(conv=>whnf);refine Side.mk ⟨rfl,rfl⟩ ?_;(conv=>whnf);refine Side.mk ⟨rfl,rfl,rfl⟩ (Need.mk (app_need hN hx91 (by decide)) (Eqv.mk (List.map D.str l45) (app_map _ hx91) ?_));(conv=>whnf);intro hd69;cases hx84;(conv=>whnf);refine⟨hd69,trivial,Sub.eq rfl ?_ ?_⟩
        ·(repeat ((conv=>whnf);refine nr ?_));exact trivial
        ·(conv=>whnf);refine no ?_;exact trivial
       ·replace hx84:=ite_f hc48 hx84;cases hx84;(conv=>whnf);refine⟨hd59,trivial,Sub.eq rfl ?_ ?_⟩
        ·(repeat ((conv=>whnf);refine nr ?_));exact trivial
        ·(conv=>whnf);refine no ?_;exact trivial
     ·rintro hd65 _;(conv=>whnf);refine⟨(n2,(from20,w64 (i8+1),l43),hd65),hl2,Sub.eq rfl ?_ ?_,Nat.lt_succ_self _⟩
      ·(repeat ((conv=>whnf);refine nr ?_));exact trivial
      ·(conv=>whnf);refine no ?_;exact trivial
    ·replace hl2:=ite_f hc42 hl2;cases hl2;(conv=>whnf);refine⟨hd59,trivial,Sub.eq rfl ?_ ?_⟩
     ·(repeat ((conv=>whnf);refine nr ?_));exact trivial
     ·(conv=>whnf);refine no ?_;exact trivial
  ·rintro hd35 _;obtain⟨many2,hx96,h⟩:=obind h;(conv=>whnf);refine SeqG.mk Unit (fun y=>[(5,.sl 35 hd35),(8,.d (I many2))]) (fun y=>[(35,.arr hd35 9 1 false (List.map D.str l23))]) (fun _=>True) ?_ ?_
   ·obtain⟨x4,hx98,hx96⟩:=obind hx96;(conv=>whnf);refine Side.mk ⟨rfl,rfl⟩ (Need.mk (idx_need _ hx98) ?_);(conv=>whnf);refine Side.mk ⟨rfl,rfl⟩ ⟨_,Int.natCast_nonneg _,idx_el _ hx98,?_⟩;obtain⟨v30,hx99,hx96⟩:=obind hx96;(conv=>whnf);refine SeqG.mk Unit (fun y=>[(5,.sl 35 hd35),(8,.i .i64 (-1)),(40,.d (.str x4)),(41,.d (.bool v30))]) (fun y=>[(35,.arr hd35 9 1 false (List.map D.str l23))]) (fun _=>True) ?_ ?_
    ·refine wB (fun hc70=>?_) (fun hc70=>?_)
     ·replace hx99:=ite_t hc70 hx99;cases hx99;(conv=>whnf);refine⟨(),trivial,Sub.eq rfl ?_ ?_⟩
      ·(repeat ((conv=>whnf);refine nr ?_));exact trivial
      ·(conv=>whnf);refine no ?_;exact trivial
     ·replace hx99:=ite_f hc70 hx99;refine wB (fun hc71=>?_) (fun hc71=>?_)
      ·replace hx99:=ite_t hc71 hx99;cases hx99;(conv=>whnf);refine⟨(),trivial,Sub.eq rfl ?_ ?_⟩
       ·(repeat ((conv=>whnf);refine nr ?_));exact trivial
       ·(conv=>whnf);refine no ?_;exact trivial
      ·replace hx99:=ite_f hc71 hx99;refine wB (fun hc72=>?_) (fun hc72=>?_)
       ·replace hx99:=ite_t hc72 hx99;cases hx99;(conv=>whnf);refine⟨(),trivial,Sub.eq rfl ?_ ?_⟩
        ·(repeat ((conv=>whnf);refine nr ?_));exact trivial
        ·(conv=>whnf);refine no ?_;exact trivial
       ·replace hx99:=ite_f hc72 hx99;refine wB (fun hc73=>?_) (fun hc73=>?_)
        ·replace hx99:=ite_t hc73 hx99;cases hx99;(conv=>whnf);refine⟨(),trivial,Sub.eq rfl ?_ ?_⟩
         ·(repeat ((conv=>whnf);refine nr ?_));exact trivial
         ·(conv=>whnf);refine no ?_;exact trivial
        ·replace hx99:=ite_f hc73 hx99;refine wB (fun hc74=>?_) (fun hc74=>?_)
         ·replace hx99:=ite_t hc74 hx99;cases hx99;(conv=>whnf);refine⟨(),trivial,Sub.eq rfl ?_ ?_⟩
          ·(repeat ((conv=>whnf);refine nr ?_));exact trivial
          ·(conv=>whnf);refine no ?_;exact trivial
         ·replace hx99:=ite_f hc74 hx99;cases hx99;(conv=>whnf);refine⟨(),trivial,Sub.eq rfl ?_ ?_⟩
          ·(repeat ((conv=>whnf);refine nr ?_));exact trivial
          ·(conv=>whnf);refine no ?_;exact trivial
    ·rintro _ _;refine wB (fun hc75=>?_) (fun hc75=>?_)
     ·replace hx96:=ite_t hc75 hx96;cases hx96;(conv=>whnf);refine⟨(),trivial,Sub.eq rfl ?_ ?_⟩
      ·(repeat ((conv=>whnf);refine nr ?_));exact trivial
      ·(conv=>whnf);refine no ?_;exact trivial
     ·replace hx96:=ite_f hc75 hx96;obtain⟨v32,hx100,hx96⟩:=obind hx96;(conv=>whnf);refine SeqG.mk Unit (fun y=>[(5,.sl 35 hd35),(8,.i .i64 (-1)),(48,.d (.bool v32))]) (fun y=>[(35,.arr hd35 9 1 false (List.map D.str l23))]) (fun _=>True) ?_ ?_
      ·refine wB (fun hc78=>?_) (fun hc78=>?_)
       ·replace hx100:=ite_t hc78 hx100;cases hx100;(conv=>whnf);refine⟨(),trivial,Sub.eq rfl ?_ ?_⟩
        ·(repeat ((conv=>whnf);refine nr ?_));exact trivial
        ·(conv=>whnf);refine no ?_;exact trivial
       ·replace hx100:=ite_f hc78 hx100;refine wB (fun hc79=>?_) (fun hc79=>?_)
        ·replace hx100:=ite_t hc79 hx100;cases hx100;(conv=>whnf);refine⟨(),trivial,Sub.eq rfl ?_ ?_⟩
         ·(repeat ((conv=>whnf);refine nr ?_));exact trivial
         ·(conv=>whnf);refine no ?_;exact trivial
        ·replace hx100:=ite_f hc79 hx100;cases hx100;(conv=>whnf);refine⟨(),trivial,Sub.eq rfl ?_ ?_⟩
         ·(repeat ((conv=>whnf);refine nr ?_));exact trivial
         ·(conv=>whnf);refine no ?_;exact trivial
      ·rintro _ _;refine wB (fun hc80=>?_) (fun hc80=>?_)
       ·replace hx96:=ite_t hc80 hx96;cases hx96;(conv=>whnf);refine⟨(),trivial,Sub.eq rfl ?_ ?_⟩
        ·(repeat ((conv=>whnf);refine nr ?_));exact trivial
        ·(conv=>whnf);refine no ?_;exact trivial
       ·replace hx96:=ite_f hc80 hx96;cases hx96;(conv=>whnf);refine⟨(),trivial,Sub.eq rfl ?_ ?_⟩
        ·(repeat ((conv=>whnf);refine nr ?_));exact trivial
        ·(conv=>whnf);refine no ?_;exact trivial
   ·rintro _ _;(conv=>whnf);refine Side.mk rfl (LnA.mk _ (List.length_map _) ?_);refine wB (fun hc82=>?_) (fun hc82=>?_)
    ·replace h:=ite_t hc82 h;(conv=>whnf);cases h;exact rfl
    ·replace h:=ite_f hc82 h;(conv=>whnf);refine SeqG.mk ((List Int)×Value) (fun y=>[(5,.sl 35 hd35),(9,.sl 76 y.2)]) (fun y=>[(35,.arr hd35 9 1 false (List.map D.str l23)),(76,.arr y.2 3 1 false (List.map I y.1))]) (fun y=>CW N l23 y.1=some r) ?_ ?_
     ·(conv=>whnf);refine LoopG.mk (Nat×(Int×(List Int))×Value) (fun y=>[(5,.sl 35 hd35),(9,.sl 76 y.2.2),(10,.d (I y.2.1.1))]) (fun y=>[(35,.arr hd35 9 1 false (List.map D.str l23)),(76,.arr y.2.2 3 1 false (List.map I y.2.1.2))]) (fun y=>loopN (fun rr x=>xT N l23 rr x.1 x.2) y.1 y.2.1=some r) (fun y=>y.1) (N,(1,[]),(.slice none 0 0)) h (Sub.eq rfl ?_ ?_) ?_
      ·(repeat ((conv=>whnf);refine nr ?_));exact trivial
      ·(conv=>whnf);refine no ?_;(conv=>whnf);refine Need.mk (OLe.nil _ _ _ _) ?_;exact trivial
      ·rintro⟨n4,⟨i16,l64⟩,hd98⟩ hl4;obtain⟨n4,rfl,hl4⟩:=loopN_some hl4;replace hl4:xT N l23 (loopN (fun rr x=>xT N l23 rr x.1 x.2) n4) i16 l64=some r:=hl4;rw[xT]at hl4;(conv=>whnf);refine Side.mk rfl (LnA.mk _ (List.length_map _) ?_);refine wB (fun hc114=>?_) (fun hc114=>?_)
       ·replace hl4:=ite_t hc114 hl4;obtain⟨x30,hx160,hl4⟩:=obind hl4;(conv=>whnf);refine Side.mk ⟨rfl,rfl⟩ (Need.mk (idx_need _ hx160) ?_);(conv=>whnf);refine Side.mk ⟨rfl,rfl⟩ ⟨_,Int.natCast_nonneg _,idx_el _ hx160,?_⟩;obtain⟨⟨ra24,rb24⟩,hx161,hl4⟩:=obind hl4;(conv=>whnf);refine CallG.pure _ (Fp hN hx161) ?_;refine wB (fun hc118=>?_) (fun hc118=>?_)
        ·replace hl4:=ite_t hc118 hl4;(conv=>whnf);cases hl4;exact rfl
        ·replace hl4:=ite_f hc118 hl4;(conv=>whnf);intro hd101;obtain⟨l66,hx162,hl4⟩:=obind hl4;(conv=>whnf);refine Side.mk ⟨rfl,rfl⟩ ?_;(conv=>whnf);refine Side.mk ⟨rfl,rfl,rfl⟩ (Need.mk (app_need hN hx162 (by decide)) (Eqv.mk (List.map I l66) (app_map _ hx162) ?_));(conv=>whnf);intro hd102;(conv=>whnf);exact⟨(n4,(w64 (i16+1),l66),hd102),hl4,b9,Nat.lt_succ_self _⟩
       ·replace hl4:=ite_f hc114 hl4;(conv=>whnf);exact⟨(l64,hd98),hl4,b9⟩
     ·clear h;rintro⟨l56,hd86⟩ h;unfold CW at h;obtain⟨x18,hx132,h⟩:=obind h;(conv=>whnf);refine Side.mk ⟨rfl,rfl⟩ (Need.mk (idx_need _ hx132) ?_);(conv=>whnf);refine Side.mk ⟨rfl,rfl⟩ ⟨_,Int.natCast_nonneg _,idx_el _ hx132,?_⟩;refine ws ?_;(conv=>whnf);cases h;exact rfl
theorem Fq{N:Nat}(hN:N≤1073741824){s1:Ref12State}{average1:Int}{r:Ref12State×Int}(h:CZ N s1 average1=some r) :
    ACalls Tryz.prog 66 [.d (.agg [.list 1 (List.map I s1.fBowlers),I s1.fLanes.a0.fBowler,.list 1 (List.map I s1.fLanes.a0.fBalls),I s1.fLanes.a1.fBowler,.list 1 (List.map I s1.fLanes.a1.fBalls),I s1.fLanes.a2.fBowler,.list 1 (List.map I s1.fLanes.a2.fBalls),I s1.fLanes.a3.fBowler,.list 1 (List.map I s1.fLanes.a3.fBalls),.list 1 (List.map eL s1.fKept),.list 6 (List.map Ref07Sheet.enc s1.fSheets),.list 1 (List.map I s1.fWithdrawn),.list 3 (List.map Ref09Result.enc s1.fResults)]),.d (I average1)] [] fun e os=>e=.ret (.d (.tup [.agg [.list 1 (List.map I r.1.fBowlers),I r.1.fLanes.a0.fBowler,.list 1 (List.map I r.1.fLanes.a0.fBalls),I r.1.fLanes.a1.fBowler,.list 1 (List.map I r.1.fLanes.a1.fBalls),I r.1.fLanes.a2.fBowler,.list 1 (List.map I r.1.fLanes.a2.fBalls),I r.1.fLanes.a3.fBowler,.list 1 (List.map I r.1.fLanes.a3.fBalls),.list 1 (List.map eL r.1.fKept),.list 6 (List.map Ref07Sheet.enc r.1.fSheets),.list 1 (List.map I r.1.fWithdrawn),.list 3 (List.map Ref09Result.enc r.1.fResults)],I r.2]))∧os=[]:=by
  refine ah (fresh:=false) al ap ⟨[],[],[],[],[],0,[]⟩ Tryz.func66 rfl Tryz.call66 rfl ?_
  unfold CZ at h
  repeat' ((conv=>whnf)<;>first|refine u (k:=?_)|exact v|refine aap I [] _ hN rfl rfl ‹_› (by decide) ?_|refine aap eL [] _ hN rfl rfl ‹_› (by decide) ?_|refine aap eL _ [[]] hN rfl rfl ‹_› (by decide) ?_|refine cp (Dn hN am) ?_|intro _|refine Br.mk (fun _=>?_) fun _=>?_|(refine hs h ?_;intro _ _ h)|fail)
theorem Gr{N:Nat}(hN:N≤1073741824){s1:Ref12State}{lane1:Int}{bowler1:Int}{r:Ref12State×Int}(h:Du N s1 lane1 bowler1=some r) :
    ACalls Tryz.prog 67 [.d (.agg [.list 1 (List.map I s1.fBowlers),I s1.fLanes.a0.fBowler,.list 1 (List.map I s1.fLanes.a0.fBalls),I s1.fLanes.a1.fBowler,.list 1 (List.map I s1.fLanes.a1.fBalls),I s1.fLanes.a2.fBowler,.list 1 (List.map I s1.fLanes.a2.fBalls),I s1.fLanes.a3.fBowler,.list 1 (List.map I s1.fLanes.a3.fBalls),.list 1 (List.map eL s1.fKept),.list 6 (List.map Ref07Sheet.enc s1.fSheets),.list 1 (List.map I s1.fWithdrawn),.list 3 (List.map Ref09Result.enc s1.fResults)]),.d (I lane1),.d (I bowler1)] [] fun e os=>e=.ret (.d (.tup [.agg [.list 1 (List.map I r.1.fBowlers),I r.1.fLanes.a0.fBowler,.list 1 (List.map I r.1.fLanes.a0.fBalls),I r.1.fLanes.a1.fBowler,.list 1 (List.map I r.1.fLanes.a1.fBalls),I r.1.fLanes.a2.fBowler,.list 1 (List.map I r.1.fLanes.a2.fBalls),I r.1.fLanes.a3.fBowler,.list 1 (List.map I r.1.fLanes.a3.fBalls),.list 1 (List.map eL r.1.fKept),.list 6 (List.map Ref07Sheet.enc r.1.fSheets),.list 1 (List.map I r.1.fWithdrawn),.list 3 (List.map Ref09Result.enc r.1.fResults)],I r.2]))∧os=[]:=by
  refine ah (fresh:=false) al ap ⟨[],[],[],[],[1,6,8],0,[]⟩ Tryz.func67 rfl Tryz.call67 rfl ?_
  unfold Du at h
  delta w64 at h
  repeat' ((conv=>whnf)<;>first|refine u (k:=?_)|exact v|refine IxG.mk 3 rfl (by decide) ?_|(refine itx h (fun hc h=>?_) fun hc h=>?_)|refine sq 1 h [1,2,3,6] [3,6] [] [] () (fun p x y=>[(20,.d (.bool x))]) (fun p x y=>[]) ?_ ?_|refine cp (Dn hN am) ?_|refine lun 4 5 ?_|refine sq 6 h [1,2,3,6,8] [3,6] [] [] () (fun p x y=>[(45,.d (.bool x))]) (fun p x y=>[]) ?_ ?_|apply sq 8 h [3,6] [6] [] [] (_:Nat) (fun p x y=>[]) (fun p x y=>[(3,.cells p [.d (.list 1 (List.map I s1.fBowlers)),.d (I x.1),.d (.list 1 (List.map I x.2.1)),.d (I x.2.2.1),.d (.list 1 (List.map I x.2.2.2.1)),.d (I x.2.2.2.2.1),.d (.list 1 (List.map I x.2.2.2.2.2.1)),.d (I x.2.2.2.2.2.2.1),.d (.list 1 (List.map I x.2.2.2.2.2.2.2)),.d (.list 1 (List.map eL s1.fKept)),.d (.list 6 (List.map Ref07Sheet.enc s1.fSheets)),.d (.list 1 (List.map I s1.fWithdrawn)),.d (.list 3 (List.map Ref09Result.enc s1.fResults))])]) ?_ ?_|intro _|refine Br.mk (fun _=>?_) fun _=>?_|refine TyG.mk fun _ h=>?_|(refine hs h ?_;intro _ _ h)|fail)
theorem E8{N:Nat}(hN:N≤1073741824) {r:Ref01Law}(h:Dh N=some r) :
    ACalls Tryz.prog 19 [] [] fun e os=>e=.ret (.d (.agg [I r.fFrames,I r.fPins,I r.fBalls,I r.fTap]))∧os=[]:=by
  refine ah (fresh:=false) al ap ⟨[],[],[],[],[],0,[]⟩ Tryz.func19 rfl Tryz.call19 rfl ?_
  unfold Dh at h
  repeat' ((conv=>whnf)<;>first|refine u (k:=?_)|exact v|intro _|refine Br.mk (fun _=>?_) fun _=>?_|(refine hs h ?_;intro _ _ h)|fail)
theorem Gt{N:Nat}(hN:N≤1073741824){s1:Ref12State}{lane1:Int}{pins1:Int}{r:Ref12State×Int}(h:Dw N s1 lane1 pins1=some r) :
    ACalls Tryz.prog 68 [.d (.agg [.list 1 (List.map I s1.fBowlers),I s1.fLanes.a0.fBowler,.list 1 (List.map I s1.fLanes.a0.fBalls),I s1.fLanes.a1.fBowler,.list 1 (List.map I s1.fLanes.a1.fBalls),I s1.fLanes.a2.fBowler,.list 1 (List.map I s1.fLanes.a2.fBalls),I s1.fLanes.a3.fBowler,.list 1 (List.map I s1.fLanes.a3.fBalls),.list 1 (List.map eL s1.fKept),.list 6 (List.map Ref07Sheet.enc s1.fSheets),.list 1 (List.map I s1.fWithdrawn),.list 3 (List.map Ref09Result.enc s1.fResults)]),.d (I lane1),.d (I pins1)] [] fun e os=>e=.ret (.d (.tup [.agg [.list 1 (List.map I r.1.fBowlers),I r.1.fLanes.a0.fBowler,.list 1 (List.map I r.1.fLanes.a0.fBalls),I r.1.fLanes.a1.fBowler,.list 1 (List.map I r.1.fLanes.a1.fBalls),I r.1.fLanes.a2.fBowler,.list 1 (List.map I r.1.fLanes.a2.fBalls),I r.1.fLanes.a3.fBowler,.list 1 (List.map I r.1.fLanes.a3.fBalls),.list 1 (List.map eL r.1.fKept),.list 6 (List.map Ref07Sheet.enc r.1.fSheets),.list 1 (List.map I r.1.fWithdrawn),.list 3 (List.map Ref09Result.enc r.1.fResults)],I r.2]))∧os=[]:=by
  refine ah (fresh:=false) al ap ⟨[],[],[],[],[3,5],0,[]⟩ Tryz.func68 rfl Tryz.call68 rfl ?_
  unfold Dw at h
  repeat' ((conv=>whnf)<;>first|refine u (k:=?_)|exact v|(refine itx h (fun hc h=>?_) fun hc h=>?_)|refine aap I [] _ hN rfl rfl ‹_› (by decide) ?_|refine cp (Dn hN am) ?_|refine sq 3 h [1,2,3,6] [3,6] [] [] () (fun p x y=>[(18,.d (.bool x))]) (fun p x y=>[]) ?_ ?_|refine sq 5 h [1,3,6] [3,6] [.t 8] [] () (fun p x y=>[(8,.sl 20 (y.v 0))]) (fun p x y=>[(20,.arr (y.v 0) 3 1 false (List.map I x))]) ?_ ?_|refine cp (E8 hN am) ?_|refine cp (Ie hN am) ?_|intro _|refine Br.mk (fun _=>?_) fun _=>?_|refine TyG.mk fun _ h=>?_|(refine hs h ?_;intro _ _ h)|fail)
theorem Gu{N:Nat}(hN:N≤1073741824){s1:Ref12State}{lane1:Int}{r:Ref12State×Int}(h:Dx N s1 lane1=some r) :
    ACalls Tryz.prog 69 [.d (.agg [.list 1 (List.map I s1.fBowlers),I s1.fLanes.a0.fBowler,.list 1 (List.map I s1.fLanes.a0.fBalls),I s1.fLanes.a1.fBowler,.list 1 (List.map I s1.fLanes.a1.fBalls),I s1.fLanes.a2.fBowler,.list 1 (List.map I s1.fLanes.a2.fBalls),I s1.fLanes.a3.fBowler,.list 1 (List.map I s1.fLanes.a3.fBalls),.list 1 (List.map eL s1.fKept),.list 6 (List.map Ref07Sheet.enc s1.fSheets),.list 1 (List.map I s1.fWithdrawn),.list 3 (List.map Ref09Result.enc s1.fResults)]),.d (I lane1)] [] fun e os=>e=.ret (.d (.tup [.agg [.list 1 (List.map I r.1.fBowlers),I r.1.fLanes.a0.fBowler,.list 1 (List.map I r.1.fLanes.a0.fBalls),I r.1.fLanes.a1.fBowler,.list 1 (List.map I r.1.fLanes.a1.fBalls),I r.1.fLanes.a2.fBowler,.list 1 (List.map I r.1.fLanes.a2.fBalls),I r.1.fLanes.a3.fBowler,.list 1 (List.map I r.1.fLanes.a3.fBalls),.list 1 (List.map eL r.1.fKept),.list 6 (List.map Ref07Sheet.enc r.1.fSheets),.list 1 (List.map I r.1.fWithdrawn),.list 3 (List.map Ref09Result.enc r.1.fResults)],I r.2]))∧os=[]:=by
  refine ah (fresh:=false) al ap ⟨[],[],[],[],[3,4],0,[]⟩ Tryz.func69 rfl Tryz.call69 rfl ?_
  unfold Dx at h
  delta w64 at h
  repeat' ((conv=>whnf)<;>first|refine u (k:=?_)|exact v|(refine itx h (fun hc h=>?_) fun hc h=>?_)|refine aap I [] _ hN rfl rfl ‹_› (by decide) ?_|refine cp (Dn hN am) ?_|refine sq 3 h [1,2,4] [2,4] [] [] () (fun p x y=>[(6,.d (I x))]) (fun p x y=>[]) ?_ ?_|refine sq 4 h [1,2,4,6] [2,4] [] [] () (fun p x y=>[(26,.d (.bool x))]) (fun p x y=>[]) ?_ ?_|intro _|refine Br.mk (fun _=>?_) fun _=>?_|refine TyG.mk fun _ h=>?_|(refine hs h ?_;intro _ _ h)|fail)
theorem FW{N:Nat}(hN:N≤1073741824){s1:Ref12State}{lane1:Int}{r:Ref12State×Int}(h:Dj N s1 lane1=some r) :
    ACalls Tryz.prog 70 [.d (.agg [.list 1 (List.map I s1.fBowlers),I s1.fLanes.a0.fBowler,.list 1 (List.map I s1.fLanes.a0.fBalls),I s1.fLanes.a1.fBowler,.list 1 (List.map I s1.fLanes.a1.fBalls),I s1.fLanes.a2.fBowler,.list 1 (List.map I s1.fLanes.a2.fBalls),I s1.fLanes.a3.fBowler,.list 1 (List.map I s1.fLanes.a3.fBalls),.list 1 (List.map eL s1.fKept),.list 6 (List.map Ref07Sheet.enc s1.fSheets),.list 1 (List.map I s1.fWithdrawn),.list 3 (List.map Ref09Result.enc s1.fResults)]),.d (I lane1)] [] fun e os=>e=.ret (.d (.tup [.agg [.list 1 (List.map I r.1.fBowlers),I r.1.fLanes.a0.fBowler,.list 1 (List.map I r.1.fLanes.a0.fBalls),I r.1.fLanes.a1.fBowler,.list 1 (List.map I r.1.fLanes.a1.fBalls),I r.1.fLanes.a2.fBowler,.list 1 (List.map I r.1.fLanes.a2.fBalls),I r.1.fLanes.a3.fBowler,.list 1 (List.map I r.1.fLanes.a3.fBalls),.list 1 (List.map eL r.1.fKept),.list 6 (List.map Ref07Sheet.enc r.1.fSheets),.list 1 (List.map I r.1.fWithdrawn),.list 3 (List.map Ref09Result.enc r.1.fResults)],I r.2]))∧os=[]:=by
  refine ah (fresh:=false) al ap ⟨[],[],[],[],[3,4,8],0,[48]⟩ Tryz.func70 rfl Tryz.call70 rfl ?_
  unfold Dj at h
  repeat' ((conv=>whnf)<;>first|refine u (k:=?_)|exact v|(refine itx h (fun hc h=>?_) fun hc h=>?_)|refine aap eL [] _ hN rfl rfl ‹_› (by decide) ?_|refine aap I [] _ hN rfl rfl ‹_› (by decide) ?_|refine cp (Dn hN am) ?_|refine sq 3 h [1,2,4] [2,4] [] [.t 6] () (fun p x y=>[(6,.ptr 6 (y.b 0) 0)]) (fun p x y=>[(6,.cells (y.b 0) [.d (I x.fBowler),.d (.list 1 (List.map I x.fBalls))])]) ?_ ?_|refine sq 4 h [1,2,4,6] [2,4,6] [] [] () (fun p x y=>[(24,.d (.bool x))]) (fun p x y=>[]) ?_ ?_|refine dr 0 15 (tkA 4 0 (.spl 18 (tkA 2 5 (.alt 4 [6,5,2,1,0] (.alt 7 [5,2,1,0] (tkA 2 8 .done) .nil) .nil)))) rfl (by kernel_rfl) ?_|refine cp (E8 hN am) ?_|refine cp (FV hN am) ?_|refine dr 0 31 (tkA 4 0 (tkA 6 5 (tkA 2 13 (.alt 4 [14,13,10,9,8,7,6,5,3,2,1,0] (.alt 11 [14,13,9,8,7,6,5,3,2,1,0] (.alt 12 [14,13,9,8,7,6,5,3,2,1,0] (.alt 15 [13,9,8,7,6,5,3,2,1,0] (.alt 16 [13,9,8,7,6,5,3,2,1,0] (.alt 17 [13,9,8,7,6,5,3,2,1,0] (.take 18 (.alt 19 [] .done .nil)) .nil) .nil) .nil) .nil) .nil) .nil)))) rfl (by kernel_rfl) ?_|apply sq 8 h [2,4] [4] [] [] ((_:Nat),(_:Value)) (fun p x y=>[]) (fun p x y=>[(2,.cells p.1 [.d (.list 1 (List.map I s1.fBowlers)),.d (I x.1),.d (.list 1 (List.map I x.2.1)),.d (I x.2.2.1),.d (.list 1 (List.map I x.2.2.2.1)),.d (I x.2.2.2.2.1),.d (.list 1 (List.map I x.2.2.2.2.2.1)),.d (I x.2.2.2.2.2.2.1),.d (.list 1 (List.map I x.2.2.2.2.2.2.2.1)),.sl 26 p.2,.d (.list 6 (List.map Ref07Sheet.enc s1.fSheets)),.d (.list 1 (List.map I s1.fWithdrawn)),.d (.list 3 (List.map Ref09Result.enc s1.fResults))]),(26,.arr p.2 25 1 false (List.map eL x.2.2.2.2.2.2.2.2))]) ?_ ?_|intro _|refine Br.mk (fun _=>?_) fun _=>?_|refine TyG.mk fun _ h=>?_|(refine hs h ?_;intro _ _ h)|fail)
