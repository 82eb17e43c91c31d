/-
  Walks: what the typed functions compute, the program’s functions return.
-/
import Derived.Test.YtdodahpkpeodfaaGreatDoorWe
import Derived.Test.YtdodahpkpeodfaaGreatDoorVa
import Derived.Test.YtdodahpkpeodfaaGreatDoorVc
import Derived.Test.YtdodahpkpeodfaaGreatDoorVd
namespace Go.Proofs.YtdodahpkpeodfaaGreatDoor
open Go Go.Abs Go.Kp
set_option maxRecDepth 100000
set_option maxHeartbeats 8000000
set_option linter.all false
theorem mt{N:Nat}(hN:N≤1073741824){s1:List UInt8}{index1:Int}{r:DeskHead}(h:D6 N s1 index1=some r) :
    ACalls Tryz.prog 108 [.d (.str s1),.d (I index1)] [] fun e os=>e=.ret (.d (.agg [I r.fLong,I r.fCheck]))∧os=[]:=by
  refine ah (fresh:=false) al ap ⟨[],[],[],[],[1002],0,[]⟩ Tryz.func108 rfl Tryz.call108 rfl ?_
  unfold D6 at h
  (conv=>whnf);intro b2;obtain⟨check6,hx13,h⟩:=obind h;(conv=>whnf);refine SeqG.mk Unit (fun y=>[(0,.d (.str s1)),(4,.ptr 4 b2 0),(5,.d (I check6))]) (fun y=>[(4,.cells b2 [.d (I 0),.d (I 0)])]) (fun _=>True) ?_ ?_
  ·(conv=>whnf);refine Eqv.mk (List.map (fun x=>.int .u8 x) (bytesI s1)) (sQ _) ?_;(conv=>whnf);refine LnA.mk _ (List.length_map _) ?_;(conv=>whnf);refine LoopG.mk (Nat×(Int×(List Int)×Int×Int)) (fun y=>[(0,.d (.str s1)),(4,.ptr 4 b2 0),(5,.d (I y.2.1)),(12,.d (.list 1 (List.map (fun x=>.int .u8 x) y.2.2.1))),(13,.d (I y.2.2.2.1)),(14,.d (I y.2.2.2.2))]) (fun y=>[(4,.cells b2 [.d (I 0),.d (I 0)])]) (fun y=>loopN (fun rr x=>bM N rr x.1 x.2.1 x.2.2.1 x.2.2.2) y.1 y.2=some check6) (fun y=>y.1) (N,(w64 (13*(w64 (index1+1))),bytesI s1,((bytesI s1).length:Int),0)) hx13 (Sub.eq rfl ?_ ?_) ?_
   ·(repeat ((conv=>whnf);refine nr ?_));exact trivial
   ·(conv=>whnf);refine no ?_;exact trivial
   ·rintro⟨n2,⟨check11,v26,v27,v28⟩⟩ hl2;obtain⟨n2,rfl,hl2⟩:=loopN_some hl2;replace hl2:bM N (loopN (fun rr x=>bM N rr x.1 x.2.1 x.2.2.1 x.2.2.2) n2) check11 v26 v27 v28=some check6:=hl2;rw[bM]at hl2;refine wB (fun hc12=>?_) (fun hc12=>?_)
    ·replace hl2:=ite_t hc12 hl2;obtain⟨x24,hx25,hl2⟩:=obind hl2;(conv=>whnf);refine Side.mk rfl ⟨_,idx_0 hx25,idx_map _ hx25,?_⟩;(conv=>whnf);refine⟨(n2,(w64 (check11+(w64 ((w64 (v28+2))*(w64 ((w64 x24)+1))))),v26,v27,w64 (v28+1))),hl2,Sub.eq rfl ?_ ?_,Nat.lt_succ_self _⟩
     ·(repeat ((conv=>whnf);refine nr ?_));exact trivial
     ·(conv=>whnf);refine no ?_;exact trivial
    ·replace hl2:=ite_f hc12 hl2;cases hl2;(conv=>whnf);refine⟨(),trivial,Sub.eq rfl ?_ ?_⟩
     ·(repeat ((conv=>whnf);refine nr ?_));exact trivial
     ·(conv=>whnf);refine no ?_;exact trivial
  ·rintro _ _;(conv=>whnf);refine Need.mk (by decide) ?_;(iterate 2 refine ws ?_);(conv=>whnf);cases h;exact rfl
theorem mu{N:Nat}(hN:N≤1073741824){n1:Int}{many1:Int}{r:(List UInt8)}(h:dm N n1 many1=some r) :
    ACalls Tryz.prog 158 [.d (I n1),.d (I many1)] [] fun e os=>e=.ret (.d (.str r))∧os=[]:=by
  refine ah (fresh:=false) al ap ⟨[],[],[],[],[5,1002],0,[5]⟩ Tryz.func158 rfl Tryz.call158 rfl ?_
  unfold dm at h
  (conv=>whnf);intro b2;obtain⟨b19,hx7,h⟩:=obind h;(conv=>whnf);refine SeqG.mk Unit (fun y=>[(1,.d (I many1)),(5,.ptr 5 b2 0)]) (fun y=>[(5,.cells b2 [.d (.int .u8 b19.a0),.d (.int .u8 b19.a1),.d (.int .u8 b19.a2),.d (.int .u8 b19.a3),.d (.int .u8 b19.a4)])]) (fun _=>True) ?_ ?_
  ·(conv=>whnf);refine LoopG.mk (Nat×(Int×Int×(Ar5 Int))) (fun y=>[(0,.d (I y.2.1)),(1,.d (I many1)),(5,.ptr 5 b2 0),(6,.d (I y.2.2.1))]) (fun y=>[(5,.cells b2 [.d (.int .u8 y.2.2.2.a0),.d (.int .u8 y.2.2.2.a1),.d (.int .u8 y.2.2.2.a2),.d (.int .u8 y.2.2.2.a3),.d (.int .u8 y.2.2.2.a4)])]) (fun y=>loopN (fun rr x=>aF N rr x.1 x.2.1 x.2.2) y.1 y.2=some b19) (fun y=>y.1) (N,(n1,w64 (many1-1),(Ar5.mk 0 0 0 0 0))) hx7 (Sub.eq rfl ?_ ?_) ?_
   ·(repeat ((conv=>whnf);refine nr ?_));exact trivial
   ·(conv=>whnf);refine no ?_;exact trivial
   ·rintro⟨n11,⟨n10,i10,b31⟩⟩ hl2;obtain⟨n11,rfl,hl2⟩:=loopN_some hl2;replace hl2:aF N (loopN (fun rr x=>aF N rr x.1 x.2.1 x.2.2) n11) n10 i10 b31=some b19:=hl2;rw[aF]at hl2;refine wB (fun hc112=>?_) (fun hc112=>?_)
    ·replace hl2:=ite_t hc112 hl2;obtain⟨b35,hx13,hl2⟩:=obind hl2;(conv=>whnf);refine SeqG.mk Unit (fun y=>[(0,.d (I n10)),(1,.d (I many1)),(5,.ptr 5 b2 0),(6,.d (I i10))]) (fun y=>[(5,.cells b2 [.d (.int .u8 b35.a0),.d (.int .u8 b35.a1),.d (.int .u8 b35.a2),.d (.int .u8 b35.a3),.d (.int .u8 b35.a4)])]) (fun _=>True) ?_ ?_
     ·(conv=>whnf);refine Need.mk (by decide) ?_;rcases eP (decide (i10=0))with hc128 | hc128
      ·replace hx13:=ite_t hc128 hx13;(conv=>whnf);refine IxG.mk 0 (of_decide_eq_true hc128) (by decide) ?_;refine ws ?_;cases hx13;(conv=>whnf);refine⟨(),trivial,Sub.eq rfl ?_ ?_⟩
       ·(repeat ((conv=>whnf);refine nr ?_));exact trivial
       ·(conv=>whnf);refine no ?_;exact trivial
      ·replace hx13:=ite_f hc128 hx13;rcases eP (decide (i10=1))with hc129 | hc129
       ·replace hx13:=ite_t hc129 hx13;(conv=>whnf);refine IxG.mk 1 (of_decide_eq_true hc129) (by decide) ?_;refine ws ?_;cases hx13;(conv=>whnf);refine⟨(),trivial,Sub.eq rfl ?_ ?_⟩
        ·(repeat ((conv=>whnf);refine nr ?_));exact trivial
        ·(conv=>whnf);refine no ?_;exact trivial
       ·replace hx13:=ite_f hc129 hx13;rcases eP (decide (i10=2))with hc130 | hc130
        ·replace hx13:=ite_t hc130 hx13;(conv=>whnf);refine IxG.mk 2 (of_decide_eq_true hc130) (by decide) ?_;refine ws ?_;cases hx13;(conv=>whnf);refine⟨(),trivial,Sub.eq rfl ?_ ?_⟩
         ·(repeat ((conv=>whnf);refine nr ?_));exact trivial
         ·(conv=>whnf);refine no ?_;exact trivial
        ·replace hx13:=ite_f hc130 hx13;rcases eP (decide (i10=3))with hc131 | hc131
         ·replace hx13:=ite_t hc131 hx13;(conv=>whnf);refine IxG.mk 3 (of_decide_eq_true hc131) (by decide) ?_;refine ws ?_;cases hx13;(conv=>whnf);refine⟨(),trivial,Sub.eq rfl ?_ ?_⟩
          ·(repeat ((conv=>whnf);refine nr ?_));exact trivial
          ·(conv=>whnf);refine no ?_;exact trivial
         ·replace hx13:=ite_f hc131 hx13;rcases eP (decide (i10=4))with hc132 | hc132
          ·replace hx13:=ite_t hc132 hx13;(conv=>whnf);refine IxG.mk 4 (of_decide_eq_true hc132) (by decide) ?_;refine ws ?_;cases hx13;(conv=>whnf);refine⟨(),trivial,Sub.eq rfl ?_ ?_⟩
           ·(repeat ((conv=>whnf);refine nr ?_));exact trivial
           ·(conv=>whnf);refine no ?_;exact trivial
          ·replace hx13:=ite_f hc132 hx13;cases hx13
     ·rintro _ _;(conv=>whnf);refine Need.mk (by decide) ?_;(conv=>whnf);refine⟨(n11,(w64 (Int.tdiv n10 10),w64 (i10-1),b35)),hl2,Sub.eq rfl ?_ ?_,Nat.lt_succ_self _⟩
      ·(repeat ((conv=>whnf);refine nr ?_));exact trivial
      ·(conv=>whnf);refine no ?_;exact trivial
    ·replace hl2:=ite_f hc112 hl2;cases hl2;(conv=>whnf);refine⟨(),trivial,Sub.eq rfl ?_ ?_⟩
     ·(repeat ((conv=>whnf);refine nr ?_));exact trivial
     ·(conv=>whnf);refine no ?_;exact trivial
  ·rintro _ _;obtain⟨l2,hx15,h⟩:=obind h;refine ws ?_;(conv=>whnf);refine ArrS.mk (List.map (fun x=>.int .u8 x) [b19.a0,b19.a1,b19.a2,b19.a3,b19.a4]) rfl rfl (tP _ fun _=>rfl) ?_;(conv=>whnf);refine Need.mk (ui hx15 rfl) (Eqv.mk (List.map (fun x=>.int .u8 x) l2) (slc_map0 _ hx15) ?_);refine ws ?_;(conv=>whnf);refine StrG.mk l2 rfl ?_;(conv=>whnf);cases h;exact rfl
theorem fB{N:Nat}(hN:N≤1073741824){hv1:DeskHead}{r:(List UInt8)}(h:Dp N hv1=some r) :
    ACalls Tryz.prog 109 [.d (.agg [I hv1.fLong,I hv1.fCheck])] [] fun e os=>e=.ret (.d (.str r))∧os=[]:=by
  refine ah (fresh:=false) al ap ⟨[1],[],[],[],[],0,[]⟩ Tryz.func109 rfl Tryz.call109 rfl ?_
  unfold Dp at h
  (conv=>whnf);refine DrawG.mk (.take 0 (.take 1 (.take 5 (.take 6 (.alt 2 [6,5,0] (.take 3 (.take 4 (.alt 7 [4,3,5,0] (.take 8 (.take 9 (.take 10 .done))) .nil))) .nil))))) (by kernel_rfl) ?_;refine wb ?_;obtain⟨r3,hx7,h⟩:=obind h;(conv=>whnf);refine CallG.pure _ (mu hN hx7) ?_;(iterate 3 refine wl ?_);obtain⟨s5,hx8,h⟩:=obind h;obtain⟨s6,hx9,h⟩:=obind h;(conv=>whnf);refine Need.mk (eO hN hx8) ?_;(conv=>whnf);refine Need.mk (eO hN hx9) ?_;refine wb ?_;obtain⟨r4,hx10,h⟩:=obind h;(conv=>whnf);refine CallG.pure _ (mu hN hx10) ?_;(conv=>whnf);refine Need.mk (eO hN hx9) ?_;refine wl ?_;(conv=>whnf);refine Need.mk (eO hN hx8) ?_;(iterate 2 refine wl ?_);refine wl ?_
  obtain⟨s7,hx11,h⟩:=obind h;obtain⟨s8,hx12,h⟩:=obind h;(conv=>whnf);refine Need.mk (eO hN hx11) ?_;(conv=>whnf);refine Need.mk (eO hN hx12) ?_;(conv=>whnf);cases h;exact rfl
theorem Hm{N:Nat}(hN:N≤1073741824){lines1:List (List UInt8)}{r:(List Int)}(h:jE N lines1=some r) :
    ACalls Tryz.prog 63 [.d (.list 1 (List.map D.str lines1))] [] fun e os=>e=.ret (.d (.list 1 (List.map (fun x=>.int .u8 x) r)))∧os=[]:=by
  refine ah (fresh:=false) al ap ⟨[],[],[],[],[1002],0,[]⟩ Tryz.func63 rfl Tryz.call63 rfl ?_
  unfold jE at h
  obtain⟨l11,hx43,h⟩:=obind h;(conv=>whnf);refine SeqG.mk Value (fun y=>[(3,.sl 21 y)]) (fun y=>[(21,.arr y 5 1 false (List.map (fun x=>.int .u8 x) l11))]) (fun _=>True) ?_ ?_
  ·(conv=>whnf);refine LnA.mk _ (List.length_map _) ?_;(conv=>whnf);refine LoopG.mk (Nat×(Int×Int×(List Int))×Value) (fun y=>[(3,.sl 21 y.2.2),(6,.d (.list 1 (List.map D.str lines1))),(7,.d (I y.2.1.1)),(8,.d (I y.2.1.2.1))]) (fun y=>[(21,.arr y.2.2 5 1 false (List.map (fun x=>.int .u8 x) y.2.1.2.2))]) (fun y=>loopN (fun rr x=>cH N lines1 rr x.1 x.2.1 x.2.2) y.1 y.2.1=some l11) (fun y=>y.1) (N,((lines1.length:Int),0,[]),(.slice none 0 0)) hx43 (Sub.eq rfl ?_ ?_) ?_
   ·(repeat ((conv=>whnf);refine nr ?_));exact trivial
   ·(conv=>whnf);refine Need.mk (OLe.nil _ _ _ _) ?_;exact trivial
   ·rintro⟨n2,⟨v17,v18,l19⟩,hd19⟩ hl2;obtain⟨n2,rfl,hl2⟩:=loopN_some hl2;replace hl2:cH N lines1 (loopN (fun rr x=>cH N lines1 rr x.1 x.2.1 x.2.2) n2) v17 v18 l19=some l11:=hl2;rw[cH]at hl2;refine wB (fun hc12=>?_) (fun hc12=>?_)
    ·replace hl2:=ite_t hc12 hl2;obtain⟨x24,hx80,hl2⟩:=obind hl2;(conv=>whnf);refine Side.mk rfl ⟨_,idx_0 hx80,idx_map _ hx80,?_⟩;obtain⟨r23,hx81,hl2⟩:=obind hl2;(conv=>whnf);refine CallG.pure _ (mt hN hx81) ?_;obtain⟨r24,hx82,hl2⟩:=obind hl2;(conv=>whnf);refine CallG.pure _ (fB hN hx82) ?_;obtain⟨s23,hx83,hl2⟩:=obind hl2;(conv=>whnf);refine Need.mk (eO hN hx83) ?_;obtain⟨s24,hx84,hl2⟩:=obind hl2;(conv=>whnf);refine Need.mk (eO hN hx84) ?_;obtain⟨l21,hx85,hl2⟩:=obind hl2;(conv=>whnf);refine Side.mk ⟨rfl,rfl,rfl⟩ (Eqv.mk (List.map (fun x=>.int .u8 x) (bytesI (((r24++x24)++([10]:List UInt8))))) (sQ _) ?_);(conv=>whnf);refine Side.mk ⟨rfl,rfl,rfl⟩ (Need.mk (vH hN hx85) (Eqv.mk (List.map (fun x=>.int .u8 x) l21) (app_map _ hx85) ?_));(conv=>whnf);intro hd21;(conv=>whnf)
     refine⟨(n2,(v17,w64 (v18+1),l21),hd21),hl2,Sub.eq rfl ?_ ?_,Nat.lt_succ_self _⟩
     ·(repeat ((conv=>whnf);refine nr ?_));exact trivial
     ·(conv=>whnf);refine no ?_;exact trivial
    ·replace hl2:=ite_f hc12 hl2;cases hl2;(conv=>whnf);refine⟨hd19,trivial,Sub.eq rfl ?_ ?_⟩
     ·(repeat ((conv=>whnf);refine nr ?_));exact trivial
     ·(conv=>whnf);refine no ?_;exact trivial
  ·rintro hd11 _;refine ws ?_;(conv=>whnf);cases h;exact rfl
theorem ol{N:Nat}(hN:N≤1073741824){lines1:List (List UInt8)}{r:(List Int)×Int}(h:gr N lines1=some r) :
    ACalls Tryz.prog 33 [.d (.list 1 (List.map D.str lines1))] [] fun e os=>e=.ret (.d (.tup [.list 1 (List.map (fun x=>.int .u8 x) r.1),I r.2]))∧os=[]:=by
  refine ah (fresh:=false) al ap ⟨[],[],[],[],[],0,[]⟩ Tryz.func33 rfl Tryz.call33 rfl ?_
  unfold gr at h
  repeat' ((conv=>whnf)<;>first|refine u (k:=?_)|exact v|refine cp (gP hN am) ?_|refine cp (Hm hN am) ?_|intro _|refine Br.mk (fun _=>?_) fun _=>?_|(refine hs h ?_;intro _ _ h)|fail)
theorem su{N:Nat}(hN:N≤1073741824){a1:List Int}{b1:List Int}{r:Bool}(h:lN N a1 b1=some r) :
    ACalls Tryz.prog 20 [.d (.list 1 (List.map I a1)),.d (.list 1 (List.map I b1))] [] fun e os=>e=.ret (.d (.bool r))∧os=[]:=by
  refine ah (fresh:=false) al ap ⟨[],[],[],[],[1003],0,[]⟩ Tryz.func20 rfl Tryz.call20 rfl ?_
  unfold lN at h
  repeat' ((conv=>whnf)<;>first|refine u (k:=?_)|exact v|refine st0 1003 (F:=C7 (iY N)) r [] (fun y=>[]) ?_ ?_|refine lp0 4 h [0,1] (fun y=>[(5,.d (I y.x))]) ?_ ?_|refine dr 0 17 (tkA 9 0 .done) rfl (by kernel_rfl) ?_|(rw[eN]at h;delta w64 at h)|unfold iY at h|intro _|refine Br.mk (fun _=>?_) fun _=>?_|refine TyG.mk fun _ h=>?_|(refine hs h ?_;intro _ _ h)|fail)
theorem jR{N:Nat}(hN:N≤1073741824) {r:Bool}(h:cL N=some r) :
    ACalls Tryz.prog 9 [] [] fun e os=>e=.ret (.d (.bool r))∧os=[]:=by
  refine ah (fresh:=false) al ap ⟨[],[],[],[],[6],0,[]⟩ Tryz.func9 rfl Tryz.call9 rfl ?_
  unfold cL at h
  obtain⟨r2,hx4,h⟩:=obind h;(conv=>whnf);refine CallG.fresh 16 (i6 hN hx4) ?_;intro hd4;(conv=>whnf);intro hd5;obtain⟨l2,hx5,h⟩:=obind h;(conv=>whnf);refine Side.mk ⟨rfl,rfl⟩ ?_;(conv=>whnf);refine Side.mk ⟨rfl,rfl,rfl⟩ (Need.mk (app_need hN hx5 (by decide)) (Eqv.mk (List.map D.str l2) (app_map _ hx5) ?_));(conv=>whnf);intro hd6;obtain⟨⟨ra2,rb2,rc2⟩,hx6,h⟩:=obind h;refine ws ?_;(conv=>whnf);refine CallG.pure _ (uk hN hx6) ?_;(conv=>whnf);intro b2;refine ws ?_;obtain⟨r4,hx10,h⟩:=obind h;(conv=>whnf);refine CallG.fresh 24 (i6 hN hx10) ?_;intro hd8;obtain⟨l4,hx11,h⟩:=obind h;refine ws ?_;(conv=>whnf);refine Need.mk (slc_need _ hx11) (Eqv.mk (List.map D.str l4) (slc_map _ hx11) ?_);obtain⟨⟨ra4,rb4,rc4,rd2⟩,hx12,h⟩:=obind h;(conv=>whnf);refine CallG.pure _ (F1 hN hx12) ?_
  obtain⟨r6,hx15,h⟩:=obind h;(conv=>whnf);refine CallG.fresh 32 (i6 hN hx15) ?_;intro hd10;obtain⟨⟨ra6,rb6,rc6⟩,hx16,h⟩:=obind h;refine ws ?_;(conv=>whnf);refine CallG.pure _ (Gn hN hx16) ?_;obtain⟨r8,hx20,h⟩:=obind h;(conv=>whnf);refine CallG.fresh 38 (i6 hN hx20) ?_;intro hd12;obtain⟨l6,hx21,h⟩:=obind h;refine ws ?_;(conv=>whnf);refine Need.mk (slc_need _ hx21) (Eqv.mk (List.map D.str l6) (slc_map _ hx21) ?_);obtain⟨⟨ra8,rb8⟩,hx22,h⟩:=obind h;(conv=>whnf);refine CallG.pure _ (ru hN hx22) ?_;(conv=>whnf);intro hd14;obtain⟨⟨ra10,rb10⟩,hx24,h⟩:=obind h;refine ws ?_;(conv=>whnf);refine CallG.pure _ (ol hN hx24) ?_;obtain⟨v2,hx31,h⟩:=obind h;(conv=>whnf);refine SeqG.mk Unit (fun y=>[(0,.d (.bool v2))]) (fun y=>[]) (fun _=>True) ?_ ?_
  ·refine wB (fun hc18=>?_) (fun hc18=>?_)
   ·replace hx31:=ite_t hc18 hx31;(conv=>whnf);refine LnA.mk _ (List.length_map _) ?_;refine wB (fun hc19=>?_) (fun hc19=>?_)
    ·replace hx31:=ite_t hc19 hx31;obtain⟨x6,hx32,hx31⟩:=obind hx31;(conv=>whnf);refine Side.mk rfl ⟨_,idx_0 hx32,idx_map _ hx32,?_⟩;refine wB (fun hc20=>?_) (fun hc20=>?_)
     ·replace hx31:=ite_t hc20 hx31;obtain⟨x7,hx33,hx31⟩:=obind hx31;(conv=>whnf);refine Side.mk rfl ⟨_,idx_0 hx33,idx_map _ hx33,?_⟩;refine wB (fun hc21=>?_) (fun hc21=>?_)
      ·replace hx31:=ite_t hc21 hx31;obtain⟨x8,hx34,hx31⟩:=obind hx31;(conv=>whnf);refine Side.mk rfl ⟨_,idx_0 hx34,idx_map _ hx34,?_⟩;refine wB (fun hc22=>?_) (fun hc22=>?_)
       ·replace hx31:=ite_t hc22 hx31;obtain⟨x9,hx35,hx31⟩:=obind hx31;(conv=>whnf);refine Side.mk rfl ⟨_,idx_0 hx35,idx_map _ hx35,?_⟩;refine wB (fun hc23=>?_) (fun hc23=>?_)
        ·replace hx31:=ite_t hc23 hx31;obtain⟨x10,hx36,hx31⟩:=obind hx31;(conv=>whnf);refine Side.mk rfl ⟨_,idx_0 hx36,idx_map _ hx36,?_⟩;refine wB (fun hc24=>?_) (fun hc24=>?_)
         ·replace hx31:=ite_t hc24 hx31;refine wB (fun hc25=>?_) (fun hc25=>?_)
          ·replace hx31:=ite_t hc25 hx31;(conv=>whnf);intro hd16;obtain⟨r10,hx37,hx31⟩:=obind hx31;refine ws ?_;(conv=>whnf);refine CallG.pure _ (su hN hx37) ?_;refine wB (fun hc26=>?_) (fun hc26=>?_)
           ·replace hx31:=ite_t hc26 hx31;refine wB (fun hc27=>?_) (fun hc27=>?_)
            ·replace hx31:=ite_t hc27 hx31;refine wB (fun hc28=>?_) (fun hc28=>?_)
             ·replace hx31:=ite_t hc28 hx31;refine wB (fun hc29=>?_) (fun hc29=>?_)
              ·replace hx31:=ite_t hc29 hx31;refine wB (fun hc30=>?_) (fun hc30=>?_)
               ·replace hx31:=ite_t hc30 hx31;refine wB (fun hc31=>?_) (fun hc31=>?_)
                ·replace hx31:=ite_t hc31 hx31;refine wB (fun hc32=>?_) (fun hc32=>?_)
                 ·replace hx31:=ite_t hc32 hx31;refine wB (fun hc33=>?_) (fun hc33=>?_)
                  ·replace hx31:=ite_t hc33 hx31;refine wB (fun hc34=>?_) (fun hc34=>?_)
                   ·replace hx31:=ite_t hc34 hx31;refine ws ?_;(conv=>whnf);refine StrG.mk ra10 rfl ?_;cases hx31;(conv=>whnf);exact⟨(),trivial,b9⟩
                   ·replace hx31:=ite_f hc34 hx31;cases hx31;(conv=>whnf);exact⟨(),trivial,b9⟩
                  ·replace hx31:=ite_f hc33 hx31;cases hx31;(conv=>whnf);exact⟨(),trivial,b9⟩
                 ·replace hx31:=ite_f hc32 hx31;cases hx31;(conv=>whnf);exact⟨(),trivial,b9⟩
                ·replace hx31:=ite_f hc31 hx31;cases hx31;(conv=>whnf);exact⟨(),trivial,b9⟩
               ·replace hx31:=ite_f hc30 hx31;cases hx31;(conv=>whnf);exact⟨(),trivial,b9⟩
              ·replace hx31:=ite_f hc29 hx31;cases hx31;(conv=>whnf);exact⟨(),trivial,b9⟩
             ·replace hx31:=ite_f hc28 hx31;cases hx31;(conv=>whnf);exact⟨(),trivial,b9⟩
            ·replace hx31:=ite_f hc27 hx31;cases hx31;(conv=>whnf);exact⟨(),trivial,b9⟩
           ·replace hx31:=ite_f hc26 hx31;cases hx31;(conv=>whnf);exact⟨(),trivial,b9⟩
          ·replace hx31:=ite_f hc25 hx31;cases hx31;(conv=>whnf);exact⟨(),trivial,b9⟩
         ·replace hx31:=ite_f hc24 hx31;cases hx31;(conv=>whnf);exact⟨(),trivial,b9⟩
        ·replace hx31:=ite_f hc23 hx31;cases hx31;(conv=>whnf);exact⟨(),trivial,b9⟩
       ·replace hx31:=ite_f hc22 hx31;cases hx31;(conv=>whnf);exact⟨(),trivial,b9⟩
      ·replace hx31:=ite_f hc21 hx31;cases hx31;(conv=>whnf);exact⟨(),trivial,b9⟩
     ·replace hx31:=ite_f hc20 hx31;cases hx31;(conv=>whnf);exact⟨(),trivial,b9⟩
    ·replace hx31:=ite_f hc19 hx31;cases hx31;(conv=>whnf);exact⟨(),trivial,b9⟩
   ·replace hx31:=ite_f hc18 hx31;cases hx31;(conv=>whnf);exact⟨(),trivial,b9⟩
  ·rintro _ _;(conv=>whnf);cases h;exact rfl
theorem sv{N:Nat}(hN:N≤1073741824){l1:List (List UInt8)}{r:(List (List UInt8))}(h:iw N l1=some r) :
    ACalls Tryz.prog 11 [.d (.list 1 (List.map D.str l1))] [] fun e os=>∃hd,e=.ret (.sl 0 hd)∧os=[(0,.arr hd 9 1 false (List.map D.str r))]:=by
  refine gk al ap ⟨[],[],[],[],[],0,[]⟩ Tryz.func11 rfl Tryz.call11 rfl ?_
  unfold iw at h
  repeat' ((conv=>whnf)<;>first|refine u (k:=?_)|exact v|refine aap D.str [] _ hN rfl rfl ‹_› (by decide) ?_|intro _|refine Br.mk (fun _=>?_) fun _=>?_|(refine hs h ?_;intro _ _ h)|fail)
theorem rm{N:Nat}(hN:N≤1073741824){lines1:List (List UInt8)}{r:Bool}(h:gz N lines1=some r) :
    ACalls Tryz.prog 37 [.d (.list 1 (List.map D.str lines1))] [] fun e os=>e=.ret (.d (.bool r))∧os=[]:=by
  refine ah (fresh:=false) al ap ⟨[],[],[],[],[1001],0,[]⟩ Tryz.func37 rfl Tryz.call37 rfl ?_
  unfold gz at h
  repeat' ((conv=>whnf)<;>first|refine u (k:=?_)|exact v|refine st0 1001 (F:=C7 (fc N lines1)) r [0] (fun y=>[]) ?_ ?_|refine lp0 2 h [0] (fun y=>[(3,.d (I y.x))]) ?_ ?_|(rw[bf]at h;delta w64 at h)|unfold fc at h|intro _|refine Br.mk (fun _=>?_) fun _=>?_|refine TyG.mk fun _ h=>?_|(refine hs h ?_;intro _ _ h)|fail)
theorem FP{N:Nat}(hN:N≤1073741824){lines1:List (List UInt8)}{r:Int}(h:Dg N lines1=some r) :
    ACalls Tryz.prog 12 [.d (.list 1 (List.map D.str lines1))] [] fun e os=>e=.ret (.d (I r))∧os=[]:=by
  refine ah (fresh:=false) al ap ⟨[],[],[],[],[],0,[]⟩ Tryz.func12 rfl Tryz.call12 rfl ?_
  unfold Dg at h
  repeat' ((conv=>whnf)<;>first|refine u (k:=?_)|exact v|refine cp (rm hN am) ?_|intro _|refine Br.mk (fun _=>?_) fun _=>?_|(refine hs h ?_;intro _ _ h)|fail)
theorem Gq{N:Nat}(hN:N≤1073741824){s1:DeskState}{r:Bool}(h:DW N s1=some r) :
    ACalls Tryz.prog 13 [.d (.agg [.list 1 (List.map I s1.fBowlers),.list 2 (List.map DeskLane.enc s1.fLanes),.list 1 (List.map eL s1.fKept),.list 6 (List.map RateSheet.enc s1.fSheets),.list 1 (List.map I s1.fWithdrawn),.list 3 (List.map LadderResult.enc s1.fResults)])] [] fun e os=>e=.ret (.d (.bool r))∧os=[]:=by
  refine ah (fresh:=false) al ap ⟨[1],[],[],[],[],0,[]⟩ Tryz.func13 rfl Tryz.call13 rfl ?_
  unfold DW at h
  delta w64 at h
  repeat' ((conv=>whnf)<;>first|refine u (k:=?_)|exact v|intro _|refine Br.mk (fun _=>?_) fun _=>?_|(refine hs h ?_;intro _ _ h)|fail)
theorem FQ{N:Nat}(hN:N≤1073741824) {r:Ref12State}(h:DJ N=some r) :
    ACalls Tryz.prog 38 [] [] fun e os=>e=.ret (.d (.agg [.list 1 (List.map I r.fBowlers),I r.fLanes.a0.fBowler,.list 1 (List.map I r.fLanes.a0.fBalls),I r.fLanes.a1.fBowler,.list 1 (List.map I r.fLanes.a1.fBalls),I r.fLanes.a2.fBowler,.list 1 (List.map I r.fLanes.a2.fBalls),I r.fLanes.a3.fBowler,.list 1 (List.map I r.fLanes.a3.fBalls),.list 1 (List.map eL r.fKept),.list 6 (List.map Ref07Sheet.enc r.fSheets),.list 1 (List.map I r.fWithdrawn),.list 3 (List.map Ref09Result.enc r.fResults)]))∧os=[]:=by
  refine ah (fresh:=false) al ap ⟨[],[],[],[],[],0,[]⟩ Tryz.func38 rfl Tryz.call38 rfl ?_
  unfold DJ at h
  repeat' ((conv=>whnf)<;>first|refine u (k:=?_)|exact v|refine IxG.mk 3 rfl (by decide) ?_|refine lun 3 5 ?_|intro _|refine Br.mk (fun _=>?_) fun _=>?_|(refine hs h ?_;intro _ _ h)|fail)
theorem Fp{N:Nat}(hN:N≤1073741824){s1:List UInt8}{r:Int×Bool}(h:yW N s1=some r) :
    ACalls Tryz.prog 111 [.d (.str s1)] [] fun e os=>e=.ret (.d (.tup [I r.1,.bool r.2]))∧os=[]:=by
  refine ah (fresh:=false) al ap ⟨[],[],[],[],[2,4,9,1002,1007,1012],0,[]⟩ Tryz.func111 rfl Tryz.call111 rfl ?_
  unfold yW at h
  obtain⟨⟨less2,at2⟩,hx4,h⟩:=obind h;(conv=>whnf);refine SeqG.mk Unit (fun y=>[(0,.d (.str s1)),(4,.d (.bool less2)),(5,.d (I at2))]) (fun y=>[]) (fun _=>True) ?_ ?_
  ·obtain⟨v4,hx6,hx4⟩:=obind hx4;(conv=>whnf);refine SeqG.mk Unit (fun y=>[(0,.d (.str s1)),(4,.b false),(5,.i .i64 0),(14,.d (.bool v4))]) (fun y=>[]) (fun _=>True) ?_ ?_
   ·refine wB (fun hc5=>?_) (fun hc5=>?_)
    ·replace hx6:=ite_t hc5 hx6;obtain⟨c4,hx7,hx6⟩:=obind hx6;(conv=>whnf);refine ByG.mk c4 (idx_0 hx7) (idx_byte hx7) ?_;cases hx6;(conv=>whnf);exact⟨(),trivial,b9⟩
    ·replace hx6:=ite_f hc5 hx6;cases hx6;(conv=>whnf);exact⟨(),trivial,b9⟩
   ·rintro _ _;refine wB (fun hc6=>?_) (fun hc6=>?_)
    ·replace hx4:=ite_t hc6 hx4;cases hx4;(conv=>whnf);exact⟨(),trivial,b9⟩
    ·replace hx4:=ite_f hc6 hx4;cases hx4;(conv=>whnf);exact⟨(),trivial,b9⟩
  ·rintro _ _;obtain⟨v8,hx12,h⟩:=obind h;(conv=>whnf);refine SeqG.mk Unit (fun y=>[(0,.d (.str s1)),(4,.d (.bool less2)),(5,.d (I at2)),(36,.d (.bool v8))]) (fun y=>[]) (fun _=>True) ?_ ?_
   ·refine wB (fun hc17=>?_) (fun hc17=>?_)
    ·replace hx12:=ite_f hc17 hx12;refine wB (fun hc18=>?_) (fun hc18=>?_)
     ·replace hx12:=ite_f hc18 hx12;obtain⟨c8,hx13,hx12⟩:=obind hx12;(conv=>whnf);refine ByG.mk c8 (idx_0 hx13) (idx_byte hx13) ?_;refine wB (fun hc19=>?_) (fun hc19=>?_)
      ·replace hx12:=ite_t hc19 hx12;cases hx12;(conv=>whnf);exact⟨(),trivial,b9⟩
      ·replace hx12:=ite_f hc19 hx12;cases hx12;(conv=>whnf);exact⟨(),trivial,b9⟩
     ·replace hx12:=ite_t hc18 hx12;cases hx12;(conv=>whnf);exact⟨(),trivial,b9⟩
    ·replace hx12:=ite_t hc17 hx12;cases hx12;(conv=>whnf);exact⟨(),trivial,b9⟩
   ·rintro _ _;refine wB (fun hc20=>?_) (fun hc20=>?_)
    ·replace h:=ite_t hc20 h;(conv=>whnf);cases h;exact rfl
    ·replace h:=ite_f hc20 h;(conv=>whnf);refine SeqG.mk Int (fun y=>[(4,.d (.bool less2)),(6,.d (I y))]) (fun y=>[]) (fun y=>CF N less2 y=some r) ?_ ?_
     ·(conv=>whnf);refine LoopG.mk (Nat×(Int×Int)) (fun y=>[(0,.d (.str s1)),(4,.d (.bool less2)),(5,.d (I y.2.1)),(6,.d (I y.2.2))]) (fun y=>[]) (fun y=>loopN (fun rr x=>kW N s1 less2 rr x.1 x.2) y.1 y.2=some r) (fun y=>y.1) (N,(at2,0)) h (Sub.eq rfl ?_ ?_) ?_
      ·(repeat ((conv=>whnf);refine nr ?_));exact trivial
      ·exact trivial
      ·rintro⟨n13,⟨at10,n12⟩⟩ hl2;obtain⟨n13,rfl,hl2⟩:=loopN_some hl2;replace hl2:kW N s1 less2 (loopN (fun rr x=>kW N s1 less2 rr x.1 x.2) n13) at10 n12=some r:=hl2;rw[kW]at hl2;(conv=>whnf);refine SeqG.mk Unit (fun y=>[(0,.d (.str s1)),(4,.d (.bool less2)),(5,.d (I at10)),(6,.d (I n12))]) (fun y=>[]) (fun y=>Cm N s1 at10 n12 (loopN (fun rr x=>kW N s1 less2 rr x.1 x.2) n13)=some r) ?_ ?_
       ·refine wB (fun hc106=>?_) (fun hc106=>?_)
        ·replace hl2:=ite_t hc106 hl2;(conv=>whnf);exact⟨(),hl2,b9⟩
        ·replace hl2:=ite_f hc106 hl2;(conv=>whnf);exact⟨n12,hl2,b9⟩
       ·rintro _ h;unfold Cm at h;obtain⟨v56,hx96,h⟩:=obind h;(conv=>whnf);refine SeqG.mk Unit (fun y=>[(0,.d (.str s1)),(4,.d (.bool less2)),(5,.d (I at10)),(6,.d (I n12)),(52,.d (.bool v56))]) (fun y=>[]) (fun _=>True) ?_ ?_
        ·obtain⟨c67,hx97,hx96⟩:=obind hx96;(conv=>whnf);refine ByG.mk c67 (idx_0 hx97) (idx_byte hx97) ?_;refine wB (fun hc104=>?_) (fun hc104=>?_)
         ·replace hx96:=ite_f hc104 hx96;(conv=>whnf);refine ByG.mk c67 (idx_0 hx97) (idx_byte hx97) ?_;cases hx96;(conv=>whnf);exact⟨(),trivial,b9⟩
         ·replace hx96:=ite_t hc104 hx96;cases hx96;(conv=>whnf);exact⟨(),trivial,b9⟩
        ·rintro _ _;refine wB (fun hc105=>?_) (fun hc105=>?_)
         ·replace h:=ite_t hc105 h;(conv=>whnf);cases h;exact rfl
         ·replace h:=ite_f hc105 h;obtain⟨c68,hx98,h⟩:=obind h;(conv=>whnf);refine ByG.mk c68 (idx_0 hx98) (idx_byte hx98) ?_;(conv=>whnf);exact⟨(n13,(w64 (at10+1),w64 ((w64 (10*n12))+(w64 (Go.IntKind.wrap .u8 ((c68.toNat:Int)-48)))))),h,b9,Nat.lt_succ_self _⟩
     ·clear h;rintro n6 h;unfold CF at h;obtain⟨n8,hx56,h⟩:=obind h;(conv=>whnf);refine SeqG.mk Unit (fun y=>[(6,.d (I n8))]) (fun y=>[]) (fun _=>True) ?_ ?_
      ·refine wB (fun hc64=>?_) (fun hc64=>?_)
       ·replace hx56:=ite_t hc64 hx56;cases hx56;(conv=>whnf);exact⟨(),trivial,b9⟩
       ·replace hx56:=ite_f hc64 hx56;cases hx56;(conv=>whnf);exact⟨(),trivial,b9⟩
      ·rintro _ _;(conv=>whnf);cases h;exact rfl
theorem FS{N:Nat}(hN:N≤1073741824){line1:List UInt8}{r:(List UInt8)×(List Int)×Bool}(h:Cz N line1=some r) :
    ACalls Tryz.prog 65 [.d (.str line1)] [] fun e os=>e=.ret (.d (.tup [.str r.1,.list 1 (List.map I r.2.1),.bool r.2.2]))∧os=[]:=by
  refine ah (fresh:=false) al ap ⟨[],[],[],[],[6,1003,1006,1010,1011,1018,1025],0,[]⟩ Tryz.func65 rfl Tryz.call65 rfl ?_
  unfold Cz at h
  obtain⟨l23,hx46,h⟩:=obind h;(conv=>whnf);refine SeqG.mk Value (fun y=>[(5,.sl 35 y)]) (fun y=>[(35,.arr y 9 1 false (List.map D.str l23))]) (fun _=>True) ?_ ?_
  ·(conv=>whnf);refine LoopG.mk (Nat×(Int×Int×(List (List UInt8)))×Value) (fun y=>[(0,.d (.str line1)),(5,.sl 35 y.2.2),(6,.d (I y.2.1.1)),(7,.d (I y.2.1.2.1))]) (fun y=>[(35,.arr y.2.2 9 1 false (List.map D.str y.2.1.2.2))]) (fun y=>loopN (fun rr x=>y7 N line1 rr x.1 x.2.1 x.2.2) y.1 y.2.1=some l23) (fun y=>y.1) (N,(0,0,[]),(.slice none 0 0)) hx46 (Sub.eq rfl ?_ ?_) ?_
   ·(repeat ((conv=>whnf);refine nr ?_));exact trivial
   ·(conv=>whnf);refine Need.mk (OLe.nil _ _ _ _) ?_;exact trivial
   ·rintro⟨n2,⟨from18,i8,l39⟩,hd59⟩ hl2;obtain⟨n2,rfl,hl2⟩:=loopN_some hl2;replace hl2:y7 N line1 (loopN (fun rr x=>y7 N line1 rr x.1 x.2.1 x.2.2) n2) from18 i8 l39=some l23:=hl2;rw[y7]at hl2;refine wB (fun hc42=>?_) (fun hc42=>?_)
    ·replace hl2:=ite_t hc42 hl2;obtain⟨⟨from20,l43⟩,hx84,hl2⟩:=obind hl2;(conv=>whnf);refine SeqG.mk Value (fun y=>[(0,.d (.str line1)),(5,.sl 35 y),(6,.d (I from20)),(7,.d (I i8))]) (fun y=>[(35,.arr y 9 1 false (List.map D.str l43))]) (fun _=>True) ?_ ?_
     ·obtain⟨v24,hx86,hx84⟩:=obind hx84;(conv=>whnf);refine SeqG.mk Unit (fun y=>[(0,.d (.str line1)),(5,.sl 35 hd59),(6,.d (I from18)),(7,.d (I i8)),(28,.d (.bool v24))]) (fun y=>[(35,.arr hd59 9 1 false (List.map D.str l39))]) (fun _=>True) ?_ ?_
      ·refine wB (fun hc47=>?_) (fun hc47=>?_)
       ·replace hx86:=ite_f hc47 hx86;obtain⟨c24,hx87,hx86⟩:=obind hx86;(conv=>whnf);refine ByG.mk c24 (idx_0 hx87) (idx_byte hx87) ?_;cases hx86;(conv=>whnf);refine⟨(),trivial,Sub.eq rfl ?_ ?_⟩
        ·(repeat ((conv=>whnf);refine nr ?_));exact trivial
        ·(conv=>whnf);refine no ?_;exact trivial
       ·replace hx86:=ite_t hc47 hx86;cases hx86;(conv=>whnf);refine⟨(),trivial,Sub.eq rfl ?_ ?_⟩
        ·(repeat ((conv=>whnf);refine nr ?_));exact trivial
        ·(conv=>whnf);refine no ?_;exact trivial
      ·rintro _ _;refine wB (fun hc48=>?_) (fun hc48=>?_)
       ·replace hx84:=ite_t hc48 hx84;obtain⟨_,hx90,hx84⟩:=obind hx84;(conv=>whnf);refine Need.mk (Hk hx90) ?_;(conv=>whnf);intro hd68;obtain⟨l45,hx91,hx84⟩:=obind hx84;(conv=>whnf);refine Side.mk ⟨rfl,rfl⟩ ?_;(conv=>whnf);refine Side.mk ⟨rfl,rfl,rfl⟩ (Need.mk (app_need hN hx91 (by decide)) (Eqv.mk (List.map D.str l45) (app_map _ hx91) ?_));(conv=>whnf);intro hd69;cases hx84;(conv=>whnf);refine⟨hd69,trivial,Sub.eq rfl ?_ ?_⟩
        ·(repeat ((conv=>whnf);refine nr ?_));exact trivial
        ·(conv=>whnf);refine no ?_;exact trivial
       ·replace hx84:=ite_f hc48 hx84;cases hx84;(conv=>whnf);refine⟨hd59,trivial,Sub.eq rfl ?_ ?_⟩
        ·(repeat ((conv=>whnf);refine nr ?_));exact trivial
        ·(conv=>whnf);refine no ?_;exact trivial
     ·rintro hd65 _;(conv=>whnf);refine⟨(n2,(from20,w64 (i8+1),l43),hd65),hl2,Sub.eq rfl ?_ ?_,Nat.lt_succ_self _⟩
      ·(repeat ((conv=>whnf);refine nr ?_));exact trivial
      ·(conv=>whnf);refine no ?_;exact trivial
    ·replace hl2:=ite_f hc42 hl2;cases hl2;(conv=>whnf);refine⟨hd59,trivial,Sub.eq rfl ?_ ?_⟩
     ·(repeat ((conv=>whnf);refine nr ?_));exact trivial
     ·(conv=>whnf);refine no ?_;exact trivial
  ·rintro hd35 _;obtain⟨many2,hx96,h⟩:=obind h;(conv=>whnf);refine SeqG.mk Unit (fun y=>[(5,.sl 35 hd35),(8,.d (I many2))]) (fun y=>[(35,.arr hd35 9 1 false (List.map D.str l23))]) (fun _=>True) ?_ ?_
   ·obtain⟨x4,hx98,hx96⟩:=obind hx96;(conv=>whnf);refine Side.mk ⟨rfl,rfl⟩ (Need.mk (idx_need _ hx98) ?_);(conv=>whnf);refine Side.mk ⟨rfl,rfl⟩ ⟨_,Int.natCast_nonneg _,idx_el _ hx98,?_⟩;obtain⟨v30,hx99,hx96⟩:=obind hx96;(conv=>whnf);refine SeqG.mk Unit (fun y=>[(5,.sl 35 hd35),(8,.i .i64 (-1)),(40,.d (.str x4)),(41,.d (.bool v30))]) (fun y=>[(35,.arr hd35 9 1 false (List.map D.str l23))]) (fun _=>True) ?_ ?_
    ·refine wB (fun hc70=>?_) (fun hc70=>?_)
     ·replace hx99:=ite_t hc70 hx99;cases hx99;(conv=>whnf);refine⟨(),trivial,Sub.eq rfl ?_ ?_⟩
      ·(repeat ((conv=>whnf);refine nr ?_));exact trivial
      ·(conv=>whnf);refine no ?_;exact trivial
     ·replace hx99:=ite_f hc70 hx99;refine wB (fun hc71=>?_) (fun hc71=>?_)
      ·replace hx99:=ite_t hc71 hx99;cases hx99;(conv=>whnf);refine⟨(),trivial,Sub.eq rfl ?_ ?_⟩
       ·(repeat ((conv=>whnf);refine nr ?_));exact trivial
       ·(conv=>whnf);refine no ?_;exact trivial
      ·replace hx99:=ite_f hc71 hx99;refine wB (fun hc72=>?_) (fun hc72=>?_)
       ·replace hx99:=ite_t hc72 hx99;cases hx99;(conv=>whnf);refine⟨(),trivial,Sub.eq rfl ?_ ?_⟩
        ·(repeat ((conv=>whnf);refine nr ?_));exact trivial
        ·(conv=>whnf);refine no ?_;exact trivial
       ·replace hx99:=ite_f hc72 hx99;refine wB (fun hc73=>?_) (fun hc73=>?_)
        ·replace hx99:=ite_t hc73 hx99;cases hx99;(conv=>whnf);refine⟨(),trivial,Sub.eq rfl ?_ ?_⟩
         ·(repeat ((conv=>whnf);refine nr ?_));exact trivial
         ·(conv=>whnf);refine no ?_;exact trivial
        ·replace hx99:=ite_f hc73 hx99;refine wB (fun hc74=>?_) (fun hc74=>?_)
         ·replace hx99:=ite_t hc74 hx99;cases hx99;(conv=>whnf);refine⟨(),trivial,Sub.eq rfl ?_ ?_⟩
          ·(repeat ((conv=>whnf);refine nr ?_));exact trivial
          ·(conv=>whnf);refine no ?_;exact trivial
         ·replace hx99:=ite_f hc74 hx99;cases hx99;(conv=>whnf);refine⟨(),trivial,Sub.eq rfl ?_ ?_⟩
          ·(repeat ((conv=>whnf);refine nr ?_));exact trivial
          ·(conv=>whnf);refine no ?_;exact trivial
    ·rintro _ _;refine wB (fun hc75=>?_) (fun hc75=>?_)
     ·replace hx96:=ite_t hc75 hx96;cases hx96;(conv=>whnf);refine⟨(),trivial,Sub.eq rfl ?_ ?_⟩
      ·(repeat ((conv=>whnf);refine nr ?_));exact trivial
      ·(conv=>whnf);refine no ?_;exact trivial
     ·replace hx96:=ite_f hc75 hx96;obtain⟨v32,hx100,hx96⟩:=obind hx96;(conv=>whnf);refine SeqG.mk Unit (fun y=>[(5,.sl 35 hd35),(8,.i .i64 (-1)),(48,.d (.bool v32))]) (fun y=>[(35,.arr hd35 9 1 false (List.map D.str l23))]) (fun _=>True) ?_ ?_
      ·refine wB (fun hc78=>?_) (fun hc78=>?_)
       ·replace hx100:=ite_t hc78 hx100;cases hx100;(conv=>whnf);refine⟨(),trivial,Sub.eq rfl ?_ ?_⟩
        ·(repeat ((conv=>whnf);refine nr ?_));exact trivial
        ·(conv=>whnf);refine no ?_;exact trivial
       ·replace hx100:=ite_f hc78 hx100;refine wB (fun hc79=>?_) (fun hc79=>?_)
        ·replace hx100:=ite_t hc79 hx100;cases hx100;(conv=>whnf);refine⟨(),trivial,Sub.eq rfl ?_ ?_⟩
         ·(repeat ((conv=>whnf);refine nr ?_));exact trivial
         ·(conv=>whnf);refine no ?_;exact trivial
        ·replace hx100:=ite_f hc79 hx100;cases hx100;(conv=>whnf);refine⟨(),trivial,Sub.eq rfl ?_ ?_⟩
         ·(repeat ((conv=>whnf);refine nr ?_));exact trivial
         ·(conv=>whnf);refine no ?_;exact trivial
      ·rintro _ _;refine wB (fun hc80=>?_) (fun hc80=>?_)
       ·replace hx96:=ite_t hc80 hx96;cases hx96;(conv=>whnf);refine⟨(),trivial,Sub.eq rfl ?_ ?_⟩
        ·(repeat ((conv=>whnf);refine nr ?_));exact trivial
        ·(conv=>whnf);refine no ?_;exact trivial
       ·replace hx96:=ite_f hc80 hx96;cases hx96;(conv=>whnf);refine⟨(),trivial,Sub.eq rfl ?_ ?_⟩
        ·(repeat ((conv=>whnf);refine nr ?_));exact trivial
        ·(conv=>whnf);refine no ?_;exact trivial
   ·rintro _ _;(conv=>whnf);refine Side.mk rfl (LnA.mk _ (List.length_map _) ?_);refine wB (fun hc82=>?_) (fun hc82=>?_)
    ·replace h:=ite_t hc82 h;(conv=>whnf);cases h;exact rfl
    ·replace h:=ite_f hc82 h;(conv=>whnf);refine SeqG.mk ((List Int)×Value) (fun y=>[(5,.sl 35 hd35),(9,.sl 76 y.2)]) (fun y=>[(35,.arr hd35 9 1 false (List.map D.str l23)),(76,.arr y.2 3 1 false (List.map I y.1))]) (fun y=>CW N l23 y.1=some r) ?_ ?_
     ·(conv=>whnf);refine LoopG.mk (Nat×(Int×(List Int))×Value) (fun y=>[(5,.sl 35 hd35),(9,.sl 76 y.2.2),(10,.d (I y.2.1.1))]) (fun y=>[(35,.arr hd35 9 1 false (List.map D.str l23)),(76,.arr y.2.2 3 1 false (List.map I y.2.1.2))]) (fun y=>loopN (fun rr x=>xT N l23 rr x.1 x.2) y.1 y.2.1=some r) (fun y=>y.1) (N,(1,[]),(.slice none 0 0)) h (Sub.eq rfl ?_ ?_) ?_
      ·(repeat ((conv=>whnf);refine nr ?_));exact trivial
      ·(conv=>whnf);refine no ?_;(conv=>whnf);refine Need.mk (OLe.nil _ _ _ _) ?_;exact trivial
      ·rintro⟨n4,⟨i16,l64⟩,hd98⟩ hl4;obtain⟨n4,rfl,hl4⟩:=loopN_some hl4;replace hl4:xT N l23 (loopN (fun rr x=>xT N l23 rr x.1 x.2) n4) i16 l64=some r:=hl4;rw[xT]at hl4;(conv=>whnf);refine Side.mk rfl (LnA.mk _ (List.length_map _) ?_);refine wB (fun hc114=>?_) (fun hc114=>?_)
       ·replace hl4:=ite_t hc114 hl4;obtain⟨x30,hx160,hl4⟩:=obind hl4;(conv=>whnf);refine Side.mk ⟨rfl,rfl⟩ (Need.mk (idx_need _ hx160) ?_);(conv=>whnf);refine Side.mk ⟨rfl,rfl⟩ ⟨_,Int.natCast_nonneg _,idx_el _ hx160,?_⟩;obtain⟨⟨ra24,rb24⟩,hx161,hl4⟩:=obind hl4;(conv=>whnf);refine CallG.pure _ (Fp hN hx161) ?_;refine wB (fun hc118=>?_) (fun hc118=>?_)
        ·replace hl4:=ite_t hc118 hl4;(conv=>whnf);cases hl4;exact rfl
        ·replace hl4:=ite_f hc118 hl4;(conv=>whnf);intro hd101;obtain⟨l66,hx162,hl4⟩:=obind hl4;(conv=>whnf);refine Side.mk ⟨rfl,rfl⟩ ?_;(conv=>whnf);refine Side.mk ⟨rfl,rfl,rfl⟩ (Need.mk (app_need hN hx162 (by decide)) (Eqv.mk (List.map I l66) (app_map _ hx162) ?_));(conv=>whnf);intro hd102;(conv=>whnf);exact⟨(n4,(w64 (i16+1),l66),hd102),hl4,b9,Nat.lt_succ_self _⟩
       ·replace hl4:=ite_f hc114 hl4;(conv=>whnf);exact⟨(l64,hd98),hl4,b9⟩
     ·clear h;rintro⟨l56,hd86⟩ h;unfold CW at h;obtain⟨x18,hx132,h⟩:=obind h;(conv=>whnf);refine Side.mk ⟨rfl,rfl⟩ (Need.mk (idx_need _ hx132) ?_);(conv=>whnf);refine Side.mk ⟨rfl,rfl⟩ ⟨_,Int.natCast_nonneg _,idx_el _ hx132,?_⟩;refine ws ?_;(conv=>whnf);cases h;exact rfl
theorem Dn{N:Nat}(hN:N≤1073741824){n1:Int}{low1:Int}{high1:Int}{r:Bool}(h:Bw N n1 low1 high1=some r) :
    ACalls Tryz.prog 17 [.d (I n1),.d (I low1),.d (I high1)] [] fun e os=>e=.ret (.d (.bool r))∧os=[]:=by
  refine ah (fresh:=false) al ap ⟨[],[],[],[],[1],0,[]⟩ Tryz.func17 rfl Tryz.call17 rfl ?_
  unfold Bw at h
  repeat' ((conv=>whnf)<;>first|refine u (k:=?_)|exact v|refine sq0 1 h [] (fun x=>[(6,.d (.bool x))]) ?_ ?_|intro _|refine Br.mk (fun _=>?_) fun _=>?_|refine TyG.mk fun _ h=>?_|(refine hs h ?_;intro _ _ h)|fail)
theorem Fq{N:Nat}(hN:N≤1073741824){s1:Ref12State}{average1:Int}{r:Ref12State×Int}(h:CZ N s1 average1=some r) :
    ACalls Tryz.prog 66 [.d (.agg [.list 1 (List.map I s1.fBowlers),I s1.fLanes.a0.fBowler,.list 1 (List.map I s1.fLanes.a0.fBalls),I s1.fLanes.a1.fBowler,.list 1 (List.map I s1.fLanes.a1.fBalls),I s1.fLanes.a2.fBowler,.list 1 (List.map I s1.fLanes.a2.fBalls),I s1.fLanes.a3.fBowler,.list 1 (List.map I s1.fLanes.a3.fBalls),.list 1 (List.map eL s1.fKept),.list 6 (List.map Ref07Sheet.enc s1.fSheets),.list 1 (List.map I s1.fWithdrawn),.list 3 (List.map Ref09Result.enc s1.fResults)]),.d (I average1)] [] fun e os=>e=.ret (.d (.tup [.agg [.list 1 (List.map I r.1.fBowlers),I r.1.fLanes.a0.fBowler,.list 1 (List.map I r.1.fLanes.a0.fBalls),I r.1.fLanes.a1.fBowler,.list 1 (List.map I r.1.fLanes.a1.fBalls),I r.1.fLanes.a2.fBowler,.list 1 (List.map I r.1.fLanes.a2.fBalls),I r.1.fLanes.a3.fBowler,.list 1 (List.map I r.1.fLanes.a3.fBalls),.list 1 (List.map eL r.1.fKept),.list 6 (List.map Ref07Sheet.enc r.1.fSheets),.list 1 (List.map I r.1.fWithdrawn),.list 3 (List.map Ref09Result.enc r.1.fResults)],I r.2]))∧os=[]:=by
  refine ah (fresh:=false) al ap ⟨[],[],[],[],[],0,[]⟩ Tryz.func66 rfl Tryz.call66 rfl ?_
  unfold CZ at h
  repeat' ((conv=>whnf)<;>first|refine u (k:=?_)|exact v|refine aap I [] _ hN rfl rfl ‹_› (by decide) ?_|refine aap eL [] _ hN rfl rfl ‹_› (by decide) ?_|refine aap eL _ [[]] hN rfl rfl ‹_› (by decide) ?_|refine cp (Dn hN am) ?_|intro _|refine Br.mk (fun _=>?_) fun _=>?_|(refine hs h ?_;intro _ _ h)|fail)
theorem Gr{N:Nat}(hN:N≤1073741824){s1:Ref12State}{lane1:Int}{bowler1:Int}{r:Ref12State×Int}(h:Du N s1 lane1 bowler1=some r) :
    ACalls Tryz.prog 67 [.d (.agg [.list 1 (List.map I s1.fBowlers),I s1.fLanes.a0.fBowler,.list 1 (List.map I s1.fLanes.a0.fBalls),I s1.fLanes.a1.fBowler,.list 1 (List.map I s1.fLanes.a1.fBalls),I s1.fLanes.a2.fBowler,.list 1 (List.map I s1.fLanes.a2.fBalls),I s1.fLanes.a3.fBowler,.list 1 (List.map I s1.fLanes.a3.fBalls),.list 1 (List.map eL s1.fKept),.list 6 (List.map Ref07Sheet.enc s1.fSheets),.list 1 (List.map I s1.fWithdrawn),.list 3 (List.map Ref09Result.enc s1.fResults)]),.d (I lane1),.d (I bowler1)] [] fun e os=>e=.ret (.d (.tup [.agg [.list 1 (List.map I r.1.fBowlers),I r.1.fLanes.a0.fBowler,.list 1 (List.map I r.1.fLanes.a0.fBalls),I r.1.fLanes.a1.fBowler,.list 1 (List.map I r.1.fLanes.a1.fBalls),I r.1.fLanes.a2.fBowler,.list 1 (List.map I r.1.fLanes.a2.fBalls),I r.1.fLanes.a3.fBowler,.list 1 (List.map I r.1.fLanes.a3.fBalls),.list 1 (List.map eL r.1.fKept),.list 6 (List.map Ref07Sheet.enc r.1.fSheets),.list 1 (List.map I r.1.fWithdrawn),.list 3 (List.map Ref09Result.enc r.1.fResults)],I r.2]))∧os=[]:=by
  refine ah (fresh:=false) al ap ⟨[],[],[],[],[1,6,8],0,[]⟩ Tryz.func67 rfl Tryz.call67 rfl ?_
  unfold Du at h
  delta w64 at h
  repeat' ((conv=>whnf)<;>first|refine u (k:=?_)|exact v|refine IxG.mk 3 rfl (by decide) ?_|(refine itx h (fun hc h=>?_) fun hc h=>?_)|refine sq 1 h [1,2,3,6] [3,6] [] [] () (fun p x y=>[(20,.d (.bool x))]) (fun p x y=>[]) ?_ ?_|refine cp (Dn hN am) ?_|refine lun 4 5 ?_|refine sq 6 h [1,2,3,6,8] [3,6] [] [] () (fun p x y=>[(45,.d (.bool x))]) (fun p x y=>[]) ?_ ?_|apply sq 8 h [3,6] [6] [] [] (_:Nat) (fun p x y=>[]) (fun p x y=>[(3,.cells p [.d (.list 1 (List.map I s1.fBowlers)),.d (I x.1),.d (.list 1 (List.map I x.2.1)),.d (I x.2.2.1),.d (.list 1 (List.map I x.2.2.2.1)),.d (I x.2.2.2.2.1),.d (.list 1 (List.map I x.2.2.2.2.2.1)),.d (I x.2.2.2.2.2.2.1),.d (.list 1 (List.map I x.2.2.2.2.2.2.2)),.d (.list 1 (List.map eL s1.fKept)),.d (.list 6 (List.map Ref07Sheet.enc s1.fSheets)),.d (.list 1 (List.map I s1.fWithdrawn)),.d (.list 3 (List.map Ref09Result.enc s1.fResults))])]) ?_ ?_|intro _|refine Br.mk (fun _=>?_) fun _=>?_|refine TyG.mk fun _ h=>?_|(refine hs h ?_;intro _ _ h)|fail)
theorem E8{N:Nat}(hN:N≤1073741824) {r:Ref01Law}(h:Dh N=some r) :
    ACalls Tryz.prog 19 [] [] fun e os=>e=.ret (.d (.agg [I r.fFrames,I r.fPins,I r.fBalls,I r.fTap]))∧os=[]:=by
  refine ah (fresh:=false) al ap ⟨[],[],[],[],[],0,[]⟩ Tryz.func19 rfl Tryz.call19 rfl ?_
  unfold Dh at h
  repeat' ((conv=>whnf)<;>first|refine u (k:=?_)|exact v|intro _|refine Br.mk (fun _=>?_) fun _=>?_|(refine hs h ?_;intro _ _ h)|fail)
theorem FT{N:Nat}(hN:N≤1073741824){l1:Ref01Law}{r:Ref01Stand}(h:DK N l1=some r) :
    ACalls Tryz.prog 89 [.d (.agg [I l1.fFrames,I l1.fPins,I l1.fBalls,I l1.fTap])] [] fun e os=>e=.ret (.d (.agg [I r.fFrame,I r.fThrown,I r.fStanding,.bool r.fSet,I r.fHas]))∧os=[]:=by
  refine ah (fresh:=false) al ap ⟨[1],[],[],[],[],0,[]⟩ Tryz.func89 rfl Tryz.call89 rfl ?_
  unfold DK at h
  repeat' ((conv=>whnf)<;>first|refine u (k:=?_)|exact v|intro _|refine Br.mk (fun _=>?_) fun _=>?_|(refine hs h ?_;intro _ _ h)|fail)
theorem Id{N:Nat}(hN:N≤1073741824){n1:Int}{low1:Int}{high1:Int}{r:Bool}(h:Ef N n1 low1 high1=some r) :
    ACalls Tryz.prog 128 [.d (I n1),.d (I low1),.d (I high1)] [] fun e os=>e=.ret (.d (.bool r))∧os=[]:=by
  refine ah (fresh:=false) al ap ⟨[],[],[],[],[1],0,[]⟩ Tryz.func128 rfl Tryz.call128 rfl ?_
  unfold Ef at h
  repeat' ((conv=>whnf)<;>first|refine u (k:=?_)|exact v|refine sq0 1 h [] (fun x=>[(6,.d (.bool x))]) ?_ ?_|intro _|refine Br.mk (fun _=>?_) fun _=>?_|refine TyG.mk fun _ h=>?_|(refine hs h ?_;intro _ _ h)|fail)
theorem Gs{N:Nat}(hN:N≤1073741824){l1:Ref01Law}{s1:Ref01Stand}{ball1:Int}{r:Bool}(h:Dv N l1 s1 ball1=some r) :
    ACalls Tryz.prog 90 [.d (.agg [I l1.fFrames,I l1.fPins,I l1.fBalls,I l1.fTap]),.d (.agg [I s1.fFrame,I s1.fThrown,I s1.fStanding,.bool s1.fSet,I s1.fHas]),.d (I ball1)] [] fun e os=>e=.ret (.d (.bool r))∧os=[]:=by
  refine ah (fresh:=false) al ap ⟨[3,4],[],[],[],[1],0,[]⟩ Tryz.func90 rfl Tryz.call90 rfl ?_
  unfold Dv at h
  repeat' ((conv=>whnf)<;>first|refine u (k:=?_)|exact v|refine sq0 1 h [] (fun x=>[(6,.d (.bool x))]) ?_ ?_|refine cp (Id hN am) ?_|intro _|refine Br.mk (fun _=>?_) fun _=>?_|refine TyG.mk fun _ h=>?_|(refine hs h ?_;intro _ _ h)|fail)
theorem FU{N:Nat}(hN:N≤1073741824){l1:Ref01Law}{s1:Ref01Stand}{ball1:Int}{r:Ref01Stand×Int}(h:Di N l1 s1 ball1=some r) :
    ACalls Tryz.prog 91 [.d (.agg [I l1.fFrames,I l1.fPins,I l1.fBalls,I l1.fTap]),.d (.agg [I s1.fFrame,I s1.fThrown,I s1.fStanding,.bool s1.fSet,I s1.fHas]),.d (I ball1)] [] fun e os=>e=.ret (.d (.tup [.agg [I r.1.fFrame,I r.1.fThrown,I r.1.fStanding,.bool r.1.fSet,I r.1.fHas],I r.2]))∧os=[]:=by
  refine ah (fresh:=false) al ap ⟨[3,4],[],[],[],[4,11,14,1002,1004,1011,1014,1018],0,[]⟩ Tryz.func91 rfl Tryz.call91 rfl ?_
  unfold Di at h
  delta w64 at h
  repeat' ((conv=>whnf)<;>first|refine u (k:=?_)|exact v|refine sq 1002 h [3,4,6] [6] [] [] () (fun p x y=>[(8,.d (I x))]) (fun p x y=>[]) ?_ ?_|refine sq 1004 h [3,4,6] [6] [] [] () (fun p x y=>[(8,.d (I x))]) (fun p x y=>[]) ?_ ?_|refine sq 4 h [3,4,6,8] [6] [] [] () (fun p x y=>[(20,.d (.bool x))]) (fun p x y=>[]) ?_ ?_|apply sq 1011 h [6,8,9] [6] [] [] (_:Nat) (fun p x y=>[]) (fun p x y=>[(9,.cells p [.d (I x.fFrame),.d (I x.fThrown),.d (I x.fStanding),.d (.bool x.fSet),.d (I x.fHas)])]) ?_ ?_|apply sq 11 h [3,4,6,8,9] [6] [] [] (_:Nat) (fun p x y=>[(49,.d (.bool x.1))]) (fun p x y=>[(9,.cells p [.d (I x.2.fFrame),.d (I x.2.fThrown),.d (I x.2.fStanding),.d (.bool x.2.fSet),.d (I x.2.fHas)])]) ?_ ?_|apply sq 1014 h [3,6,8,9] [6] [] [] (_:Nat) (fun p x y=>[]) (fun p x y=>[(9,.cells p [.d (I x.fFrame),.d (I x.fThrown),.d (I x.fStanding),.d (.bool x.fSet),.d (I x.fHas)])]) ?_ ?_|apply sq 14 h [3,6,8,9] [6] [] [] (_:Nat) (fun p x y=>[(67,.d (.bool x.1))]) (fun p x y=>[(9,.cells p [.d (I x.2.fFrame),.d (I x.2.fThrown),.d (I x.2.fStanding),.d (.bool x.2.fSet),.d (I x.2.fHas)])]) ?_ ?_|apply sq 1018 h [6,8,9] [6] [] [] (_:Nat) (fun p x y=>[]) (fun p x y=>[(9,.cells p [.d (I x.fFrame),.d (I x.fThrown),.d (I x.fStanding),.d (.bool x.fSet),.d (I x.fHas)])]) ?_ ?_|intro _|refine Br.mk (fun _=>?_) fun _=>?_|refine TyG.mk fun _ h=>?_|(refine hs h ?_;intro _ _ h)|fail)
theorem Ed{N:Nat}(hN:N≤1073741824){l1:Ref01Law}{sheet1:List Int}{r:Ref01Stand×(List Ref01Ball)}(h:Ct N l1 sheet1=some r) :
    ACalls Tryz.prog 44 [.d (.agg [I l1.fFrames,I l1.fPins,I l1.fBalls,I l1.fTap]),.d (.list 1 (List.map I sheet1))] [] fun e os=>e=.ret (.d (.tup [.agg [I r.1.fFrame,I r.1.fThrown,I r.1.fStanding,.bool r.1.fSet,I r.1.fHas],.list 2 (List.map Ref01Ball.enc r.2)]))∧os=[]:=by
  refine ah (fresh:=false) al ap ⟨[2],[],[],[],[4,6,1003],0,[]⟩ Tryz.func44 rfl Tryz.call44 rfl ?_
  unfold Ct at h
  repeat' ((conv=>whnf)<;>first|refine u (k:=?_)|exact v|refine aap Ref01Ball.enc _ [(Ref01Ball.mk _ _)] hN rfl rfl ‹_› (by decide) ?_|refine Both.mk ?_ ?_|refine cp (FT hN am) ?_|apply sq 1003 h [4,6] [4] [.t 7] [] (_:Nat) (fun p x y=>[(7,.sl 44 (y.v 0))]) (fun p x y=>[(6,.cells p [.d (I x.1.fFrame),.d (I x.1.fThrown),.d (I x.1.fStanding),.d (.bool x.1.fSet),.d (I x.1.fHas)]),(44,.arr (y.v 0) 114 2 false (List.map Ref01Ball.enc x.2))]) ?_ ?_|apply lp 4 h [1,2,4,6] [4] [.t 7] [] (_:Nat) (fun p y=>[(7,.sl 44 (y.y.v 0)),(8,.d (I y.x.1))]) (fun p y=>[(6,.cells p [.d (I y.x.2.1.fFrame),.d (I y.x.2.1.fThrown),.d (I y.x.2.1.fStanding),.d (.bool y.x.2.1.fSet),.d (I y.x.2.1.fHas)]),(44,.arr (y.y.v 0) 114 2 false (List.map Ref01Ball.enc y.x.2.2))]) ?_ ?_|refine sq 4 h [1,2,4,6,7,8] [4,6,44] [] [] () (fun p x y=>[(25,.d (.bool x))]) (fun p x y=>[]) ?_ ?_|refine dr 0 13 (tkA 5 0 (.spl 17 (tkA 6 5 (.alt 11 [9,8,7,3,2,1,0] (.take 12 .done) .nil)))) rfl (by kernel_rfl) ?_|refine cp (Gs hN am) ?_|refine sq 6 h [1,2,4,6,7,8] [4,6,44] [] [.t 9] () (fun p x y=>[(9,.ptr 9 (y.b 0) 0),(10,.d (I x.1))]) (fun p x y=>[(9,.cells (y.b 0) [.d (I x.2.fFrame),.d (I x.2.fThrown),.d (I x.2.fStanding),.d (.bool x.2.fSet),.d (I x.2.fHas)])]) ?_ ?_|refine dr 0 29 (tkA 6 0 (.alt 6 [4,3,2] (tkA 3 7 (.alt 10 [9,8,7,4,3,2] (.alt 11 [9] (.take 12 .done) .nil) .nil)) (.alt 10 [5,4,3,2,1,0] (.alt 6 [4,3,2] (tkA 3 7 (.alt 11 [9] (.take 12 .done) .nil)) .nil) .nil))) rfl (by kernel_rfl) ?_|refine cp (FU hN am) ?_|(rw[CG]at h;delta w64 at h)|intro _|refine Br.mk (fun _=>?_) fun _=>?_|refine TyG.mk fun _ h=>?_|(refine hs h ?_;intro _ _ h)|fail)
theorem Ie{N:Nat}(hN:N≤1073741824){l1:Ref01Law}{sheet1:List Int}{r:Bool}(h:DX N l1 sheet1=some r) :
    ACalls Tryz.prog 112 [.d (.agg [I l1.fFrames,I l1.fPins,I l1.fBalls,I l1.fTap]),.d (.list 1 (List.map I sheet1))] [] fun e os=>e=.ret (.d (.bool r))∧os=[]:=by
  refine ah (fresh:=false) al ap ⟨[2],[],[],[],[],0,[]⟩ Tryz.func112 rfl Tryz.call112 rfl ?_
  unfold DX at h
  repeat' ((conv=>whnf)<;>first|refine u (k:=?_)|exact v|refine cp (Ed hN am) ?_|intro _|refine Br.mk (fun _=>?_) fun _=>?_|(refine hs h ?_;intro _ _ h)|fail)
theorem Gt{N:Nat}(hN:N≤1073741824){s1:Ref12State}{lane1:Int}{pins1:Int}{r:Ref12State×Int}(h:Dw N s1 lane1 pins1=some r) :
    ACalls Tryz.prog 68 [.d (.agg [.list 1 (List.map I s1.fBowlers),I s1.fLanes.a0.fBowler,.list 1 (List.map I s1.fLanes.a0.fBalls),I s1.fLanes.a1.fBowler,.list 1 (List.map I s1.fLanes.a1.fBalls),I s1.fLanes.a2.fBowler,.list 1 (List.map I s1.fLanes.a2.fBalls),I s1.fLanes.a3.fBowler,.list 1 (List.map I s1.fLanes.a3.fBalls),.list 1 (List.map eL s1.fKept),.list 6 (List.map Ref07Sheet.enc s1.fSheets),.list 1 (List.map I s1.fWithdrawn),.list 3 (List.map Ref09Result.enc s1.fResults)]),.d (I lane1),.d (I pins1)] [] fun e os=>e=.ret (.d (.tup [.agg [.list 1 (List.map I r.1.fBowlers),I r.1.fLanes.a0.fBowler,.list 1 (List.map I r.1.fLanes.a0.fBalls),I r.1.fLanes.a1.fBowler,.list 1 (List.map I r.1.fLanes.a1.fBalls),I r.1.fLanes.a2.fBowler,.list 1 (List.map I r.1.fLanes.a2.fBalls),I r.1.fLanes.a3.fBowler,.list 1 (List.map I r.1.fLanes.a3.fBalls),.list 1 (List.map eL r.1.fKept),.list 6 (List.map Ref07Sheet.enc r.1.fSheets),.list 1 (List.map I r.1.fWithdrawn),.list 3 (List.map Ref09Result.enc r.1.fResults)],I r.2]))∧os=[]:=by
  refine ah (fresh:=false) al ap ⟨[],[],[],[],[3,5],0,[]⟩ Tryz.func68 rfl Tryz.call68 rfl ?_
  unfold Dw at h
  repeat' ((conv=>whnf)<;>first|refine u (k:=?_)|exact v|(refine itx h (fun hc h=>?_) fun hc h=>?_)|refine aap I [] _ hN rfl rfl ‹_› (by decide) ?_|refine cp (Dn hN am) ?_|refine sq 3 h [1,2,3,6] [3,6] [] [] () (fun p x y=>[(18,.d (.bool x))]) (fun p x y=>[]) ?_ ?_|refine sq 5 h [1,3,6] [3,6] [.t 8] [] () (fun p x y=>[(8,.sl 20 (y.v 0))]) (fun p x y=>[(20,.arr (y.v 0) 3 1 false (List.map I x))]) ?_ ?_|refine cp (E8 hN am) ?_|refine cp (Ie hN am) ?_|intro _|refine Br.mk (fun _=>?_) fun _=>?_|refine TyG.mk fun _ h=>?_|(refine hs h ?_;intro _ _ h)|fail)
theorem Gu{N:Nat}(hN:N≤1073741824){s1:Ref12State}{lane1:Int}{r:Ref12State×Int}(h:Dx N s1 lane1=some r) :
    ACalls Tryz.prog 69 [.d (.agg [.list 1 (List.map I s1.fBowlers),I s1.fLanes.a0.fBowler,.list 1 (List.map I s1.fLanes.a0.fBalls),I s1.fLanes.a1.fBowler,.list 1 (List.map I s1.fLanes.a1.fBalls),I s1.fLanes.a2.fBowler,.list 1 (List.map I s1.fLanes.a2.fBalls),I s1.fLanes.a3.fBowler,.list 1 (List.map I s1.fLanes.a3.fBalls),.list 1 (List.map eL s1.fKept),.list 6 (List.map Ref07Sheet.enc s1.fSheets),.list 1 (List.map I s1.fWithdrawn),.list 3 (List.map Ref09Result.enc s1.fResults)]),.d (I lane1)] [] fun e os=>e=.ret (.d (.tup [.agg [.list 1 (List.map I r.1.fBowlers),I r.1.fLanes.a0.fBowler,.list 1 (List.map I r.1.fLanes.a0.fBalls),I r.1.fLanes.a1.fBowler,.list 1 (List.map I r.1.fLanes.a1.fBalls),I r.1.fLanes.a2.fBowler,.list 1 (List.map I r.1.fLanes.a2.fBalls),I r.1.fLanes.a3.fBowler,.list 1 (List.map I r.1.fLanes.a3.fBalls),.list 1 (List.map eL r.1.fKept),.list 6 (List.map Ref07Sheet.enc r.1.fSheets),.list 1 (List.map I r.1.fWithdrawn),.list 3 (List.map Ref09Result.enc r.1.fResults)],I r.2]))∧os=[]:=by
  refine ah (fresh:=false) al ap ⟨[],[],[],[],[3,4],0,[]⟩ Tryz.func69 rfl Tryz.call69 rfl ?_
  unfold Dx at h
  delta w64 at h
  repeat' ((conv=>whnf)<;>first|refine u (k:=?_)|exact v|(refine itx h (fun hc h=>?_) fun hc h=>?_)|refine aap I [] _ hN rfl rfl ‹_› (by decide) ?_|refine cp (Dn hN am) ?_|refine sq 3 h [1,2,4] [2,4] [] [] () (fun p x y=>[(6,.d (I x))]) (fun p x y=>[]) ?_ ?_|refine sq 4 h [1,2,4,6] [2,4] [] [] () (fun p x y=>[(26,.d (.bool x))]) (fun p x y=>[]) ?_ ?_|intro _|refine Br.mk (fun _=>?_) fun _=>?_|refine TyG.mk fun _ h=>?_|(refine hs h ?_;intro _ _ h)|fail)
theorem Fr{N:Nat}(hN:N≤1073741824){l1:Ref01Law}{sheet1:List Int}{r:(List Int)}(h:C0 N l1 sheet1=some r) :
    ACalls Tryz.prog 21 [.d (.agg [I l1.fFrames,I l1.fPins,I l1.fBalls,I l1.fTap]),.d (.list 1 (List.map I sheet1))] [] fun e os=>e=.ret (.d (.list 1 (List.map I r)))∧os=[]:=by
  refine ah (fresh:=false) al ap ⟨[2],[],[],[],[14,16,1004,1007,1008,1011,1014,1016,1020],0,[]⟩ Tryz.func21 rfl Tryz.call21 rfl ?_
  unfold C0 at h
  repeat' ((refine np ?_;conv=>whnf)<;>first|refine u (k:=?_)|exact v|refine cp (Ed hN am) ?_|refine st 1004 (F:=GR (CH N)) r [] [] [.t 7] [] () (fun p y=>[(7,.sl 110 (y.y.v 0))]) (fun p y=>[(110,.arr (y.y.v 0) 3 1 false (List.map I y.x))]) ?_ ?_|refine lp 5 h [2,5,6] [5] [.t 7] [] () (fun p y=>[(7,.sl 110 (y.y.v 0)),(8,.d (I y.x.1)),(9,.d (I y.x.2.1))]) (fun p y=>[(110,.arr (y.y.v 0) 3 1 false (List.map I y.x.2.2))]) ?_ ?_|apply st 1007 (F:=Jl (CJ N _ _)) r [2,5,6,9] [5] [.t 7] [] () (fun p y=>[(7,.sl 110 (y.y.v 0)),(8,.d (I y.x.1))]) (fun p y=>[(110,.arr (y.y.v 0) 3 1 false (List.map I y.x.2))]) ?_ ?_|refine sq 1008 h [2,5,6,7,8,9] [5,110] [] [] () (fun p x y=>[(10,.d (I x.1)),(11,.d (I x.2.1)),(12,.d (I x.2.2))]) (fun p x y=>[]) ?_ ?_|refine lp 9 h [2,5,6,7,8,9] [5,110] [] [] () (fun p y=>[(10,.d (I y.x.1)),(11,.d (I y.x.2.1)),(12,.d (I y.x.2.2.1)),(13,.d (I y.x.2.2.2))]) (fun p y=>[]) ?_ ?_|refine sq 1011 h [2,5,6,7,8,9,13] [5,110] [] [] () (fun p x y=>[(10,.d (I x.1)),(11,.d (I x.2.1)),(12,.d (I x.2.2))]) (fun p x y=>[]) ?_ ?_|refine sq 1014 h [2,5,6,7,8,9,10,11,12] [5,110] [] [] () (fun p x y=>[(14,.d (I x))]) (fun p x y=>[]) ?_ ?_|refine sq 14 h [2,5,6,7,8,9,10,11,12,14] [5,110] [] [] () (fun p x y=>[(65,.d (.bool x))]) (fun p x y=>[]) ?_ ?_|refine sq 1016 h [2,5,6,7,8,9,10,12] [5,110] [] [] () (fun p x y=>[(14,.d (I x))]) (fun p x y=>[]) ?_ ?_|refine sq 16 h [2,5,6,7,8,9,10,12,14] [5,110] [] [] () (fun p x y=>[(80,.d (.bool x))]) (fun p x y=>[]) ?_ ?_|refine sq 1020 h [2,5,6,7,8,9] [5,110] [] [] () (fun p x y=>[(10,.d (I x))]) (fun p x y=>[]) ?_ ?_|refine lp 21 h [2,5,6,7,8,9,12,14] [5,110] [] [] () (fun p y=>[(10,.d (I y.x.1)),(15,.d (I y.x.2))]) (fun p y=>[]) ?_ ?_|(rw[Cp]at h;delta w64 at h)|(rw[Cn]at h;delta w64 at h)|(rw[Co]at h;delta w64 at h)|(unfold CJ at h;delta w64 at h)|unfold CH at h|intro _|refine Br.mk (fun _=>?_) fun _=>?_|refine TyG.mk fun _ h=>?_|(refine hs h ?_;intro _ _ h)|fail)
theorem FV{N:Nat}(hN:N≤1073741824){l1:Ref01Law}{sheet1:List Int}{r:Int}(h:Cq N l1 sheet1=some r) :
    ACalls Tryz.prog 113 [.d (.agg [I l1.fFrames,I l1.fPins,I l1.fBalls,I l1.fTap]),.d (.list 1 (List.map I sheet1))] [] fun e os=>e=.ret (.d (I r))∧os=[]:=by
  refine ah (fresh:=false) al ap ⟨[2],[],[],[],[2],0,[]⟩ Tryz.func113 rfl Tryz.call113 rfl ?_
  unfold Cq at h
  delta w64 at h
  repeat' ((conv=>whnf)<;>first|refine u (k:=?_)|exact v|refine cp (Ed hN am) ?_|refine sq0 2 h [1,2] (fun x=>[(24,.d (.bool x))]) ?_ ?_|refine dr 0 25 (tkA 2 0 (tkA 3 3 (.alt 2 [5,4,3] (tkA 3 6 .done) .nil))) rfl (by kernel_rfl) ?_|refine cp (Fr hN am) ?_|intro _|refine Br.mk (fun _=>?_) fun _=>?_|refine TyG.mk fun _ h=>?_|(refine hs h ?_;intro _ _ h)|fail)
theorem FW{N:Nat}(hN:N≤1073741824){s1:Ref12State}{lane1:Int}{r:Ref12State×Int}(h:Dj N s1 lane1=some r) :
    ACalls Tryz.prog 70 [.d (.agg [.list 1 (List.map I s1.fBowlers),I s1.fLanes.a0.fBowler,.list 1 (List.map I s1.fLanes.a0.fBalls),I s1.fLanes.a1.fBowler,.list 1 (List.map I s1.fLanes.a1.fBalls),I s1.fLanes.a2.fBowler,.list 1 (List.map I s1.fLanes.a2.fBalls),I s1.fLanes.a3.fBowler,.list 1 (List.map I s1.fLanes.a3.fBalls),.list 1 (List.map eL s1.fKept),.list 6 (List.map Ref07Sheet.enc s1.fSheets),.list 1 (List.map I s1.fWithdrawn),.list 3 (List.map Ref09Result.enc s1.fResults)]),.d (I lane1)] [] fun e os=>e=.ret (.d (.tup [.agg [.list 1 (List.map I r.1.fBowlers),I r.1.fLanes.a0.fBowler,.list 1 (List.map I r.1.fLanes.a0.fBalls),I r.1.fLanes.a1.fBowler,.list 1 (List.map I r.1.fLanes.a1.fBalls),I r.1.fLanes.a2.fBowler,.list 1 (List.map I r.1.fLanes.a2.fBalls),I r.1.fLanes.a3.fBowler,.list 1 (List.map I r.1.fLanes.a3.fBalls),.list 1 (List.map eL r.1.fKept),.list 6 (List.map Ref07Sheet.enc r.1.fSheets),.list 1 (List.map I r.1.fWithdrawn),.list 3 (List.map Ref09Result.enc r.1.fResults)],I r.2]))∧os=[]:=by
  refine ah (fresh:=false) al ap ⟨[],[],[],[],[3,4,8],0,[48]⟩ Tryz.func70 rfl Tryz.call70 rfl ?_
  unfold Dj at h
  repeat' ((conv=>whnf)<;>first|refine u (k:=?_)|exact v|(refine itx h (fun hc h=>?_) fun hc h=>?_)|refine aap eL [] _ hN rfl rfl ‹_› (by decide) ?_|refine aap I [] _ hN rfl rfl ‹_› (by decide) ?_|refine cp (Dn hN am) ?_|refine sq 3 h [1,2,4] [2,4] [] [.t 6] () (fun p x y=>[(6,.ptr 6 (y.b 0) 0)]) (fun p x y=>[(6,.cells (y.b 0) [.d (I x.fBowler),.d (.list 1 (List.map I x.fBalls))])]) ?_ ?_|refine sq 4 h [1,2,4,6] [2,4,6] [] [] () (fun p x y=>[(24,.d (.bool x))]) (fun p x y=>[]) ?_ ?_|refine dr 0 15 (tkA 4 0 (.spl 18 (tkA 2 5 (.alt 4 [6,5,2,1,0] (.alt 7 [5,2,1,0] (tkA 2 8 .done) .nil) .nil)))) rfl (by kernel_rfl) ?_|refine cp (E8 hN am) ?_|refine cp (FV hN am) ?_|refine dr 0 31 (tkA 4 0 (tkA 6 5 (tkA 2 13 (.alt 4 [14,13,10,9,8,7,6,5,3,2,1,0] (.alt 11 [14,13,9,8,7,6,5,3,2,1,0] (.alt 12 [14,13,9,8,7,6,5,3,2,1,0] (.alt 15 [13,9,8,7,6,5,3,2,1,0] (.alt 16 [13,9,8,7,6,5,3,2,1,0] (.alt 17 [13,9,8,7,6,5,3,2,1,0] (.take 18 (.alt 19 [] .done .nil)) .nil) .nil) .nil) .nil) .nil) .nil)))) rfl (by kernel_rfl) ?_|apply sq 8 h [2,4] [4] [] [] ((_:Nat),(_:Value)) (fun p x y=>[]) (fun p x y=>[(2,.cells p.1 [.d (.list 1 (List.map I s1.fBowlers)),.d (I x.1),.d (.list 1 (List.map I x.2.1)),.d (I x.2.2.1),.d (.list 1 (List.map I x.2.2.2.1)),.d (I x.2.2.2.2.1),.d (.list 1 (List.map I x.2.2.2.2.2.1)),.d (I x.2.2.2.2.2.2.1),.d (.list 1 (List.map I x.2.2.2.2.2.2.2.1)),.sl 26 p.2,.d (.list 6 (List.map Ref07Sheet.enc s1.fSheets)),.d (.list 1 (List.map I s1.fWithdrawn)),.d (.list 3 (List.map Ref09Result.enc s1.fResults))]),(26,.arr p.2 25 1 false (List.map eL x.2.2.2.2.2.2.2.2))]) ?_ ?_|intro _|refine Br.mk (fun _=>?_) fun _=>?_|refine TyG.mk fun _ h=>?_|(refine hs h ?_;intro _ _ h)|fail)
end Go.Proofs.YtdodahpkpeodfaaGreatDoor
