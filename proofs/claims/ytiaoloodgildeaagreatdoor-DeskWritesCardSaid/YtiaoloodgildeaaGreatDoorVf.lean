/-
  Walks: what the typed functions compute, the program’s functions return.
-/
import Derived.Test.YtiaoloodgildeaaGreatDoorWe
import Derived.Test.YtiaoloodgildeaaGreatDoorVa
import Derived.Test.YtiaoloodgildeaaGreatDoorVc
import Derived.Test.YtiaoloodgildeaaGreatDoorVe
namespace Go.Proofs.YtiaoloodgildeaaGreatDoor
open Go Go.Abs Go.Kp
set_option maxRecDepth 100000
set_option maxHeartbeats 8000000
set_option linter.all false
theorem ol{N:Nat}(hN:N≤1073741824){lines1:List (List UInt8)}{r:(List Int)×Int}(h:gr N lines1=some r) :
    ACalls Tryz.prog 53 [.d (.list 1 (List.map D.str lines1))] [] fun e os=>e=.ret (.d (.tup [.list 1 (List.map (fun x=>.int .u8 x) r.1),I r.2]))∧os=[]:=by
  refine ah (fresh:=false) al ap ⟨[],[],[],[],[],0,[]⟩ Tryz.func53 rfl Tryz.call53 rfl ?_
  unfold gr at h
  obtain⟨r4,hx4,h⟩:=ab h;(conv=>whnf);refine CallG.pure _ (gP hN hx4) ?_;refine wB (fun hc2=>?_) (fun hc2=>?_)
  ·replace h:=af hc2 h;(conv=>whnf);cases h;exact rfl
  ·replace h:=ag hc2 h;obtain⟨r6,hx6,h⟩:=ab h;(conv=>whnf);refine CallG.pure _ (up hN hx6) ?_;(conv=>whnf);cases h;exact rfl
theorem su{N:Nat}(hN:N≤1073741824){a1:List Int}{b1:List Int}{r:Bool}(h:lN N a1 b1=some r) :
    ACalls Tryz.prog 32 [.d (.list 1 (List.map I a1)),.d (.list 1 (List.map I b1))] [] fun e os=>e=.ret (.d (.bool r))∧os=[]:=by
  refine ah (fresh:=false) al ap ⟨[],[],[],[],[1003],0,[]⟩ Tryz.func32 rfl Tryz.call32 rfl ?_
  unfold lN at h
  (conv=>whnf);refine LnA.mk _ (List.length_map _) ?_;(conv=>whnf);refine LnA.mk _ (List.length_map _) ?_;refine wB (fun hc2=>?_) (fun hc2=>?_)
  ·replace h:=af hc2 h;(conv=>whnf);cases h;exact rfl
  ·replace h:=ag hc2 h;(conv=>whnf);refine SeqG.mk Unit (fun y=>[]) (fun y=>[]) (fun y=>iY N=some r) ?_ ?_
   ·(conv=>whnf);refine LoopG.mk (Nat×Int) (fun y=>[(0,.d (.list 1 (List.map I a1))),(1,.d (.list 1 (List.map I b1))),(5,.d (I y.2))]) (fun y=>[]) (fun y=>aj (fun rr x=>eN N a1 b1 rr x) y.1 y.2=some r) (fun y=>y.1) (N,0) h (Sub.eq rfl ?_ ?_) ?_
    ·(repeat ((conv=>whnf);refine nr ?_));exact trivial
    ·exact trivial
    ·rintro⟨n2,i8⟩ hl2;obtain⟨n2,rfl,hl2⟩:=ar hl2;replace hl2:eN N a1 b1 (aj (fun rr x=>eN N a1 b1 rr x) n2) i8=some r:=hl2;rw[eN]at hl2;(conv=>whnf);refine LnA.mk _ (List.length_map _) ?_;refine wB (fun hc24=>?_) (fun hc24=>?_)
     ·replace hl2:=af hc24 hl2;obtain⟨x47,hx47,hl2⟩:=ab hl2;obtain⟨x48,hx48,hl2⟩:=ab hl2;(conv=>whnf);refine DrawG.mk (.take 0 (.take 1 (.take 2 (.take 3 (.take 4 (.take 5 (.take 6 (.take 7 (.take 8 .done))))))))) (by kernel_rfl) ?_;(conv=>whnf);refine Side.mk rfl ⟨_,aC hx47,ak _ hx47,?_⟩;(conv=>whnf);refine Side.mk rfl ⟨_,aC hx48,ak _ hx48,?_⟩;refine wB (fun hc26=>?_) (fun hc26=>?_)
      ·replace hl2:=af hc26 hl2;(conv=>whnf);cases hl2;exact rfl
      ·replace hl2:=ag hc26 hl2;(conv=>whnf);exact⟨(n2,w64 (i8+1)),hl2,xT,Nat.lt_succ_self _⟩
     ·replace hl2:=ag hc24 hl2;(conv=>whnf);exact⟨(),hl2,xT⟩
   ·clear h;rintro _ h;unfold iY at h;(conv=>whnf);cases h;exact rfl
theorem jR{N:Nat}(hN:N≤1073741824) {r:Bool}(h:cL N=some r) :
    ACalls Tryz.prog 21 [] [] fun e os=>e=.ret (.d (.bool r))∧os=[]:=by
  refine ah (fresh:=false) al ap ⟨[],[],[],[],[6],0,[]⟩ Tryz.func21 rfl Tryz.call21 rfl ?_
  unfold cL at h
  obtain⟨r2,hx4,h⟩:=ab h;(conv=>whnf);refine CallG.fresh 16 (i6 hN hx4) ?_;intro hd4;(conv=>whnf);intro hd5;obtain⟨l2,hx5,h⟩:=ab h;(conv=>whnf);refine Side.mk ⟨rfl,rfl⟩ ?_;(conv=>whnf);refine Side.mk ⟨rfl,rfl,rfl⟩ (Need.mk (aD hN hx5 (by decide)) (Eqv.mk (List.map D.str l2) (aH _ hx5) ?_));(conv=>whnf);intro hd6;obtain⟨⟨ra2,rb2,rc2⟩,hx6,h⟩:=ab h;refine ws ?_;(conv=>whnf);refine CallG.pure _ (uk hN hx6) ?_;(conv=>whnf);intro b2;refine ws ?_;obtain⟨r4,hx10,h⟩:=ab h;(conv=>whnf);refine CallG.fresh 24 (i6 hN hx10) ?_;intro hd8;obtain⟨l4,hx11,h⟩:=ab h;refine ws ?_;(conv=>whnf);refine Need.mk (dt _ hx11) (Eqv.mk (List.map D.str l4) (dA _ hx11) ?_);obtain⟨⟨ra4,rb4,rc4,rd2⟩,hx12,h⟩:=ab h;(conv=>whnf);refine CallG.pure _ (sn hN hx12) ?_
  obtain⟨r6,hx15,h⟩:=ab h;(conv=>whnf);refine CallG.fresh 32 (i6 hN hx15) ?_;intro hd10;obtain⟨⟨ra6,rb6,rc6⟩,hx16,h⟩:=ab h;refine ws ?_;(conv=>whnf);refine CallG.pure _ (sq hN hx16) ?_;obtain⟨r8,hx20,h⟩:=ab h;(conv=>whnf);refine CallG.fresh 38 (i6 hN hx20) ?_;intro hd12;obtain⟨l6,hx21,h⟩:=ab h;refine ws ?_;(conv=>whnf);refine Need.mk (dt _ hx21) (Eqv.mk (List.map D.str l6) (dA _ hx21) ?_);obtain⟨⟨ra8,rb8⟩,hx22,h⟩:=ab h;(conv=>whnf);refine CallG.pure _ (ru hN hx22) ?_;(conv=>whnf);intro hd14;obtain⟨⟨ra10,rb10⟩,hx24,h⟩:=ab h;refine ws ?_;(conv=>whnf);refine CallG.pure _ (ol hN hx24) ?_;obtain⟨v2,hx31,h⟩:=ab h;(conv=>whnf);refine SeqG.mk Unit (fun y=>[(0,.d (.bool v2))]) (fun y=>[]) (fun _=>True) ?_ ?_
  ·refine wB (fun hc18=>?_) (fun hc18=>?_)
   ·replace hx31:=af hc18 hx31;(conv=>whnf);refine LnA.mk _ (List.length_map _) ?_;refine wB (fun hc19=>?_) (fun hc19=>?_)
    ·replace hx31:=af hc19 hx31;obtain⟨x6,hx32,hx31⟩:=ab hx31;(conv=>whnf);refine Side.mk rfl ⟨_,aC hx32,ak _ hx32,?_⟩;refine wB (fun hc20=>?_) (fun hc20=>?_)
     ·replace hx31:=af hc20 hx31;obtain⟨x7,hx33,hx31⟩:=ab hx31;(conv=>whnf);refine Side.mk rfl ⟨_,aC hx33,ak _ hx33,?_⟩;refine wB (fun hc21=>?_) (fun hc21=>?_)
      ·replace hx31:=af hc21 hx31;obtain⟨x8,hx34,hx31⟩:=ab hx31;(conv=>whnf);refine Side.mk rfl ⟨_,aC hx34,ak _ hx34,?_⟩;refine wB (fun hc22=>?_) (fun hc22=>?_)
       ·replace hx31:=af hc22 hx31;obtain⟨x9,hx35,hx31⟩:=ab hx31;(conv=>whnf);refine Side.mk rfl ⟨_,aC hx35,ak _ hx35,?_⟩;refine wB (fun hc23=>?_) (fun hc23=>?_)
        ·replace hx31:=af hc23 hx31;obtain⟨x10,hx36,hx31⟩:=ab hx31;(conv=>whnf);refine Side.mk rfl ⟨_,aC hx36,ak _ hx36,?_⟩;refine wB (fun hc24=>?_) (fun hc24=>?_)
         ·replace hx31:=af hc24 hx31;refine wB (fun hc25=>?_) (fun hc25=>?_)
          ·replace hx31:=af hc25 hx31;(conv=>whnf);intro hd16;obtain⟨r10,hx37,hx31⟩:=ab hx31;refine ws ?_;(conv=>whnf);refine CallG.pure _ (su hN hx37) ?_;refine wB (fun hc26=>?_) (fun hc26=>?_)
           ·replace hx31:=af hc26 hx31;refine wB (fun hc27=>?_) (fun hc27=>?_)
            ·replace hx31:=af hc27 hx31;refine wB (fun hc28=>?_) (fun hc28=>?_)
             ·replace hx31:=af hc28 hx31;refine wB (fun hc29=>?_) (fun hc29=>?_)
              ·replace hx31:=af hc29 hx31;refine wB (fun hc30=>?_) (fun hc30=>?_)
               ·replace hx31:=af hc30 hx31;refine wB (fun hc31=>?_) (fun hc31=>?_)
                ·replace hx31:=af hc31 hx31;refine wB (fun hc32=>?_) (fun hc32=>?_)
                 ·replace hx31:=af hc32 hx31;refine wB (fun hc33=>?_) (fun hc33=>?_)
                  ·replace hx31:=af hc33 hx31;refine wB (fun hc34=>?_) (fun hc34=>?_)
                   ·replace hx31:=af hc34 hx31;refine ws ?_;(conv=>whnf);refine StrG.mk ra10 rfl ?_;cases hx31;(conv=>whnf);exact⟨(),trivial,xT⟩
                   ·replace hx31:=ag hc34 hx31;cases hx31;(conv=>whnf);exact⟨(),trivial,xT⟩
                  ·replace hx31:=ag hc33 hx31;cases hx31;(conv=>whnf);exact⟨(),trivial,xT⟩
                 ·replace hx31:=ag hc32 hx31;cases hx31;(conv=>whnf);exact⟨(),trivial,xT⟩
                ·replace hx31:=ag hc31 hx31;cases hx31;(conv=>whnf);exact⟨(),trivial,xT⟩
               ·replace hx31:=ag hc30 hx31;cases hx31;(conv=>whnf);exact⟨(),trivial,xT⟩
              ·replace hx31:=ag hc29 hx31;cases hx31;(conv=>whnf);exact⟨(),trivial,xT⟩
             ·replace hx31:=ag hc28 hx31;cases hx31;(conv=>whnf);exact⟨(),trivial,xT⟩
            ·replace hx31:=ag hc27 hx31;cases hx31;(conv=>whnf);exact⟨(),trivial,xT⟩
           ·replace hx31:=ag hc26 hx31;cases hx31;(conv=>whnf);exact⟨(),trivial,xT⟩
          ·replace hx31:=ag hc25 hx31;cases hx31;(conv=>whnf);exact⟨(),trivial,xT⟩
         ·replace hx31:=ag hc24 hx31;cases hx31;(conv=>whnf);exact⟨(),trivial,xT⟩
        ·replace hx31:=ag hc23 hx31;cases hx31;(conv=>whnf);exact⟨(),trivial,xT⟩
       ·replace hx31:=ag hc22 hx31;cases hx31;(conv=>whnf);exact⟨(),trivial,xT⟩
      ·replace hx31:=ag hc21 hx31;cases hx31;(conv=>whnf);exact⟨(),trivial,xT⟩
     ·replace hx31:=ag hc20 hx31;cases hx31;(conv=>whnf);exact⟨(),trivial,xT⟩
    ·replace hx31:=ag hc19 hx31;cases hx31;(conv=>whnf);exact⟨(),trivial,xT⟩
   ·replace hx31:=ag hc18 hx31;cases hx31;(conv=>whnf);exact⟨(),trivial,xT⟩
  ·rintro _ _;(conv=>whnf);cases h;exact rfl
theorem sv{N:Nat}(hN:N≤1073741824){l1:List (List UInt8)}{r:(List (List UInt8))}(h:iw N l1=some r) :
    ACalls Tryz.prog 23 [.d (.list 1 (List.map D.str l1))] [] fun e os=>∃hd,e=.ret (.sl 0 hd)∧os=[(0,.arr hd 9 1 false (List.map D.str r))]:=by
  refine gk al ap ⟨[],[],[],[],[],0,[]⟩ Tryz.func23 rfl Tryz.call23 rfl ?_
  unfold iw at h
  (conv=>whnf);intro hd3;obtain⟨l3,hx2,h⟩:=ab h;refine ws ?_;(conv=>whnf);refine Side.mk ⟨rfl,rfl,rfl⟩ (Need.mk (aD hN hx2 (by decide)) (Eqv.mk (List.map D.str l3) (aH _ hx2) ?_));(conv=>whnf);intro hd4;(conv=>whnf);cases h;exact⟨_,_,rfl,rfl⟩
theorem qk{N:Nat}(hN:N≤1073741824){b1:List Int}{r:(List Int)}(h:gV N b1=some r) :
    ACalls Tryz.prog 93 [.d (.list 1 (List.map (fun x=>.int .u8 x) b1))] [] fun e os=>e=.ret (.d (.fn (.func 147) [] [.ref (.agg [.list 1 (List.map (fun x=>.int .u8 x) r)])]))∧os=[]:=by
  refine ah (fresh:=false) al ap ⟨[1],[],[],[],[],0,[]⟩ Tryz.func93 rfl Tryz.call93 rfl ?_
  unfold gV at h
  (conv=>whnf);cases h;exact rfl
theorem uq{N:Nat}(hN:N≤1073741824){b1:List Int}{r:DeskHead×Bool}(h:jF N b1=some r) :
    ACalls Tryz.prog 148 [.d (.list 1 (List.map (fun x=>.int .u8 x) b1))] [] fun e os=>e=.ret (.d (.tup [.agg [I r.1.fLong,I r.1.fCheck],.bool r.2]))∧os=[]:=by
  refine ah (fresh:=false) al ap ⟨[],[],[],[],[3,6],0,[]⟩ Tryz.func148 rfl Tryz.call148 rfl ?_
  unfold jF at h
  (conv=>whnf);intro b3;obtain⟨l2,hx3,h⟩:=ab h;(conv=>whnf);refine Need.mk (dt _ hx3) (Eqv.mk (List.map (fun x=>.int .u8 x) l2) (dA _ hx3) ?_);refine ws ?_;(conv=>whnf);refine StrG.mk l2 rfl ?_;obtain⟨z2,hx4,h⟩:=ab h;rcases z2 with r3 | r4
  ·(conv=>whnf);refine CallG.own (mw hN hx4) id [(2,.cells b3 [.d (I 0),.d (I 0)])] _ (fun y=>[(2,.cells b3 [.d (I 0),.d (I 0)])]) (ac _) trivial rfl trivial (ai trivial) (fun _=>AV.le_refl _) (fun _=>rfl) ?_;rintro _ _;obtain⟨l4,hx7,h⟩:=ab h;(conv=>whnf);refine Need.mk (dt _ hx7) (Eqv.mk (List.map (fun x=>.int .u8 x) l4) (dA _ hx7) ?_);refine ws ?_;(conv=>whnf);refine StrG.mk l4 rfl ?_;obtain⟨z4,hx8,h⟩:=ab h;rcases z4 with r7 | r8
   ·(conv=>whnf);refine CallG.own (mw hN hx8) id [(2,.cells b3 [.d (I 0),.d (I 0)])] _ (fun y=>[(2,.cells b3 [.d (I 0),.d (I 0)])]) (ac _) trivial rfl trivial (ai trivial) (fun _=>AV.le_refl _) (fun _=>rfl) ?_;rintro _ _;obtain⟨v4,hx13,h⟩:=ab h;(conv=>whnf);refine SeqG.mk Unit (fun y=>[(0,.d (.list 1 (List.map (fun x=>.int .u8 x) b1))),(2,.ptr 2 b3 0),(4,.d (I r3)),(6,.d (I r7)),(36,.d (.bool v4))]) (fun y=>[(2,.cells b3 [.d (I 0),.d (I 0)])]) (fun _=>True) ?_ ?_
    ·obtain⟨r12,hx14,hx13⟩:=ab hx13;(conv=>whnf);refine CallG.pure _ (fO hN hx14) ?_;refine wB (fun hc5=>?_) (fun hc5=>?_)
     ·replace hx13:=ag hc5 hx13;cases hx13;(conv=>whnf);refine⟨(),trivial,Sub.eq rfl ?_ ?_⟩
      ·(repeat ((conv=>whnf);refine nr ?_));exact trivial
      ·(conv=>whnf);refine no ?_;exact trivial
     ·replace hx13:=af hc5 hx13;cases hx13;(conv=>whnf);refine⟨(),trivial,Sub.eq rfl ?_ ?_⟩
      ·(repeat ((conv=>whnf);refine nr ?_));exact trivial
      ·(conv=>whnf);refine no ?_;exact trivial
    ·rintro _ _;refine wB (fun hc6=>?_) (fun hc6=>?_)
     ·replace h:=af hc6 h;(iterate 2 refine ws ?_);(conv=>whnf);cases h;exact rfl
     ·replace h:=ag hc6 h;refine ws ?_;obtain⟨is2,hx17,h⟩:=ab h;(conv=>whnf);refine SeqG.mk Unit (fun y=>[(2,.ptr 2 b3 0),(3,.d (.bool is2))]) (fun y=>[(2,.cells b3 [.d (I r3),.d (I r7)])]) (fun _=>True) ?_ ?_
      ·obtain⟨r14,hx18,hx17⟩:=ab hx17;obtain⟨l6,hx19,hx17⟩:=ab hx17;(conv=>whnf);refine DrawG.mk (.take 0 (.take 1 (.take 3 (.alt 2 [3,0] (.alt 4 [0] (.alt 5 [0] (.take 6 (.alt 7 [6] (.take 8 .done) .nil)) (.alt 7 [] (.alt 5 [] (.take 6 (.take 8 .done)) .nil) .nil)) (.alt 7 [3] (.alt 4 [] (.alt 5 [] (.take 6 (.take 8 .done)) .nil) .nil) .nil)) (.alt 4 [1,0] (.alt 2 [0] (.alt 5 [0] (.take 6 (.alt 7 [6] (.take 8 .done) .nil)) (.alt 7 [] (.alt 5 [] (.take 6 (.take 8 .done)) .nil) .nil)) (.alt 5 [1,0] (.alt 2 [0] (.take 6 (.alt 7 [6] (.take 8 .done) .nil)) .nil) .nil)) .nil))))) (by kernel_rfl) ?_;(iterate 2 refine ws ?_);(conv=>whnf);refine Both.mk ?_ ?_
       ·(conv=>whnf);refine CallG.pure _ (fB hN hx18) ?_;refine wl ?_;refine ws ?_;refine wl ?_;(conv=>whnf);refine Both.mk ?_ ?_
        ·(conv=>whnf);refine Need.mk (dt _ hx19) (Eqv.mk (List.map (fun x=>.int .u8 x) l6) (dA _ hx19) ?_);refine ws ?_;refine wl ?_;(conv=>whnf);refine Both.mk ?_ ?_
         ·refine ws ?_;(conv=>whnf);refine StrG.mk l6 rfl ?_;refine ws ?_;refine wl ?_;refine wb ?_;refine ws ?_;refine wl ?_;cases hx17;(conv=>whnf);refine⟨(),trivial,Sub.eq rfl ?_ ?_⟩
          ·(repeat ((conv=>whnf);refine nr ?_));exact trivial
          ·(conv=>whnf);refine no ?_;exact trivial
         ·refine wb ?_;refine ws ?_;refine wb ?_;refine ws ?_;(conv=>whnf);refine StrG.mk l6 rfl ?_;cases hx17;(conv=>whnf);refine⟨(),trivial,Sub.eq rfl ?_ ?_⟩
          ·(repeat ((conv=>whnf);refine nr ?_));exact trivial
          ·(conv=>whnf);refine no ?_;exact trivial
        ·refine wb ?_;refine ws ?_;refine wl ?_;refine wb ?_;(conv=>whnf);refine Need.mk (dt _ hx19) (Eqv.mk (List.map (fun x=>.int .u8 x) l6) (dA _ hx19) ?_);refine wb ?_;refine ws ?_;(conv=>whnf);refine StrG.mk l6 rfl ?_;cases hx17;(conv=>whnf);refine⟨(),trivial,Sub.eq rfl ?_ ?_⟩
         ·(repeat ((conv=>whnf);refine nr ?_));exact trivial
         ·(conv=>whnf);refine no ?_;exact trivial
       ·refine wb ?_;(conv=>whnf);refine Need.mk (dt _ hx19) (Eqv.mk (List.map (fun x=>.int .u8 x) l6) (dA _ hx19) ?_);refine ws ?_;refine wl ?_;refine ws ?_;refine wl ?_;(conv=>whnf);refine Both.mk ?_ ?_
        ·(conv=>whnf);refine CallG.pure _ (fB hN hx18) ?_;refine ws ?_;refine wl ?_;(conv=>whnf);refine Both.mk ?_ ?_
         ·refine ws ?_;(conv=>whnf);refine StrG.mk l6 rfl ?_;refine ws ?_;refine wl ?_;refine wb ?_;refine ws ?_;refine wl ?_;cases hx17;(conv=>whnf);refine⟨(),trivial,Sub.eq rfl ?_ ?_⟩
          ·(repeat ((conv=>whnf);refine nr ?_));exact trivial
          ·(conv=>whnf);refine no ?_;exact trivial
         ·refine wb ?_;refine ws ?_;refine wb ?_;refine ws ?_;(conv=>whnf);refine StrG.mk l6 rfl ?_;cases hx17;(conv=>whnf);refine⟨(),trivial,Sub.eq rfl ?_ ?_⟩
          ·(repeat ((conv=>whnf);refine nr ?_));exact trivial
          ·(conv=>whnf);refine no ?_;exact trivial
        ·refine wb ?_;refine ws ?_;(conv=>whnf);refine StrG.mk l6 rfl ?_;refine ws ?_;refine wl ?_;refine ws ?_;refine wl ?_;refine wb ?_;(conv=>whnf);refine CallG.pure _ (fB hN hx18) ?_;refine ws ?_;refine wl ?_;refine wb ?_;refine ws ?_;refine wl ?_;cases hx17;(conv=>whnf);refine⟨(),trivial,Sub.eq rfl ?_ ?_⟩
         ·(repeat ((conv=>whnf);refine nr ?_));exact trivial
         ·(conv=>whnf);refine no ?_;exact trivial
      ·rintro _ _;refine ws ?_;(conv=>whnf);cases h;exact rfl
   ·(conv=>whnf);refine CallG.own (mw hN hx8) id [(2,.cells b3 [.d (I 0),.d (I 0)])] _ (fun y=>[(2,.cells b3 [.d (I 0),.d (I 0)])]) (ac _) trivial rfl trivial (ai trivial) (fun _=>AV.le_refl _) (fun _=>rfl) ?_;rintro _ _;obtain⟨_,hx21,h⟩:=ab h;(conv=>whnf);refine SeqG.mk Unit (fun y=>[(0,.d (.list 1 (List.map (fun x=>.int .u8 x) b1))),(2,.ptr 2 b3 0),(4,.d (I r3)),(6,.d (I r8)),(36,.b true)]) (fun y=>[(2,.cells b3 [.d (I 0),.d (I 0)])]) (fun _=>True) ?_ ?_
    ·(conv=>whnf);refine⟨(),trivial,Sub.eq rfl ?_ ?_⟩
     ·(repeat ((conv=>whnf);refine nr ?_));exact trivial
     ·(conv=>whnf);refine no ?_;exact trivial
    ·rintro _ _;(iterate 2 refine ws ?_);(conv=>whnf);cases h;exact rfl
  ·(conv=>whnf);refine CallG.own (mw hN hx4) id [(2,.cells b3 [.d (I 0),.d (I 0)])] _ (fun y=>[(2,.cells b3 [.d (I 0),.d (I 0)])]) (ac _) trivial rfl trivial (ai trivial) (fun _=>AV.le_refl _) (fun _=>rfl) ?_;rintro _ _;obtain⟨l8,hx24,h⟩:=ab h;(conv=>whnf);refine Need.mk (dt _ hx24) (Eqv.mk (List.map (fun x=>.int .u8 x) l8) (dA _ hx24) ?_);refine ws ?_;(conv=>whnf);refine StrG.mk l8 rfl ?_;obtain⟨z6,hx25,h⟩:=ab h;rcases z6 with r17 | r18
   ·(conv=>whnf);refine CallG.own (mw hN hx25) id [(2,.cells b3 [.d (I 0),.d (I 0)])] _ (fun y=>[(2,.cells b3 [.d (I 0),.d (I 0)])]) (ac _) trivial rfl trivial (ai trivial) (fun _=>AV.le_refl _) (fun _=>rfl) ?_;rintro _ _;obtain⟨_,hx27,h⟩:=ab h;(conv=>whnf);refine SeqG.mk Unit (fun y=>[(0,.d (.list 1 (List.map (fun x=>.int .u8 x) b1))),(2,.ptr 2 b3 0),(4,.d (I r4)),(6,.d (I r17)),(36,.b true)]) (fun y=>[(2,.cells b3 [.d (I 0),.d (I 0)])]) (fun _=>True) ?_ ?_
    ·(conv=>whnf);refine⟨(),trivial,Sub.eq rfl ?_ ?_⟩
     ·(repeat ((conv=>whnf);refine nr ?_));exact trivial
     ·(conv=>whnf);refine no ?_;exact trivial
    ·rintro _ _;(iterate 2 refine ws ?_);(conv=>whnf);cases h;exact rfl
   ·(conv=>whnf);refine CallG.own (mw hN hx25) id [(2,.cells b3 [.d (I 0),.d (I 0)])] _ (fun y=>[(2,.cells b3 [.d (I 0),.d (I 0)])]) (ac _) trivial rfl trivial (ai trivial) (fun _=>AV.le_refl _) (fun _=>rfl) ?_;rintro _ _;obtain⟨_,hx29,h⟩:=ab h;(conv=>whnf);refine SeqG.mk Unit (fun y=>[(0,.d (.list 1 (List.map (fun x=>.int .u8 x) b1))),(2,.ptr 2 b3 0),(4,.d (I r4)),(6,.d (I r18)),(36,.b true)]) (fun y=>[(2,.cells b3 [.d (I 0),.d (I 0)])]) (fun _=>True) ?_ ?_
    ·(conv=>whnf);refine⟨(),trivial,Sub.eq rfl ?_ ?_⟩
     ·(repeat ((conv=>whnf);refine nr ?_));exact trivial
     ·(conv=>whnf);refine no ?_;exact trivial
    ·rintro _ _;(iterate 2 refine ws ?_);(conv=>whnf);cases h;exact rfl
theorem li{N:Nat}(hN:N≤1073741824){b1:List Int}{r:Int×(List (List UInt8))}(h:ef N b1=some r) :
    ACalls Tryz.prog 54 [.d (.list 1 (List.map (fun x=>.int .u8 x) b1))] [] fun ae os=>∃y:Value,True∧ae=.ret (.tup [.sl 275016 y,.d (I r.1)])∧os=[(275016,.arr y 9 1 false (List.map D.str r.2))]:=by
  refine aJ (fresh:=true) al ap ⟨[],[],[],[],[1001],275000,[]⟩ Tryz.func54 rfl Tryz.call54 rfl ?_
  unfold ef at h
  (conv=>whnf);intro b4;(conv=>whnf);intro b5;obtain⟨⟨c6,l54⟩,hx123,h⟩:=ab h;(conv=>whnf);refine SeqG.mk Value (fun y=>[(2,.ptr 275002 b4 0),(3,.ptr 275003 b5 0)]) (fun y=>[(275002,.cells b4 [.sl 275016 y]),(275003,.cells b5 [.d (I c6)]),(275016,.arr y 9 1 false (List.map D.str l54))]) (fun _=>True) ?_ ?_
  ·obtain⟨r28,hx125,hx123⟩:=ab hx123;(conv=>whnf);refine CallG.pure _ (qk hN hx125) ?_;(conv=>whnf);intro lp2 rc2;refine IterG.mk _ _ ⟨[],[],[],[],[6],2000,[]⟩ Tryz.func147 rfl Tryz.call147 rfl rfl ?_;(conv=>whnf);refine LoopG.mk (Nat×(Int×Int×Int×(List (List UInt8)))×Value) (fun y=>[(0,.fn (.yield lp2) [] []),(1,.d (.ref (.agg [.list 1 (List.map (fun x=>.int .u8 x) r28)]))),(3,.d (I y.2.1.1)),(4,.d (I y.2.1.2.1))]) (fun y=>[(275002,.cells b4 [.sl 275016 y.2.2]),(275003,.cells b5 [.d (I y.2.1.2.2.1)]),(1000,.loop lp2 rc2 none),(275016,.arr y.2.2 9 1 false (List.map D.str y.2.1.2.2.2))]) (fun y=>aj (fun rr x=>aP N r28 rr x.1 x.2.1 x.2.2.1 x.2.2.2) y.1 y.2.1=some (c6,l54)) (fun y=>y.1) (N,(0,0,0,[]),(.slice none 0 0)) hx123 (Sub.eq rfl ?_ ?_) ?_
   ·(repeat ((conv=>whnf);refine nr ?_));exact trivial
   ·(conv=>whnf);refine Need.mk (OLe.cells _ _ _ (by repeat (first | exact trivial | ((conv=>whnf);refine Need.mk rfl ?_)))) ?_;(iterate 2 ((conv=>whnf);refine no ?_));(conv=>whnf);refine Need.mk (OLe.nil _ _ _ _) ?_;exact trivial
   ·rintro⟨n2,⟨bytes8,s8,c10,l90⟩,hd90⟩ hl2;obtain⟨n2,rfl,hl2⟩:=ar hl2;replace hl2:aP N r28 (aj (fun rr x=>aP N r28 rr x.1 x.2.1 x.2.2.1 x.2.2.2) n2) bytes8 s8 c10 l90=some (c6,l54):=hl2;rw[aP]at hl2;(conv=>whnf);refine LnA.mk _ (List.length_map _) ?_;refine wB (fun hc200=>?_) (fun hc200=>?_)
    ·replace hl2:=af hc200 hl2;obtain⟨l100,hx228,hl2⟩:=ab hl2;(conv=>whnf);refine Need.mk (lT _ hx228) (Eqv.mk (List.map (fun x=>.int .u8 x) l100) (nW _ hx228) ?_);obtain⟨⟨ra24,rb24⟩,hx229,hl2⟩:=ab hl2;(conv=>whnf);refine CallG.pure _ (uq hN hx229) ?_;(conv=>whnf);intro b29;(iterate 2 refine ws ?_);obtain⟨⟨v95,v96⟩,hx234,hl2⟩:=ab hl2;(conv=>whnf)
     refine SeqG.mk Unit (fun y=>[(0,.fn (.yield lp2) [] []),(1,.d (.ref (.agg [.list 1 (List.map (fun x=>.int .u8 x) r28)]))),(3,.d (I bytes8)),(4,.d (I s8)),(5,.ptr 2005 b29 0),(7,.d (I v95)),(44,.d (.bool v96))]) (fun y=>[(2005,.cells b29 [.d (I ra24.fLong),.d (I ra24.fCheck)]),(275002,.cells b4 [.sl 275016 hd90]),(275003,.cells b5 [.d (I c10)]),(1000,.loop lp2 rc2 none),(275016,.arr hd90 9 1 false (List.map D.str l90))]) (fun _=>True) ?_ ?_
     ·refine wB (fun hc230=>?_) (fun hc230=>?_)
      ·replace hx234:=ag hc230 hx234;(conv=>whnf);refine LnA.mk _ (List.length_map _) ?_;refine wB (fun hc231=>?_) (fun hc231=>?_)
       ·replace hx234:=ag hc231 hx234;obtain⟨x48,hx235,hx234⟩:=ab hx234;(conv=>whnf);refine Side.mk rfl ⟨_,aC hx235,ak _ hx235,?_⟩;cases hx234;(conv=>whnf);exact⟨(),trivial,xT⟩
       ·replace hx234:=af hc231 hx234;cases hx234;(conv=>whnf);exact⟨(),trivial,xT⟩
      ·replace hx234:=af hc230 hx234;cases hx234;(conv=>whnf);exact⟨(),trivial,xT⟩
     ·rintro _ _;refine wB (fun hc232=>?_) (fun hc232=>?_)
      ·replace hl2:=af hc232 hl2;(conv=>whnf);refine Side.mk ⟨rfl,rfl⟩ ?_;cases hl2;(conv=>whnf);exact⟨hd90,trivial,xT⟩
      ·replace hl2:=ag hc232 hl2;obtain⟨l102,hx237,hl2⟩:=ab hl2;(conv=>whnf);refine Need.mk (dt _ hx237) (Eqv.mk (List.map (fun x=>.int .u8 x) l102) (dA _ hx237) ?_);refine ws ?_;(conv=>whnf);refine StrG.mk l102 rfl ?_;(conv=>whnf);refine DrawG.mk (.take 0 (.take 1 (.take 2 (.alt 3 [0] (.take 4 (.take 5 (.spl 57 (.take 6 (.take 7 (.take 8 (.alt 9 [4,0] (.take 10 (.take 11 .done)) .nil))))))) .nil)))) (by kernel_rfl) ?_;refine ws ?_;refine wb ?_;obtain⟨r52,hx244,hl2⟩:=ab hl2;(conv=>whnf);refine CallG.pure _ (mt hN hx244) ?_;refine ws ?_;refine wl ?_;(conv=>whnf);refine Need.mk ⟨rfl,rfl⟩ (EqB.mk _ (DeskHead.eqc ra24 r52) ?_);refine wB (fun hc242=>?_) (fun hc242=>?_)
       ·replace hl2:=af hc242 hl2;refine wb ?_;(conv=>whnf);refine Need.mk ⟨rfl,rfl⟩ (EqB.mk _ (DeskHead.eqc ra24 r52) ?_);refine wl ?_;refine ws ?_;refine wl ?_;(conv=>whnf);refine Side.mk ⟨rfl,rfl⟩ ?_;cases hl2;(conv=>whnf);exact⟨hd90,trivial,xT⟩
       ·replace hl2:=ag hc242 hl2;refine wb ?_;(conv=>whnf);refine Side.mk ⟨rfl,rfl,rfl⟩ ?_;refine ws ?_;(conv=>whnf);refine Side.mk rfl (LnA.mk _ (List.length_map _) ?_);refine wB (fun hc244=>?_) (fun hc244=>?_)
        ·replace hl2:=af hc244 hl2;(conv=>whnf);refine Need.mk ⟨rfl,rfl⟩ (EqB.mk _ (DeskHead.eqc ra24 r52) ?_);refine wl ?_;refine ws ?_;refine wl ?_;(conv=>whnf);refine Side.mk ⟨rfl,rfl⟩ ?_;cases hl2;(conv=>whnf);exact⟨hd90,trivial,xT⟩
        ·replace hl2:=ag hc244 hl2;refine ws ?_;(conv=>whnf);intro hd105;obtain⟨l106,hx245,hl2⟩:=ab hl2;(conv=>whnf);refine Side.mk ⟨rfl,rfl⟩ ?_;(conv=>whnf);refine Side.mk ⟨rfl,rfl,rfl⟩ (Need.mk (aD hN hx245 (by decide)) (Eqv.mk (List.map D.str l106) (aH _ hx245) ?_));(conv=>whnf);intro hd106;(iterate 2 refine ws ?_);(conv=>whnf);refine Need.mk ⟨rfl,rfl⟩ (EqB.mk _ (DeskHead.eqc ra24 r52) ?_);refine wl ?_;refine ws ?_;refine wl ?_;(conv=>whnf);exact⟨(n2,(v95,w64 (s8+1),v95,l106),hd106),hl2,xT,Nat.lt_succ_self _⟩
    ·replace hl2:=ag hc200 hl2;(conv=>whnf);refine Side.mk ⟨rfl,rfl⟩ ?_;cases hl2;(conv=>whnf);exact⟨hd90,trivial,xT⟩
  ·rintro hd54 _;(conv=>whnf);refine DrawG.mk (.take 0 (.take 1 (.alt 2 [1] (.alt 3 [] .done .nil) .nil))) (by kernel_rfl) ?_;(iterate 2 refine ws ?_);refine wb ?_;(iterate 2 refine ws ?_);refine wl ?_;refine wb ?_;(iterate 3 refine ws ?_);(conv=>whnf);cases h;exact⟨hd54,trivial,rfl,aA (ren:=id) (ai trivial)⟩
theorem rx{N:Nat}(hN:N≤1073741824){a1:List (List UInt8)}{b1:List (List UInt8)}{r:Bool}(h:gN N a1 b1=some r) :
    ACalls Tryz.prog 56 [.d (.list 1 (List.map D.str a1)),.d (.list 1 (List.map D.str b1))] [] fun e os=>e=.ret (.d (.bool r))∧os=[]:=by
  refine ah (fresh:=false) al ap ⟨[],[],[],[],[1003],0,[]⟩ Tryz.func56 rfl Tryz.call56 rfl ?_
  unfold gN at h
  (conv=>whnf);refine LnA.mk _ (List.length_map _) ?_;(conv=>whnf);refine LnA.mk _ (List.length_map _) ?_;refine wB (fun hc2=>?_) (fun hc2=>?_)
  ·replace h:=af hc2 h;(conv=>whnf);cases h;exact rfl
  ·replace h:=ag hc2 h;(conv=>whnf);refine SeqG.mk Unit (fun y=>[]) (fun y=>[]) (fun y=>fu N=some r) ?_ ?_
   ·(conv=>whnf);refine LoopG.mk (Nat×Int) (fun y=>[(0,.d (.list 1 (List.map D.str a1))),(1,.d (.list 1 (List.map D.str b1))),(5,.d (I y.2))]) (fun y=>[]) (fun y=>aj (fun rr x=>bg N a1 b1 rr x) y.1 y.2=some r) (fun y=>y.1) (N,0) h (Sub.eq rfl ?_ ?_) ?_
    ·(repeat ((conv=>whnf);refine nr ?_));exact trivial
    ·exact trivial
    ·rintro⟨n2,i8⟩ hl2;obtain⟨n2,rfl,hl2⟩:=ar hl2;replace hl2:bg N a1 b1 (aj (fun rr x=>bg N a1 b1 rr x) n2) i8=some r:=hl2;rw[bg]at hl2;(conv=>whnf);refine LnA.mk _ (List.length_map _) ?_;refine wB (fun hc24=>?_) (fun hc24=>?_)
     ·replace hl2:=af hc24 hl2;obtain⟨x47,hx47,hl2⟩:=ab hl2;obtain⟨x48,hx48,hl2⟩:=ab hl2;(conv=>whnf);refine DrawG.mk (.take 0 (.take 1 (.take 2 (.take 3 (.take 4 (.take 5 (.take 6 (.take 7 (.take 8 .done))))))))) (by kernel_rfl) ?_;(conv=>whnf);refine Side.mk rfl ⟨_,aC hx47,ak _ hx47,?_⟩;(conv=>whnf);refine Side.mk rfl ⟨_,aC hx48,ak _ hx48,?_⟩;refine wB (fun hc26=>?_) (fun hc26=>?_)
      ·replace hl2:=af hc26 hl2;(conv=>whnf);cases hl2;exact rfl
      ·replace hl2:=ag hc26 hl2;(conv=>whnf);exact⟨(n2,w64 (i8+1)),hl2,xT,Nat.lt_succ_self _⟩
     ·replace hl2:=ag hc24 hl2;(conv=>whnf);exact⟨(),hl2,xT⟩
   ·clear h;rintro _ h;unfold fu at h;(conv=>whnf);cases h;exact rfl
end Go.Proofs.YtiaoloodgildeaaGreatDoor
