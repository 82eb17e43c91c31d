/-
  Walks: what the typed functions compute, the program’s functions return.
-/
import Derived.Test.YtkbeeloccdfomaaGreatDoorWe
import Derived.Test.YtkbeeloccdfomaaGreatDoorVa
import Derived.Test.YtkbeeloccdfomaaGreatDoorVe
import Derived.Test.YtkbeeloccdfomaaGreatDoorVf
import Derived.Test.YtkbeeloccdfomaaGreatDoorVg
namespace Go.Proofs.YtkbeeloccdfomaaGreatDoor
open Go Go.Abs Go.Kp
set_option maxRecDepth 100000
set_option maxHeartbeats 8000000
set_option linter.all false
theorem up{N:Nat}(hN:N≤1073741824){lines1:List (List UInt8)}{r:(List Int)}(h:jE N lines1=some r) :
    ACalls Tryz.prog 39 [.d (.list 1 (List.map D.str lines1))] [] fun e os=>e=.ret (.d (.list 1 (List.map (fun x=>.int .u8 x) r)))∧os=[]:=by
  refine ah (fresh:=false) al ap ⟨[],[],[],[],[1002],0,[]⟩ Tryz.func39 rfl Tryz.call39 rfl ?_
  unfold jE at h
  obtain⟨l11,hx43,h⟩:=ab h;(conv=>whnf);refine SeqG.mk Value (fun y=>[(3,.sl 21 y)]) (fun y=>[(21,.arr y 5 1 false (List.map (fun x=>.int .u8 x) l11))]) (fun _=>True) ?_ ?_
  ·(conv=>whnf);refine LnA.mk _ (List.length_map _) ?_;(conv=>whnf);refine LoopG.mk (Nat×(Int×Int×(List Int))×Value) (fun y=>[(3,.sl 21 y.2.2),(6,.d (.list 1 (List.map D.str lines1))),(7,.d (I y.2.1.1)),(8,.d (I y.2.1.2.1))]) (fun y=>[(21,.arr y.2.2 5 1 false (List.map (fun x=>.int .u8 x) y.2.1.2.2))]) (fun y=>aj (fun rr x=>cH N lines1 rr x.1 x.2.1 x.2.2) y.1 y.2.1=some l11) (fun y=>y.1) (N,((lines1.length:Int),0,[]),(.slice none 0 0)) hx43 (Sub.eq rfl ?_ ?_) ?_
   ·(repeat ((conv=>whnf);refine nr ?_));exact trivial
   ·(conv=>whnf);refine Need.mk (OLe.nil _ _ _ _) ?_;exact trivial
   ·rintro⟨n2,⟨v17,v18,l19⟩,hd19⟩ hl2;obtain⟨n2,rfl,hl2⟩:=Db hl2;replace hl2:cH N lines1 (aj (fun rr x=>cH N lines1 rr x.1 x.2.1 x.2.2) n2) v17 v18 l19=some l11:=hl2;rw[cH]at hl2;refine wB (fun hc12=>?_) (fun hc12=>?_)
    ·replace hl2:=af hc12 hl2;obtain⟨x24,hx80,hl2⟩:=ab hl2;(conv=>whnf);refine Side.mk rfl ⟨_,aC hx80,ak _ hx80,?_⟩;obtain⟨r23,hx81,hl2⟩:=ab hl2;(conv=>whnf);refine CallG.pure _ (mt hN hx81) ?_;obtain⟨r24,hx82,hl2⟩:=ab hl2;(conv=>whnf);refine CallG.pure _ (fB hN hx82) ?_;obtain⟨s23,hx83,hl2⟩:=ab hl2;(conv=>whnf);refine Need.mk (eO hN hx83) ?_;obtain⟨s24,hx84,hl2⟩:=ab hl2;(conv=>whnf);refine Need.mk (eO hN hx84) ?_;obtain⟨l21,hx85,hl2⟩:=ab hl2;(conv=>whnf);refine Side.mk ⟨rfl,rfl,rfl⟩ (Eqv.mk (List.map (fun x=>.int .u8 x) (bytesI (((r24++x24)++([10]:List UInt8))))) (sQ _) ?_);(conv=>whnf);refine Side.mk ⟨rfl,rfl,rfl⟩ (Need.mk (vH hN hx85) (Eqv.mk (List.map (fun x=>.int .u8 x) l21) (aH _ hx85) ?_));(conv=>whnf);intro hd21;(conv=>whnf)
     refine⟨(n2,(v17,w64 (v18+1),l21),hd21),hl2,Sub.eq rfl ?_ ?_,Nat.lt_succ_self _⟩
     ·(repeat ((conv=>whnf);refine nr ?_));exact trivial
     ·(conv=>whnf);refine no ?_;exact trivial
    ·replace hl2:=ag hc12 hl2;cases hl2;(conv=>whnf);refine⟨hd19,trivial,Sub.eq rfl ?_ ?_⟩
     ·(repeat ((conv=>whnf);refine nr ?_));exact trivial
     ·(conv=>whnf);refine no ?_;exact trivial
  ·rintro hd11 _;refine ws ?_;(conv=>whnf);cases h;exact rfl
theorem ol{N:Nat}(hN:N≤1073741824){lines1:List (List UInt8)}{r:(List Int)×Int}(h:gr N lines1=some r) :
    ACalls Tryz.prog 18 [.d (.list 1 (List.map D.str lines1))] [] fun e os=>e=.ret (.d (.tup [.list 1 (List.map (fun x=>.int .u8 x) r.1),I r.2]))∧os=[]:=by
  refine ah (fresh:=false) al ap ⟨[],[],[],[],[],0,[]⟩ Tryz.func18 rfl Tryz.call18 rfl ?_
  unfold gr at h
  obtain⟨r4,hx4,h⟩:=ab h;(conv=>whnf);refine CallG.pure _ (gP hN hx4) ?_;refine wB (fun hc2=>?_) (fun hc2=>?_)
  ·replace h:=af hc2 h;cases h
  ·replace h:=ag hc2 h;obtain⟨r6,hx6,h⟩:=ab h;(conv=>whnf);refine CallG.pure _ (up hN hx6) ?_;(conv=>whnf);cases h;exact rfl
theorem su{N:Nat}(hN:N≤1073741824){a1:List Int}{b1:List Int}{r:Bool}(h:lN N a1 b1=some r) :
    ACalls Tryz.prog 19 [.d (.list 1 (List.map I a1)),.d (.list 1 (List.map I b1))] [] fun e os=>e=.ret (.d (.bool r))∧os=[]:=by
  refine ah (fresh:=false) al ap ⟨[],[],[],[],[1003],0,[]⟩ Tryz.func19 rfl Tryz.call19 rfl ?_
  unfold lN at h
  (conv=>whnf);refine LnA.mk _ (List.length_map _) ?_;(conv=>whnf);refine LnA.mk _ (List.length_map _) ?_;refine wB (fun hc2=>?_) (fun hc2=>?_)
  ·replace h:=af hc2 h;(conv=>whnf);cases h;exact rfl
  ·replace h:=ag hc2 h;(conv=>whnf);refine SeqG.mk Unit (fun y=>[]) (fun y=>[]) (fun y=>iY N=some r) ?_ ?_
   ·(conv=>whnf);refine LoopG.mk (Nat×Int) (fun y=>[(0,.d (.list 1 (List.map I a1))),(1,.d (.list 1 (List.map I b1))),(5,.d (I y.2))]) (fun y=>[]) (fun y=>aj (fun rr x=>eN N a1 b1 rr x) y.1 y.2=some r) (fun y=>y.1) (N,0) h (Sub.eq rfl ?_ ?_) ?_
    ·(repeat ((conv=>whnf);refine nr ?_));exact trivial
    ·exact trivial
    ·rintro⟨n2,i8⟩ hl2;obtain⟨n2,rfl,hl2⟩:=Db hl2;replace hl2:eN N a1 b1 (aj (fun rr x=>eN N a1 b1 rr x) n2) i8=some r:=hl2;rw[eN]at hl2;(conv=>whnf);refine LnA.mk _ (List.length_map _) ?_;refine wB (fun hc24=>?_) (fun hc24=>?_)
     ·replace hl2:=af hc24 hl2;obtain⟨x47,hx47,hl2⟩:=ab hl2;obtain⟨x48,hx48,hl2⟩:=ab hl2;(conv=>whnf);refine DrawG.mk (.take 0 (.take 1 (.take 2 (.take 3 (.take 4 (.take 5 (.take 6 (.take 7 (.take 8 .done))))))))) (by kernel_rfl) ?_;(conv=>whnf);refine Side.mk rfl ⟨_,aC hx47,ak _ hx47,?_⟩;(conv=>whnf);refine Side.mk rfl ⟨_,aC hx48,ak _ hx48,?_⟩;refine wB (fun hc26=>?_) (fun hc26=>?_)
      ·replace hl2:=af hc26 hl2;(conv=>whnf);cases hl2;exact rfl
      ·replace hl2:=ag hc26 hl2;(conv=>whnf);exact⟨(n2,w64 (i8+1)),hl2,xT,Nat.lt_succ_self _⟩
     ·replace hl2:=ag hc24 hl2;(conv=>whnf);exact⟨(),hl2,xT⟩
   ·clear h;rintro _ h;unfold iY at h;(conv=>whnf);cases h;exact rfl
theorem jR{N:Nat}(hN:N≤1073741824) {r:Bool}(h:cL N=some r) :
    ACalls Tryz.prog 7 [] [] fun e os=>e=.ret (.d (.bool r))∧os=[]:=by
  refine ah (fresh:=false) al ap ⟨[],[],[],[],[6],0,[]⟩ Tryz.func7 rfl Tryz.call7 rfl ?_
  unfold cL at h
  obtain⟨r2,hx4,h⟩:=ab h;(conv=>whnf);refine CallG.fresh 16 (i6 hN hx4) ?_;intro hd4;(conv=>whnf);intro hd5;obtain⟨l2,hx5,h⟩:=ab h;(conv=>whnf);refine Side.mk ⟨rfl,rfl⟩ ?_;(conv=>whnf);refine Side.mk ⟨rfl,rfl,rfl⟩ (Need.mk (aD hN hx5 (by decide)) (Eqv.mk (List.map D.str l2) (aH _ hx5) ?_));(conv=>whnf);intro hd6;obtain⟨⟨ra2,rb2,rc2⟩,hx6,h⟩:=ab h;refine ws ?_;(conv=>whnf);refine CallG.pure _ (uk hN hx6) ?_;(conv=>whnf);intro b2;refine ws ?_;obtain⟨r4,hx10,h⟩:=ab h;(conv=>whnf);refine CallG.fresh 24 (i6 hN hx10) ?_;intro hd8;obtain⟨l4,hx11,h⟩:=ab h;refine ws ?_;(conv=>whnf);refine Need.mk (dt _ hx11) (Eqv.mk (List.map D.str l4) (dA _ hx11) ?_);obtain⟨⟨ra4,rb4,rc4,rd2⟩,hx12,h⟩:=ab h;(conv=>whnf);refine CallG.pure _ (sn hN hx12) ?_
  obtain⟨r6,hx15,h⟩:=ab h;(conv=>whnf);refine CallG.fresh 32 (i6 hN hx15) ?_;intro hd10;obtain⟨⟨ra6,rb6,rc6⟩,hx16,h⟩:=ab h;refine ws ?_;(conv=>whnf);refine CallG.pure _ (sq hN hx16) ?_;obtain⟨r8,hx20,h⟩:=ab h;(conv=>whnf);refine CallG.fresh 38 (i6 hN hx20) ?_;intro hd12;obtain⟨l6,hx21,h⟩:=ab h;refine ws ?_;(conv=>whnf);refine Need.mk (dt _ hx21) (Eqv.mk (List.map D.str l6) (dA _ hx21) ?_);obtain⟨⟨ra8,rb8⟩,hx22,h⟩:=ab h;(conv=>whnf);refine CallG.pure _ (ru hN hx22) ?_;(conv=>whnf);intro hd14;obtain⟨⟨ra10,rb10⟩,hx24,h⟩:=ab h;refine ws ?_;(conv=>whnf);refine CallG.pure _ (ol hN hx24) ?_;obtain⟨v2,hx31,h⟩:=ab h;(conv=>whnf);refine SeqG.mk Unit (fun y=>[(0,.d (.bool v2))]) (fun y=>[]) (fun _=>True) ?_ ?_
  ·refine wB (fun hc18=>?_) (fun hc18=>?_)
   ·replace hx31:=af hc18 hx31;(conv=>whnf);refine LnA.mk _ (List.length_map _) ?_;refine wB (fun hc19=>?_) (fun hc19=>?_)
    ·replace hx31:=af hc19 hx31;obtain⟨x6,hx32,hx31⟩:=ab hx31;(conv=>whnf);refine Side.mk rfl ⟨_,aC hx32,ak _ hx32,?_⟩;refine wB (fun hc20=>?_) (fun hc20=>?_)
     ·replace hx31:=af hc20 hx31;obtain⟨x7,hx33,hx31⟩:=ab hx31;(conv=>whnf);refine Side.mk rfl ⟨_,aC hx33,ak _ hx33,?_⟩;refine wB (fun hc21=>?_) (fun hc21=>?_)
      ·replace hx31:=af hc21 hx31;obtain⟨x8,hx34,hx31⟩:=ab hx31;(conv=>whnf);refine Side.mk rfl ⟨_,aC hx34,ak _ hx34,?_⟩;refine wB (fun hc22=>?_) (fun hc22=>?_)
       ·replace hx31:=af hc22 hx31;obtain⟨x9,hx35,hx31⟩:=ab hx31;(conv=>whnf);refine Side.mk rfl ⟨_,aC hx35,ak _ hx35,?_⟩;refine wB (fun hc23=>?_) (fun hc23=>?_)
        ·replace hx31:=af hc23 hx31;obtain⟨x10,hx36,hx31⟩:=ab hx31;(conv=>whnf);refine Side.mk rfl ⟨_,aC hx36,ak _ hx36,?_⟩;refine wB (fun hc24=>?_) (fun hc24=>?_)
         ·replace hx31:=af hc24 hx31;refine wB (fun hc25=>?_) (fun hc25=>?_)
          ·replace hx31:=af hc25 hx31;(conv=>whnf);intro hd16;obtain⟨r10,hx37,hx31⟩:=ab hx31;refine ws ?_;(conv=>whnf);refine CallG.pure _ (su hN hx37) ?_;refine wB (fun hc26=>?_) (fun hc26=>?_)
           ·replace hx31:=af hc26 hx31;refine wB (fun hc27=>?_) (fun hc27=>?_)
            ·replace hx31:=af hc27 hx31;refine wB (fun hc28=>?_) (fun hc28=>?_)
             ·replace hx31:=af hc28 hx31;refine wB (fun hc29=>?_) (fun hc29=>?_)
              ·replace hx31:=af hc29 hx31;refine wB (fun hc30=>?_) (fun hc30=>?_)
               ·replace hx31:=af hc30 hx31;refine wB (fun hc31=>?_) (fun hc31=>?_)
                ·replace hx31:=af hc31 hx31;refine wB (fun hc32=>?_) (fun hc32=>?_)
                 ·replace hx31:=af hc32 hx31;refine wB (fun hc33=>?_) (fun hc33=>?_)
                  ·replace hx31:=af hc33 hx31;refine wB (fun hc34=>?_) (fun hc34=>?_)
                   ·replace hx31:=af hc34 hx31;refine ws ?_;(conv=>whnf);refine StrG.mk ra10 rfl ?_;cases hx31;(conv=>whnf);exact⟨(),trivial,xT⟩
                   ·replace hx31:=ag hc34 hx31;cases hx31;(conv=>whnf);exact⟨(),trivial,xT⟩
                  ·replace hx31:=ag hc33 hx31;cases hx31;(conv=>whnf);exact⟨(),trivial,xT⟩
                 ·replace hx31:=ag hc32 hx31;cases hx31;(conv=>whnf);exact⟨(),trivial,xT⟩
                ·replace hx31:=ag hc31 hx31;cases hx31;(conv=>whnf);exact⟨(),trivial,xT⟩
               ·replace hx31:=ag hc30 hx31;cases hx31;(conv=>whnf);exact⟨(),trivial,xT⟩
              ·replace hx31:=ag hc29 hx31;cases hx31;(conv=>whnf);exact⟨(),trivial,xT⟩
             ·replace hx31:=ag hc28 hx31;cases hx31;(conv=>whnf);exact⟨(),trivial,xT⟩
            ·replace hx31:=ag hc27 hx31;cases hx31;(conv=>whnf);exact⟨(),trivial,xT⟩
           ·replace hx31:=ag hc26 hx31;cases hx31;(conv=>whnf);exact⟨(),trivial,xT⟩
          ·replace hx31:=ag hc25 hx31;cases hx31;(conv=>whnf);exact⟨(),trivial,xT⟩
         ·replace hx31:=ag hc24 hx31;cases hx31;(conv=>whnf);exact⟨(),trivial,xT⟩
        ·replace hx31:=ag hc23 hx31;cases hx31;(conv=>whnf);exact⟨(),trivial,xT⟩
       ·replace hx31:=ag hc22 hx31;cases hx31;(conv=>whnf);exact⟨(),trivial,xT⟩
      ·replace hx31:=ag hc21 hx31;cases hx31;(conv=>whnf);exact⟨(),trivial,xT⟩
     ·replace hx31:=ag hc20 hx31;cases hx31;(conv=>whnf);exact⟨(),trivial,xT⟩
    ·replace hx31:=ag hc19 hx31;cases hx31;(conv=>whnf);exact⟨(),trivial,xT⟩
   ·replace hx31:=ag hc18 hx31;cases hx31;(conv=>whnf);exact⟨(),trivial,xT⟩
  ·rintro _ _;(conv=>whnf);cases h;exact rfl
theorem sv{N:Nat}(hN:N≤1073741824){l1:List (List UInt8)}{r:(List (List UInt8))}(h:iw N l1=some r) :
    ACalls Tryz.prog 9 [.d (.list 1 (List.map D.str l1))] [] fun e os=>∃hd,e=.ret (.sl 0 hd)∧os=[(0,.arr hd 9 1 false (List.map D.str r))]:=by
  refine gk al ap ⟨[],[],[],[],[],0,[]⟩ Tryz.func9 rfl Tryz.call9 rfl ?_
  unfold iw at h
  (conv=>whnf);intro hd3;obtain⟨l3,hx2,h⟩:=ab h;refine ws ?_;(conv=>whnf);refine Side.mk ⟨rfl,rfl,rfl⟩ (Need.mk (aD hN hx2 (by decide)) (Eqv.mk (List.map D.str l3) (aH _ hx2) ?_));(conv=>whnf);intro hd4;(conv=>whnf);cases h;exact⟨_,_,rfl,rfl⟩
theorem zV{N:Nat}(hN:N≤1073741824){lines1:List (List UInt8)}{r:DeskState×(List (List UInt8))×Bool}(h:yK N lines1=some r) :
    ACalls Tryz.prog 8 [.d (.list 1 (List.map D.str lines1))] [] fun e os=>e=.ret (.d (.tup [.agg [.list 1 (List.map I r.1.fBowlers),.list 2 (List.map DeskLane.enc r.1.fLanes),.list 1 (List.map eL r.1.fKept),.list 6 (List.map RateSheet.enc r.1.fSheets),.list 1 (List.map I r.1.fWithdrawn),.list 3 (List.map LadderResult.enc r.1.fResults)],.list 1 (List.map D.str r.2.1),.bool r.2.2]))∧os=[]:=by
  refine ah (fresh:=false) al ap ⟨[],[],[],[],[2,1005,1008],0,[]⟩ Tryz.func8 rfl Tryz.call8 rfl ?_
  unfold yK at h
  (conv=>whnf);intro b2;obtain⟨r2,hx3,h⟩:=ab h;(conv=>whnf);refine CallG.fresh 12 (sv hN hx3) ?_;intro hd2;obtain⟨⟨ra2,rb2,rc2⟩,hx4,h⟩:=ab h;refine ws ?_;(conv=>whnf);refine CallG.pure _ (uk hN hx4) ?_;(conv=>whnf);intro b4;refine ws ?_;obtain⟨v4,hx6,h⟩:=ab h;(conv=>whnf)
  refine SeqG.mk Unit (fun y=>[(0,.d (.list 1 (List.map D.str lines1))),(2,.ptr 2 b2 0),(5,.ptr 5 b4 0),(6,.d (.list 1 (List.map I rb2))),(25,.d (.bool v4))]) (fun y=>[(2,.cells b2 [.nils 1,.nils 2,.nils 1,.nils 6,.nils 1,.nils 3]),(5,.cells b4 [.d (.list 1 (List.map I ra2.fBowlers)),.d (.list 2 (List.map DeskLane.enc ra2.fLanes)),.d (.list 1 (List.map eL ra2.fKept)),.d (.list 6 (List.map RateSheet.enc ra2.fSheets)),.d (.list 1 (List.map I ra2.fWithdrawn)),.d (.list 3 (List.map LadderResult.enc ra2.fResults))])]) (fun _=>True) ?_ ?_
  ·refine wB (fun hc5=>?_) (fun hc5=>?_)
   ·replace hx6:=ag hc5 hx6;(conv=>whnf);refine LnA.mk _ (List.length_map _) ?_;(conv=>whnf);refine LnA.mk _ (List.length_map _) ?_;cases hx6;(conv=>whnf);exact⟨(),trivial,xT⟩
   ·replace hx6:=af hc5 hx6;cases hx6;(conv=>whnf);exact⟨(),trivial,xT⟩
  ·rintro _ _;refine wB (fun hc6=>?_) (fun hc6=>?_)
   ·replace h:=af hc6 h;(iterate 3 refine ws ?_);(conv=>whnf);cases h;exact rfl
   ·replace h:=ag hc6 h;obtain⟨l17,hx34,h⟩:=ab h;(conv=>whnf);refine SeqG.mk Value (fun y=>[(2,.ptr 2 b2 0),(5,.ptr 5 b4 0),(8,.sl 44 y)]) (fun y=>[(2,.cells b2 [.nils 1,.nils 2,.nils 1,.nils 6,.nils 1,.nils 3]),(5,.cells b4 [.d (.list 1 (List.map I ra2.fBowlers)),.d (.list 2 (List.map DeskLane.enc ra2.fLanes)),.d (.list 1 (List.map eL ra2.fKept)),.d (.list 6 (List.map RateSheet.enc ra2.fSheets)),.d (.list 1 (List.map I ra2.fWithdrawn)),.d (.list 3 (List.map LadderResult.enc ra2.fResults))]),(44,.arr y 9 1 false (List.map D.str l17))]) (fun _=>True) ?_ ?_
    ·(conv=>whnf);refine LoopG.mk (Nat×(Int×(List (List UInt8)))×Value) (fun y=>[(0,.d (.list 1 (List.map D.str lines1))),(2,.ptr 2 b2 0),(5,.ptr 5 b4 0),(6,.d (.list 1 (List.map I rb2))),(8,.sl 44 y.2.2),(9,.d (I y.2.1.1))]) (fun y=>[(2,.cells b2 [.nils 1,.nils 2,.nils 1,.nils 6,.nils 1,.nils 3]),(5,.cells b4 [.d (.list 1 (List.map I ra2.fBowlers)),.d (.list 2 (List.map DeskLane.enc ra2.fLanes)),.d (.list 1 (List.map eL ra2.fKept)),.d (.list 6 (List.map RateSheet.enc ra2.fSheets)),.d (.list 1 (List.map I ra2.fWithdrawn)),.d (.list 3 (List.map LadderResult.enc ra2.fResults))]),(44,.arr y.2.2 9 1 false (List.map D.str y.2.1.2))]) (fun y=>aj (fun rr x=>yf N lines1 rb2 rr x.1 x.2) y.1 y.2.1=some l17) (fun y=>y.1) (N,(0,[]),(.slice none 0 0)) hx34 (Sub.eq rfl ?_ ?_) ?_
     ·(repeat ((conv=>whnf);refine nr ?_));exact trivial
     ·(iterate 2 ((conv=>whnf);refine no ?_));(conv=>whnf);refine Need.mk (OLe.nil _ _ _ _) ?_;exact trivial
     ·rintro⟨n2,⟨i8,l29⟩,hd41⟩ hl2;obtain⟨n2,rfl,hl2⟩:=Db hl2;replace hl2:yf N lines1 rb2 (aj (fun rr x=>yf N lines1 rb2 rr x.1 x.2) n2) i8 l29=some l17:=hl2;rw[yf]at hl2;(conv=>whnf);refine LnA.mk _ (List.length_map _) ?_;refine wB (fun hc28=>?_) (fun hc28=>?_)
      ·replace hl2:=af hc28 hl2;obtain⟨l32,hx57,hl2⟩:=ab hl2;(conv=>whnf);refine SeqG.mk Value (fun y=>[(0,.d (.list 1 (List.map D.str lines1))),(2,.ptr 2 b2 0),(5,.ptr 5 b4 0),(6,.d (.list 1 (List.map I rb2))),(8,.sl 44 y),(9,.d (I i8))]) (fun y=>[(2,.cells b2 [.nils 1,.nils 2,.nils 1,.nils 6,.nils 1,.nils 3]),(5,.cells b4 [.d (.list 1 (List.map I ra2.fBowlers)),.d (.list 2 (List.map DeskLane.enc ra2.fLanes)),.d (.list 1 (List.map eL ra2.fKept)),.d (.list 6 (List.map RateSheet.enc ra2.fSheets)),.d (.list 1 (List.map I ra2.fWithdrawn)),.d (.list 3 (List.map LadderResult.enc ra2.fResults))]),(44,.arr y 9 1 false (List.map D.str l32))]) (fun _=>True) ?_ ?_
       ·obtain⟨x35,hx59,hx57⟩:=ab hx57;(conv=>whnf);refine Side.mk rfl ⟨_,aC hx59,ak _ hx59,?_⟩;refine wB (fun hc30=>?_) (fun hc30=>?_)
        ·replace hx57:=af hc30 hx57;obtain⟨x36,hx60,hx57⟩:=ab hx57;(conv=>whnf);refine Side.mk rfl ⟨_,aC hx60,ak _ hx60,?_⟩;(conv=>whnf);intro hd46;obtain⟨l33,hx61,hx57⟩:=ab hx57;(conv=>whnf);refine Side.mk ⟨rfl,rfl⟩ ?_;(conv=>whnf);refine Side.mk ⟨rfl,rfl,rfl⟩ (Need.mk (aD hN hx61 (by decide)) (Eqv.mk (List.map D.str l33) (aH _ hx61) ?_));(conv=>whnf);intro hd47;cases hx57;(conv=>whnf);exact⟨hd47,trivial,xT⟩
        ·replace hx57:=ag hc30 hx57;cases hx57;(conv=>whnf);exact⟨hd41,trivial,xT⟩
       ·rintro hd45 _;(conv=>whnf);exact⟨(n2,(w64 (i8+1),l32),hd45),hl2,xT,Nat.lt_succ_self _⟩
      ·replace hl2:=ag hc28 hl2;cases hl2;(conv=>whnf);exact⟨hd41,trivial,xT⟩
    ·rintro hd25 _;(iterate 4 refine ws ?_);(conv=>whnf);cases h;exact rfl
theorem Cs{N:Nat}(hN:N≤1073741824)(nrec:Nat):∀{n1:Int} {r:(List UInt8)} (h:aj (fun rr x=>xV N rr x) nrec n1=some r),
    ACalls Tryz.prog 10 [.d (I n1)] [] fun e os=>e=.ret (.d (.str r))∧os=[]:=by
  induction nrec with
  | zero=>intro n1 r h;cases h
  | succ nrec ih =>
  intro n1 r h
  replace h:xV N (aj (fun rr x=>xV N rr x) nrec) n1=some r:=h
  refine ah (fresh:=false) al ap ⟨[],[],[],[],[],0,[]⟩ Tryz.func10 rfl Tryz.call10 rfl ?_
  unfold xV at h
  refine wB (fun hc2=>?_) (fun hc2=>?_)
  ·replace h:=af hc2 h;obtain⟨r4,hx7,h⟩:=ab h;(conv=>whnf);refine CallG.pure _ (ih hx7) ?_;obtain⟨s4,hx8,h⟩:=ab h;(conv=>whnf);refine Need.mk (eO hN hx8) ?_;(conv=>whnf);cases h;exact rfl
  ·replace h:=ag hc2 h;refine wB (fun hc4=>?_) (fun hc4=>?_)
   ·replace h:=af hc4 h;(conv=>whnf);intro hd4;(conv=>whnf);refine Side.mk ⟨rfl,rfl⟩ ?_;(conv=>whnf);refine StrG.mk ([Go.IntKind.wrap .u8 (w64 (48+n1))]) rfl ?_;(conv=>whnf);cases h;exact rfl
   ·replace h:=ag hc4 h;(conv=>whnf);refine Need.mk (by decide) ?_;obtain⟨r7,hx12,h⟩:=ab h;(conv=>whnf);refine CallG.pure _ (ih hx12) ?_;(conv=>whnf);refine Need.mk (by decide) ?_;obtain⟨r8,hx13,h⟩:=ab h;(conv=>whnf);refine CallG.pure _ (ih hx13) ?_;obtain⟨s6,hx14,h⟩:=ab h;(conv=>whnf);refine Need.mk (eO hN hx14) ?_;(conv=>whnf);cases h;exact rfl
theorem Bx{N:Nat}(hN:N≤1073741824){n1:Int}{r:(List UInt8)}(h:yU N n1=some r) :
    ACalls Tryz.prog 10 [.d (I n1)] [] fun e os=>e=.ret (.d (.str r))∧os=[]:=Cs hN N h
end Go.Proofs.YtkbeeloccdfomaaGreatDoor
