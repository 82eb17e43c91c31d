/-
  Walks: what the typed functions compute, the program’s functions return.
-/
import Derived.Test.YtiaoloodgildeaaGreatDoorWe
import Derived.Test.YtiaoloodgildeaaGreatDoorVa
namespace Go.Proofs.YtiaoloodgildeaaGreatDoor
open Go Go.Abs Go.Kp
set_option maxRecDepth 100000
set_option maxHeartbeats 8000000
set_option linter.all false
theorem Cs{N:Nat}(hN:N≤1073741824)(nrec:Nat):∀{n1:Int} {r:(List UInt8)} (h:aj (fun rr x=>xV N rr x) nrec n1=some r),
    ACalls Tryz.prog 47 [.d (I n1)] [] fun e os=>e=.ret (.d (.str r))∧os=[]:=by
  induction nrec with
  | zero=>intro n1 r h;cases h
  | succ nrec ih =>
  intro n1 r h
  replace h:xV N (aj (fun rr x=>xV N rr x) nrec) n1=some r:=h
  refine ah (fresh:=false) al ap ⟨[],[],[],[],[],0,[]⟩ Tryz.func47 rfl Tryz.call47 rfl ?_
  unfold xV at h
  refine wB (fun hc2=>?_) (fun hc2=>?_)
  ·replace h:=af hc2 h;obtain⟨r4,hx7,h⟩:=ab h;(conv=>whnf);refine CallG.pure _ (ih hx7) ?_;obtain⟨s4,hx8,h⟩:=ab h;(conv=>whnf);refine Need.mk (eO hN hx8) ?_;(conv=>whnf);cases h;exact rfl
  ·replace h:=ag hc2 h;refine wB (fun hc4=>?_) (fun hc4=>?_)
   ·replace h:=af hc4 h;(conv=>whnf);intro hd4;(conv=>whnf);refine Side.mk ⟨rfl,rfl⟩ ?_;(conv=>whnf);refine StrG.mk ([Go.IntKind.wrap .u8 (w64 (48+n1))]) rfl ?_;(conv=>whnf);cases h;exact rfl
   ·replace h:=ag hc4 h;(conv=>whnf);refine Need.mk (by decide) ?_;obtain⟨r7,hx12,h⟩:=ab h;(conv=>whnf);refine CallG.pure _ (ih hx12) ?_;(conv=>whnf);refine Need.mk (by decide) ?_;obtain⟨r8,hx13,h⟩:=ab h;(conv=>whnf);refine CallG.pure _ (ih hx13) ?_;obtain⟨s6,hx14,h⟩:=ab h;(conv=>whnf);refine Need.mk (eO hN hx14) ?_;(conv=>whnf);cases h;exact rfl
theorem Bx{N:Nat}(hN:N≤1073741824){n1:Int}{r:(List UInt8)}(h:yU N n1=some r) :
    ACalls Tryz.prog 47 [.d (I n1)] [] fun e os=>e=.ret (.d (.str r))∧os=[]:=Cs hN N h
theorem DQ{N:Nat}(hN:N≤1073741824){n1:Int}{many1:Int}{r:(List UInt8)}(h:C9 N n1 many1=some r) :
    ACalls Tryz.prog 149 [.d (I n1),.d (I many1)] [] fun e os=>e=.ret (.d (.str r))∧os=[]:=by
  refine ah (fresh:=false) al ap ⟨[],[],[],[],[1002],0,[]⟩ Tryz.func149 rfl Tryz.call149 rfl ?_
  unfold C9 at h
  obtain⟨r2,hx2,h⟩:=ab h;(conv=>whnf);refine CallG.pure _ (Bx hN hx2) ?_;obtain⟨s8,hx6,h⟩:=ab h;(conv=>whnf);refine SeqG.mk Unit (fun y=>[(5,.d (.str s8))]) (fun y=>[]) (fun _=>True) ?_ ?_
  ·(conv=>whnf);refine LoopG.mk (Nat×(List UInt8)) (fun y=>[(1,.d (I many1)),(5,.d (.str y.2))]) (fun y=>[]) (fun y=>aj (fun rr x=>Cm N many1 rr x) y.1 y.2=some s8) (fun y=>y.1) (N,r2) hx6 (Sub.eq rfl ?_ ?_) ?_
   ·(repeat ((conv=>whnf);refine nr ?_));exact trivial
   ·exact trivial
   ·rintro⟨n3,s14⟩ hl2;obtain⟨n3,rfl,hl2⟩:=ar hl2;replace hl2:Cm N many1 (aj (fun rr x=>Cm N many1 rr x) n3) s14=some s8:=hl2;rw[Cm]at hl2;(conv=>whnf);refine SeqG.mk Unit (fun y=>[(1,.d (I many1)),(5,.d (.str s14))]) (fun y=>[]) (fun y=>Dc N s14 (aj (fun rr x=>Cm N many1 rr x) n3)=some s8) ?_ ?_
    ·refine wB (fun hc12=>?_) (fun hc12=>?_)
     ·replace hl2:=af hc12 hl2;(conv=>whnf);exact⟨(),hl2,xT⟩
     ·replace hl2:=ag hc12 hl2;cases hl2;(conv=>whnf);exact⟨(),trivial,xT⟩
    ·rintro _ h;unfold Dc at h;obtain⟨s15,hx9,h⟩:=ab h;(conv=>whnf);refine Need.mk (eO hN hx9) ?_;(conv=>whnf);exact⟨(n3,(([48]:List UInt8)++s14)),h,xT,Nat.lt_succ_self _⟩
  ·rintro _ _;(conv=>whnf);cases h;exact rfl
theorem Dq{N:Nat}(hN:N≤1073741824){s1:List UInt8}{index1:Int}{r:(List UInt8)}(h:Da N s1 index1=some r) :
    ACalls Tryz.prog 94 [.d (.str s1),.d (I index1)] [] fun e os=>e=.ret (.d (.str r))∧os=[]:=by
  refine ah (fresh:=false) al ap ⟨[],[],[],[],[1002],0,[]⟩ Tryz.func94 rfl Tryz.call94 rfl ?_
  unfold Da at h
  obtain⟨sum6,hx7,h⟩:=ab h;(conv=>whnf);refine SeqG.mk Unit (fun y=>[(0,.d (.str s1)),(5,.d (I sum6))]) (fun y=>[]) (fun _=>True) ?_ ?_
  ·(conv=>whnf);refine LoopG.mk (Nat×(Int×Int)) (fun y=>[(0,.d (.str s1)),(5,.d (I y.2.1)),(6,.d (I y.2.2))]) (fun y=>[]) (fun y=>aj (fun rr x=>CI N s1 rr x.1 x.2) y.1 y.2=some sum6) (fun y=>y.1) (N,(w64 (13*(w64 (index1+1))),0)) hx7 (Sub.eq rfl ?_ ?_) ?_
   ·(repeat ((conv=>whnf);refine nr ?_));exact trivial
   ·exact trivial
   ·rintro⟨n2,⟨sum11,k8⟩⟩ hl2;obtain⟨n2,rfl,hl2⟩:=ar hl2;replace hl2:CI N s1 (aj (fun rr x=>CI N s1 rr x.1 x.2) n2) sum11 k8=some sum6:=hl2;rw[CI]at hl2;refine wB (fun hc12=>?_) (fun hc12=>?_)
    ·replace hl2:=af hc12 hl2;obtain⟨c12,hx13,hl2⟩:=ab hl2;(conv=>whnf);refine ByG.mk c12 (aC hx13) (Fc hx13) ?_;(conv=>whnf);exact⟨(n2,(w64 (sum11+(w64 ((w64 (k8+2))*(w64 ((w64 (c12.toNat:Int))+1))))),w64 (k8+1))),hl2,xT,Nat.lt_succ_self _⟩
    ·replace hl2:=ag hc12 hl2;cases hl2;(conv=>whnf);exact⟨(),trivial,xT⟩
  ·rintro _ _;obtain⟨r3,hx22,h⟩:=ab h;(conv=>whnf);refine CallG.pure _ (DQ hN hx22) ?_;obtain⟨s8,hx23,h⟩:=ab h;(conv=>whnf);refine Need.mk (eO hN hx23) ?_;obtain⟨s9,hx24,h⟩:=ab h;(conv=>whnf);refine Need.mk (eO hN hx24) ?_;(conv=>whnf);refine Need.mk (by decide) ?_;obtain⟨r4,hx25,h⟩:=ab h;(conv=>whnf);refine CallG.pure _ (DQ hN hx25) ?_;obtain⟨s10,hx26,h⟩:=ab h;(conv=>whnf);refine Need.mk (eO hN hx26) ?_;obtain⟨s11,hx27,h⟩:=ab h;(conv=>whnf);refine Need.mk (eO hN hx27) ?_;obtain⟨s12,hx28,h⟩:=ab h;(conv=>whnf);refine Need.mk (eO hN hx28) ?_;obtain⟨s13,hx29,h⟩:=ab h;(conv=>whnf);refine Need.mk (eO hN hx29) ?_;(conv=>whnf);cases h;exact rfl
theorem E3{N:Nat}(hN:N≤1073741824){b1:List UInt8}{r:(List (List UInt8))×Int}(h:Dd N b1=some r) :
    ACalls Tryz.prog 55 [.d (.str b1)] [] fun e os=>e=.ret (.d (.tup [.list 1 (List.map D.str r.1),I r.2]))∧os=[]:=by
  refine ah (fresh:=false) al ap ⟨[],[],[],[],[6,9,1003,1005,1008],0,[]⟩ Tryz.func55 rfl Tryz.call55 rfl ?_
  unfold Dd at h
  obtain⟨⟨at342,l534⟩,hx1843,h⟩:=ab h;(conv=>whnf);refine SeqG.mk Value (fun y=>[(4,.sl 52 y),(5,.d (I at342))]) (fun y=>[(52,.arr y 9 1 false (List.map D.str l534))]) (fun _=>True) ?_ ?_
  ·(conv=>whnf);refine LoopG.mk (Nat×(Int×(List (List UInt8)))×Value) (fun y=>[(0,.d (.str b1)),(4,.sl 52 y.2.2),(5,.d (I y.2.1.1))]) (fun y=>[(52,.arr y.2.2 9 1 false (List.map D.str y.2.1.2))]) (fun y=>aj (fun rr x=>yn N b1 rr x.1 x.2) y.1 y.2.1=some (at342,l534)) (fun y=>y.1) (N,(0,[]),(.slice none 0 0)) hx1843 (Sub.eq rfl ?_ ?_) ?_
   ·(repeat ((conv=>whnf);refine nr ?_));exact trivial
   ·(conv=>whnf);refine Need.mk (OLe.nil _ _ _ _) ?_;exact trivial
   ·rintro⟨n182,⟨at388,l604⟩,hd820⟩ hl38;obtain⟨n182,rfl,hl38⟩:=ar hl38;replace hl38:yn N b1 (aj (fun rr x=>yn N b1 rr x.1 x.2) n182) at388 l604=some (at342,l534):=hl38;rw[yn]at hl38;(conv=>whnf);refine SeqG.mk Unit (fun y=>[(0,.d (.str b1)),(4,.sl 52 hd820),(5,.d (I at388))]) (fun y=>[(52,.arr hd820 9 1 false (List.map D.str l604))]) (fun y=>C7 N b1 at388 l604 (aj (fun rr x=>yn N b1 rr x.1 x.2) n182)=some (at342,l534)) ?_ ?_
    ·(conv=>whnf);refine Side.mk rfl (LnA.mk _ (List.length_map _) ?_);refine wB (fun hc1255=>?_) (fun hc1255=>?_)
     ·replace hl38:=af hc1255 hl38;(conv=>whnf);refine⟨(),hl38,Sub.eq rfl ?_ ?_⟩
      ·(repeat ((conv=>whnf);refine nr ?_));exact trivial
      ·(conv=>whnf);refine no ?_;exact trivial
     ·replace hl38:=ag hc1255 hl38;cases hl38;(conv=>whnf);refine⟨hd820,trivial,Sub.eq rfl ?_ ?_⟩
      ·(repeat ((conv=>whnf);refine nr ?_));exact trivial
      ·(conv=>whnf);refine no ?_;exact trivial
    ·rintro _ h;unfold C7 at h;obtain⟨⟨at399,found389,l621⟩,hx2132,h⟩:=ab h;(conv=>whnf);refine SeqG.mk Value (fun y=>[(0,.d (.str b1)),(4,.sl 52 y),(5,.d (I at399)),(6,.d (.bool found389))]) (fun y=>[(52,.arr y 9 1 false (List.map D.str l621))]) (fun _=>True) ?_ ?_
     ·(conv=>whnf);refine LoopG.mk (Nat×(Int×Bool×Int×(List (List UInt8)))×Value) (fun y=>[(0,.d (.str b1)),(4,.sl 52 y.2.2),(5,.d (I y.2.1.1)),(6,.d (.bool y.2.1.2.1)),(7,.d (I y.2.1.2.2.1))]) (fun y=>[(52,.arr y.2.2 9 1 false (List.map D.str y.2.1.2.2.2))]) (fun y=>aj (fun rr x=>yc N b1 rr x.1 x.2.1 x.2.2.1 x.2.2.2) y.1 y.2.1=some (at399,found389,l621)) (fun y=>y.1) (N,(at388,false,0,l604),hd820) hx2132 (Sub.eq rfl ?_ ?_) ?_
      ·(repeat ((conv=>whnf);refine nr ?_));exact trivial
      ·(conv=>whnf);refine no ?_;exact trivial
      ·rintro⟨n192,⟨at407,found397,n191,l633⟩,hd859⟩ hl40;obtain⟨n192,rfl,hl40⟩:=ar hl40;replace hl40:yc N b1 (aj (fun rr x=>yc N b1 rr x.1 x.2.1 x.2.2.1 x.2.2.2) n192) at407 found397 n191 l633=some (at399,found389,l621):=hl40;rw[yc]at hl40;obtain⟨v1468,hx2172,hl40⟩:=ab hl40;(conv=>whnf);refine SeqG.mk Unit (fun y=>[(0,.d (.str b1)),(4,.sl 52 hd859),(5,.d (I at407)),(6,.d (.bool found397)),(7,.d (I n191)),(26,.d (.bool v1468))]) (fun y=>[(52,.arr hd859 9 1 false (List.map D.str l633))]) (fun _=>True) ?_ ?_
       ·refine wB (fun hc1249=>?_) (fun hc1249=>?_)
        ·replace hx2172:=af hc1249 hx2172;refine wB (fun hc1250=>?_) (fun hc1250=>?_)
         ·replace hx2172:=af hc1250 hx2172;cases hx2172;(conv=>whnf);refine⟨(),trivial,Sub.eq rfl ?_ ?_⟩
          ·(repeat ((conv=>whnf);refine nr ?_));exact trivial
          ·(conv=>whnf);refine no ?_;exact trivial
         ·replace hx2172:=ag hc1250 hx2172;cases hx2172;(conv=>whnf);refine⟨(),trivial,Sub.eq rfl ?_ ?_⟩
          ·(repeat ((conv=>whnf);refine nr ?_));exact trivial
          ·(conv=>whnf);refine no ?_;exact trivial
        ·replace hx2172:=ag hc1249 hx2172;cases hx2172;(conv=>whnf);refine⟨(),trivial,Sub.eq rfl ?_ ?_⟩
         ·(repeat ((conv=>whnf);refine nr ?_));exact trivial
         ·(conv=>whnf);refine no ?_;exact trivial
       ·rintro _ _;refine wB (fun hc1251=>?_) (fun hc1251=>?_)
        ·replace hl40:=af hc1251 hl40;obtain⟨⟨at409,found399,l636⟩,hx2181,hl40⟩:=ab hl40;(conv=>whnf);refine SeqG.mk Value (fun y=>[(0,.d (.str b1)),(4,.sl 52 y),(5,.d (I at409)),(6,.d (.bool found399)),(7,.d (I n191))]) (fun y=>[(52,.arr y 9 1 false (List.map D.str l636))]) (fun _=>True) ?_ ?_
         ·obtain⟨_,hx2183,hx2181⟩:=ab hx2181;(conv=>whnf);refine Need.mk (DD hx2183) ?_;obtain⟨⟨line456,v1472⟩,hx2186,hx2181⟩:=ab hx2181;(conv=>whnf);refine SeqG.mk Unit (fun y=>[(0,.d (.str b1)),(4,.sl 52 hd859),(5,.d (I at407)),(6,.d (.bool found397)),(7,.d (I n191)),(8,.d (.str line456)),(48,.d (.bool v1472))]) (fun y=>[(52,.arr hd859 9 1 false (List.map D.str l633))]) (fun _=>True) ?_ ?_
          ·obtain⟨_,hx2187,hx2186⟩:=ab hx2186;obtain⟨r456,hx2188,hx2186⟩:=ab hx2186;(conv=>whnf);refine DrawG.mk (.take 0 (.take 1 (.take 2 (.take 3 (.take 4 (.take 5 (.take 7 (.take 8 (.take 9 (.alt 6 [9,8,7,4,3,2] (.alt 10 [8,4,3,2] (.take 11 .done) .nil) (.alt 10 [8,5,4,3,2,1,0] (.alt 6 [8,4,3,2] (.take 11 .done) .nil) .nil))))))))))) (by kernel_rfl) ?_;(conv=>whnf);refine Side.mk rfl (LnA.mk _ (List.length_map _) ?_);(conv=>whnf);refine Both.mk ?_ ?_
           ·(conv=>whnf);refine Need.mk (DD hx2187) ?_;(conv=>whnf);refine Side.mk rfl (LnA.mk _ (List.length_map _) ?_);(iterate 6 refine wl ?_);refine wb ?_;(conv=>whnf);refine CallG.pure _ (Dq hN hx2188) ?_;(iterate 4 refine wl ?_);cases hx2186;(conv=>whnf);refine⟨(),trivial,Sub.eq rfl ?_ ?_⟩
            ·(repeat ((conv=>whnf);refine nr ?_));exact trivial
            ·(conv=>whnf);refine no ?_;exact trivial
           ·refine wb ?_;(conv=>whnf);refine CallG.pure _ (Dq hN hx2188) ?_;(iterate 7 refine wl ?_);refine wb ?_;(conv=>whnf);refine Need.mk (DD hx2187) ?_;(iterate 4 refine wl ?_);cases hx2186;(conv=>whnf);refine⟨(),trivial,Sub.eq rfl ?_ ?_⟩
            ·(repeat ((conv=>whnf);refine nr ?_));exact trivial
            ·(conv=>whnf);refine no ?_;exact trivial
          ·rintro _ _;refine wB (fun hc1253=>?_) (fun hc1253=>?_)
           ·replace hx2181:=af hc1253 hx2181;(conv=>whnf);intro hd864;obtain⟨l637,hx2189,hx2181⟩:=ab hx2181;(conv=>whnf);refine Side.mk ⟨rfl,rfl⟩ ?_;(conv=>whnf);refine Side.mk ⟨rfl,rfl,rfl⟩ (Need.mk (aD hN hx2189 (by decide)) (Eqv.mk (List.map D.str l637) (aH _ hx2189) ?_));(conv=>whnf);intro hd865;cases hx2181;(conv=>whnf);refine⟨hd865,trivial,Sub.eq rfl ?_ ?_⟩
            ·(repeat ((conv=>whnf);refine nr ?_));exact trivial
            ·(conv=>whnf);refine no ?_;exact trivial
           ·replace hx2181:=ag hc1253 hx2181;cases hx2181;(conv=>whnf);refine⟨hd859,trivial,Sub.eq rfl ?_ ?_⟩
            ·(repeat ((conv=>whnf);refine nr ?_));exact trivial
            ·(conv=>whnf);refine no ?_;exact trivial
         ·rintro hd863 _;(conv=>whnf);refine⟨(n192,(at409,found399,w64 (n191+1),l636),hd863),hl40,Sub.eq rfl ?_ ?_,Nat.lt_succ_self _⟩
          ·(repeat ((conv=>whnf);refine nr ?_));exact trivial
          ·(conv=>whnf);refine no ?_;exact trivial
        ·replace hl40:=ag hc1251 hl40;cases hl40;(conv=>whnf);refine⟨hd859,trivial,Sub.eq rfl ?_ ?_⟩
         ·(repeat ((conv=>whnf);refine nr ?_));exact trivial
         ·(conv=>whnf);refine no ?_;exact trivial
     ·rintro hd843 _;refine wB (fun hc1254=>?_) (fun hc1254=>?_)
      ·replace h:=af hc1254 h;cases h;(conv=>whnf);refine⟨hd843,trivial,Sub.eq rfl ?_ ?_⟩
       ·(repeat ((conv=>whnf);refine nr ?_));exact trivial
       ·(conv=>whnf);refine no ?_;exact trivial
      ·replace h:=ag hc1254 h;(conv=>whnf);refine⟨(n182,(at399,l621),hd843),h,Sub.eq rfl ?_ ?_,Nat.lt_succ_self _⟩
       ·(repeat ((conv=>whnf);refine nr ?_));exact trivial
       ·(conv=>whnf);refine no ?_;exact trivial
  ·rintro hd726 _;refine ws ?_;(conv=>whnf);cases h;exact rfl
theorem ED{N:Nat}(hN:N≤1073741824){lines1:List (List UInt8)}{r:Int}(h:Do N lines1=some r) :
    ACalls Tryz.prog 24 [.d (.list 1 (List.map D.str lines1))] [] fun e os=>e=.ret (.d (I r))∧os=[]:=by
  refine ah (fresh:=false) al ap ⟨[],[],[],[],[],0,[]⟩ Tryz.func24 rfl Tryz.call24 rfl ?_
  unfold Do at h
  obtain⟨r4,hx4,h⟩:=ab h;(conv=>whnf);refine CallG.pure _ (rm hN hx4) ?_;refine wB (fun hc2=>?_) (fun hc2=>?_)
  ·replace h:=af hc2 h;(conv=>whnf);cases h;exact rfl
  ·replace h:=ag hc2 h;(conv=>whnf);cases h;exact rfl
theorem D3{N:Nat}(hN:N≤1073741824){lines1:List (List UInt8)}{r:(List UInt8)}(h:Di N lines1=some r) :
    ACalls Tryz.prog 57 [.d (.list 1 (List.map D.str lines1))] [] fun e os=>e=.ret (.d (.str r))∧os=[]:=by
  refine ah (fresh:=false) al ap ⟨[],[],[],[],[1002],0,[]⟩ Tryz.func57 rfl Tryz.call57 rfl ?_
  unfold Di at h
  obtain⟨out6,hx19,h⟩:=ab h;(conv=>whnf);refine SeqG.mk Unit (fun y=>[(3,.d (.str out6))]) (fun y=>[]) (fun _=>True) ?_ ?_
  ·(conv=>whnf);refine LoopG.mk (Nat×((List UInt8)×Int)) (fun y=>[(0,.d (.list 1 (List.map D.str lines1))),(3,.d (.str y.2.1)),(4,.d (I y.2.2))]) (fun y=>[]) (fun y=>aj (fun rr x=>CS N lines1 rr x.1 x.2) y.1 y.2=some out6) (fun y=>y.1) (N,(([]:List UInt8),0)) hx19 (Sub.eq rfl ?_ ?_) ?_
   ·(repeat ((conv=>whnf);refine nr ?_));exact trivial
   ·exact trivial
   ·rintro⟨n2,⟨out11,i8⟩⟩ hl2;obtain⟨n2,rfl,hl2⟩:=ar hl2;replace hl2:CS N lines1 (aj (fun rr x=>CS N lines1 rr x.1 x.2) n2) out11 i8=some out6:=hl2;rw[CS]at hl2;(conv=>whnf);refine LnA.mk _ (List.length_map _) ?_;refine wB (fun hc12=>?_) (fun hc12=>?_)
    ·replace hl2:=af hc12 hl2;obtain⟨x12,hx35,hl2⟩:=ab hl2;(conv=>whnf);refine Side.mk rfl ⟨_,aC hx35,ak _ hx35,?_⟩;obtain⟨r12,hx36,hl2⟩:=ab hl2;(conv=>whnf);refine CallG.pure _ (Dq hN hx36) ?_;obtain⟨s12,hx37,hl2⟩:=ab hl2;(conv=>whnf);refine Need.mk (eO hN hx37) ?_;(conv=>whnf);exact⟨(n2,((out11++r12),w64 (i8+1))),hl2,xT,Nat.lt_succ_self _⟩
    ·replace hl2:=ag hc12 hl2;cases hl2;(conv=>whnf);exact⟨(),trivial,xT⟩
  ·rintro _ _;(conv=>whnf);cases h;exact rfl
end Go.Proofs.YtiaoloodgildeaaGreatDoor
