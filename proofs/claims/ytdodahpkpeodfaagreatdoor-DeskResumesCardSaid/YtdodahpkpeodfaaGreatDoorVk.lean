/-
  Walks: what the typed functions compute, the program’s functions return.
-/
import Derived.Test.YtdodahpkpeodfaaGreatDoorWe
import Derived.Test.YtdodahpkpeodfaaGreatDoorVf
import Derived.Test.YtdodahpkpeodfaaGreatDoorVg
open List renaming map→Jy
open List renaming length_map→Ia
open Nat renaming lt_succ_self→yb
namespace Go.Proofs.YtdodahpkpeodfaaGreatDoor
open Go Go.Abs Go.Kp
set_option maxRecDepth 100000
set_option maxHeartbeats 64000000
set_option linter.all false
theorem rm{N:Nat}(hN:N≤1073741824){lines1:List (List UInt8)}{r:Bool}(h:gz N lines1=some r) :
    ACalls Tryz.prog 37 [.d (.list 1 (Jy D.str lines1))] [] fun e os=>e=.ret (.d (.bool r))∧os=[]:=by
  refine Cs al ap [1001] 0 Tryz.func37 rfl Tryz.call37 rfl ?_
  unfold gz at h
  repeat' ((conv=>whnf)<;>first|refine u (k:=?_)|exact v|refine st0 1001 (F:=C7 (fc N lines1)) r [0] (fun y=>[]) ?_ ?_|refine lp0 2 h [0] (fun y=>[(3,.d (I y.x))]) ?_ ?_|(rw[bf]at h;delta w64 at h)|unfold fc at h|intro _|apply Br.mk|refine TyG.mk fun _ h=>?_|(refine hs h ?_;intro _ _ h))
theorem Nh{N:Nat}(hN:N≤1073741824)(nrec:Nat):∀{n1:Int} {r:(List UInt8)} (h:loopN (fun rr x=>CV N rr x) nrec n1=some r),
    ACalls Tryz.prog 57 [.d (I n1)] [] fun e os=>e=.ret (.d (.str r))∧os=[]:=by
  induction nrec with
  | zero=>intro n1 r h;cases h
  | succ nrec ih =>
  intro n1 r h
  replace h:CV N (loopN (fun rr x=>CV N rr x) nrec) n1=some r:=h
  refine Cs al ap [] 0 Tryz.func57 rfl Tryz.call57 rfl ?_
  unfold CV at h
  refine wB (fun hc2=>?_) (fun hc2=>?_)
  ·replace h:=ite_t hc2 h;obtain⟨r4,hx7,h⟩:=obind h;(conv=>whnf);refine CallG.pure _ (ih hx7) ?_;obtain⟨s4,hx8,h⟩:=obind h;(conv=>whnf);refine Need.mk (eO hN hx8) ?_;(conv=>whnf);cases h;exact rfl
  ·replace h:=ite_f hc2 h;refine wB (fun hc4=>?_) (fun hc4=>?_)
   ·replace h:=ite_t hc4 h;(conv=>whnf);intro hd4;(conv=>whnf);refine Side.mk ⟨rfl,rfl⟩ ?_;(conv=>whnf);refine StrG.mk ([Go.IntKind.wrap .u8 (w64 (48+n1))]) rfl ?_;(conv=>whnf);cases h;exact rfl
   ·replace h:=ite_f hc4 h;(conv=>whnf);refine Need.mk (by decide) ?_;obtain⟨r7,hx12,h⟩:=obind h;(conv=>whnf);refine CallG.pure _ (ih hx12) ?_;(conv=>whnf);refine Need.mk (by decide) ?_;obtain⟨r8,hx13,h⟩:=obind h;(conv=>whnf);refine CallG.pure _ (ih hx13) ?_;obtain⟨s6,hx14,h⟩:=obind h;(conv=>whnf);refine Need.mk (eO hN hx14) ?_;(conv=>whnf);cases h;exact rfl
theorem FN{N:Nat}(hN:N≤1073741824){n1:Int}{r:(List UInt8)}(h:DV N n1=some r) :
    ACalls Tryz.prog 57 [.d (I n1)] [] fun e os=>e=.ret (.d (.str r))∧os=[]:=Nh hN N h
theorem Oe{N:Nat}(hN:N≤1073741824){n1:Int}{many1:Int}{r:(List UInt8)}(h:Lm N n1 many1=some r) :
    ACalls Tryz.prog 110 [.d (I n1),.d (I many1)] [] fun e os=>e=.ret (.d (.str r))∧os=[]:=by
  refine Cs al ap [1002] 0 Tryz.func110 rfl Tryz.call110 rfl ?_
  unfold Lm at h
  obtain⟨r2,hx2,h⟩:=obind h;(conv=>whnf);refine CallG.pure _ (FN hN hx2) ?_;obtain⟨s8,hx6,h⟩:=obind h;(conv=>whnf);refine sk Unit [] [] (fun _=>[(5,.d (.str s8))]) (fun _=>[]) (fun _=>True) ?_ ?_
  ·(conv=>whnf);refine lk (Nat×(List UInt8)) [1] [] (fun y=>[(5,.d (.str y.2))]) (fun _=>[]) (fun y=>loopN (fun rr x=>Hm N many1 rr x) y.1 y.2=some s8) (fun y=>y.1) (N,r2) hx6 Cl ?_
   ·rintro⟨n3,s14⟩ hl2;obtain⟨n3,rfl,hl2⟩:=loopN_some hl2;replace hl2:Hm N many1 (loopN (fun rr x=>Hm N many1 rr x) n3) s14=some s8:=hl2;rw[Hm]at hl2;(conv=>whnf);refine sk Unit [1,5] [] (fun _=>[]) (fun _=>[]) (fun y=>Mw N s14 (loopN (fun rr x=>Hm N many1 rr x) n3)=some s8) ?_ ?_
    ·refine wB (fun hc12=>?_) (fun hc12=>?_)
     ·replace hl2:=ite_t hc12 hl2;(conv=>whnf);exact⟨(),hl2,Cl⟩
     ·replace hl2:=ite_f hc12 hl2;cases hl2;(conv=>whnf);exact⟨(),trivial,Cl⟩
    ·rintro _ h;unfold Mw at h;obtain⟨s15,hx9,h⟩:=obind h;(conv=>whnf);refine Need.mk (eO hN hx9) ?_;(conv=>whnf);exact⟨(n3,(([48]:List UInt8)++s14)),h,Cl,yb _⟩
  ·rintro _ _;(conv=>whnf);cases h;exact rfl
theorem MF{N:Nat}(hN:N≤1073741824){s1:List UInt8}{index1:Int}{r:(List UInt8)}(h:Lo N s1 index1=some r) :
    ACalls Tryz.prog 64 [.d (.str s1),.d (I index1)] [] fun e os=>e=.ret (.d (.str r))∧os=[]:=by
  refine Cs al ap [1002] 0 Tryz.func64 rfl Tryz.call64 rfl ?_
  unfold Lo at h
  delta w64 at h
  repeat' ((conv=>whnf)<;>first|refine u (k:=?_)|exact v|refine Need.mk (eO hN am) ?_|refine Need.mk (by decide) ?_|refine sq0 1002 h [0] (fun x=>[(5,.d (I x))]) ?_ ?_|refine lp0 3 h [0] (fun y=>[(5,.d (I y.x.1)),(6,.d (I y.x.2))]) ?_ ?_|refine cp (Oe hN am) ?_|(rw[Ig]at h;delta w64 at h)|intro _|apply Br.mk|refine TyG.mk fun _ h=>?_|(refine hs h ?_;intro _ _ h))
theorem OZ{N:Nat}(hN:N≤1073741824){b1:List UInt8}{r:Int×(List (List UInt8))}(h:MC N b1=some r) :
    ACalls Tryz.prog 29 [.d (.str b1)] [] fun ae os=>∃y:Value,True∧ae=.ret (.tup [.sl 150052 y,.d (I r.1)])∧os=[(150052,.arr y 9 1 false (Jy D.str r.2))]:=by
  refine aJ (fresh:=true) al ap ⟨[],[],[],[],[6,9,1003,1005,1008],150000,[]⟩ Tryz.func29 rfl Tryz.call29 rfl ?_
  unfold MC at h
  obtain⟨⟨at342,l534⟩,hx1843,h⟩:=obind h;(conv=>whnf);refine sk Value [] [] (fun y=>[(4,.sl 150052 y),(5,.d (I at342))]) (fun y=>[(150052,.arr y 9 1 false (Jy D.str l534))]) (fun _=>True) ?_ ?_
  ·(conv=>whnf);refine lk (Nat×(Int×(List (List UInt8)))×Value) [0] [] (fun y=>[(4,.sl 150052 y.2.2),(5,.d (I y.2.1.1))]) (fun y=>[(150052,.arr y.2.2 9 1 false (Jy D.str y.2.1.2))]) (fun y=>loopN (fun rr x=>yE N b1 rr x.1 x.2) y.1 y.2.1=some (at342,l534)) (fun y=>y.1) (N,(0,[]),(.slice none 0 0)) hx1843 Cl ?_
   ·rintro⟨n182,⟨at388,l604⟩,hd820⟩ hl38;obtain⟨n182,rfl,hl38⟩:=loopN_some hl38;replace hl38:yE N b1 (loopN (fun rr x=>yE N b1 rr x.1 x.2) n182) at388 l604=some (at342,l534):=hl38;rw[yE]at hl38;(conv=>whnf);refine sk Unit [0,4,5] [150052] (fun _=>[]) (fun _=>[]) (fun y=>KH N b1 at388 l604 (loopN (fun rr x=>yE N b1 rr x.1 x.2) n182)=some (at342,l534)) ?_ ?_
    ·(conv=>whnf);refine Side.mk rfl (LnA.mk _ (Ia _) ?_);refine wB (fun hc1255=>?_) (fun hc1255=>?_)
     ·replace hl38:=ite_t hc1255 hl38;(conv=>whnf);exact⟨(),hl38,Cl⟩
     ·replace hl38:=ite_f hc1255 hl38;cases hl38;(conv=>whnf);exact⟨hd820,trivial,Cl⟩
    ·rintro _ h;unfold KH at h;obtain⟨⟨at399,found389,l621⟩,hx2132,h⟩:=obind h;(conv=>whnf);refine sk Value [0] [] (fun y=>[(4,.sl 150052 y),(5,.d (I at399)),(6,.d (.bool found389))]) (fun y=>[(150052,.arr y 9 1 false (Jy D.str l621))]) (fun _=>True) ?_ ?_
     ·(conv=>whnf);refine lk (Nat×(Int×Bool×Int×(List (List UInt8)))×Value) [0] [] (fun y=>[(4,.sl 150052 y.2.2),(5,.d (I y.2.1.1)),(6,.d (.bool y.2.1.2.1)),(7,.d (I y.2.1.2.2.1))]) (fun y=>[(150052,.arr y.2.2 9 1 false (Jy D.str y.2.1.2.2.2))]) (fun y=>loopN (fun rr x=>xV N b1 rr x.1 x.2.1 x.2.2.1 x.2.2.2) y.1 y.2.1=some (at399,found389,l621)) (fun y=>y.1) (N,(at388,false,0,l604),hd820) hx2132 Cl ?_
      ·rintro⟨n192,⟨at407,found397,n191,l633⟩,hd859⟩ hl40;obtain⟨n192,rfl,hl40⟩:=loopN_some hl40;replace hl40:xV N b1 (loopN (fun rr x=>xV N b1 rr x.1 x.2.1 x.2.2.1 x.2.2.2) n192) at407 found397 n191 l633=some (at399,found389,l621):=hl40;rw[xV]at hl40;obtain⟨v1468,hx2172,hl40⟩:=obind hl40;(conv=>whnf);refine sk Unit [0,4,5,6,7] [150052] (fun _=>[(26,.d (.bool v1468))]) (fun _=>[]) (fun _=>True) ?_ ?_
       ·refine wB (fun hc1249=>?_) (fun hc1249=>?_)
        ·replace hx2172:=ite_t hc1249 hx2172;refine wB (fun hc1250=>?_) (fun hc1250=>?_)
         ·replace hx2172:=ite_t hc1250 hx2172;cases hx2172;(conv=>whnf);exact⟨(),trivial,Cl⟩
         ·replace hx2172:=ite_f hc1250 hx2172;cases hx2172;(conv=>whnf);exact⟨(),trivial,Cl⟩
        ·replace hx2172:=ite_f hc1249 hx2172;cases hx2172;(conv=>whnf);exact⟨(),trivial,Cl⟩
       ·rintro _ _;refine wB (fun hc1251=>?_) (fun hc1251=>?_)
        ·replace hl40:=ite_t hc1251 hl40;obtain⟨⟨at409,found399,l636⟩,hx2181,hl40⟩:=obind hl40;(conv=>whnf);refine sk Value [0,7] [] (fun y=>[(4,.sl 150052 y),(5,.d (I at409)),(6,.d (.bool found399))]) (fun y=>[(150052,.arr y 9 1 false (Jy D.str l636))]) (fun _=>True) ?_ ?_
         ·obtain⟨_,hx2183,hx2181⟩:=obind hx2181;(conv=>whnf);refine Need.mk (Hk hx2183) ?_;obtain⟨⟨line456,v1472⟩,hx2186,hx2181⟩:=obind hx2181;(conv=>whnf);refine sk Unit [0,4,5,6,7] [150052] (fun _=>[(8,.d (.str line456)),(48,.d (.bool v1472))]) (fun _=>[]) (fun _=>True) ?_ ?_
          ·obtain⟨_,hx2187,hx2186⟩:=obind hx2186;obtain⟨r456,hx2188,hx2186⟩:=obind hx2186;(conv=>whnf);refine DrawG.mk (.take 0 (.take 1 (.take 2 (.take 3 (.take 4 (.take 5 (.take 7 (.take 8 (.take 9 (.alt 6 [9,8,7,4,3,2] (.alt 10 [8,4,3,2] (.take 11 .done) .nil) (.alt 10 [8,5,4,3,2,1,0] (.alt 6 [8,4,3,2] (.take 11 .done) .nil) .nil))))))))))) (by kernel_rfl) ?_;(conv=>whnf);refine Side.mk rfl (LnA.mk _ (Ia _) ?_);(conv=>whnf);refine Both.mk ?_ ?_
           ·(conv=>whnf);refine Need.mk (Hk hx2187) ?_;(conv=>whnf);refine Side.mk rfl (LnA.mk _ (Ia _) ?_);(iterate 6 refine wl ?_);refine wb ?_;(conv=>whnf);refine CallG.pure _ (MF hN hx2188) ?_;(iterate 4 refine wl ?_);cases hx2186;(conv=>whnf);exact⟨(),trivial,Cl⟩
           ·refine wb ?_;(conv=>whnf);refine CallG.pure _ (MF hN hx2188) ?_;(iterate 7 refine wl ?_);refine wb ?_;(conv=>whnf);refine Need.mk (Hk hx2187) ?_;(iterate 4 refine wl ?_);cases hx2186;(conv=>whnf);exact⟨(),trivial,Cl⟩
          ·rintro _ _;refine wB (fun hc1253=>?_) (fun hc1253=>?_)
           ·replace hx2181:=ite_t hc1253 hx2181;(conv=>whnf);intro hd864;obtain⟨l637,hx2189,hx2181⟩:=obind hx2181;(conv=>whnf);refine Side.mk ⟨rfl,rfl⟩ ?_;(conv=>whnf);refine Side.mk ⟨rfl,rfl,rfl⟩ (Need.mk (app_need hN hx2189 (by decide)) (Eqv.mk (Jy D.str l637) (app_map _ hx2189) ?_));(conv=>whnf);intro hd865;cases hx2181;(conv=>whnf);exact⟨hd865,trivial,Cl⟩
           ·replace hx2181:=ite_f hc1253 hx2181;cases hx2181;(conv=>whnf);exact⟨hd859,trivial,Cl⟩
         ·rintro hd863 _;(conv=>whnf);exact⟨(n192,(at409,found399,w64 (n191+1),l636),hd863),hl40,Cl,yb _⟩
        ·replace hl40:=ite_f hc1251 hl40;cases hl40;(conv=>whnf);exact⟨hd859,trivial,Cl⟩
     ·rintro hd843 _;refine wB (fun hc1254=>?_) (fun hc1254=>?_)
      ·replace h:=ite_t hc1254 h;cases h;(conv=>whnf);exact⟨hd843,trivial,Cl⟩
      ·replace h:=ite_f hc1254 h;(conv=>whnf);exact⟨(n182,(at399,l621),hd843),h,Cl,yb _⟩
  ·rintro hd726 _;(conv=>whnf);cases h;exact⟨hd726,trivial,rfl,aA (ren:=id) (ai trivial)⟩
theorem FQ{N:Nat}(hN:N≤1073741824) {r:bZ}(h:DJ N=some r) :
    ACalls Tryz.prog 38 [] [] fun e os=>e=.ret (.d (.agg [.list 1 (Jy I r.az),I r.ag.a0.af,.list 1 (Jy I r.ag.a0.ar),I r.ag.a1.af,.list 1 (Jy I r.ag.a1.ar),I r.ag.a2.af,.list 1 (Jy I r.ag.a2.ar),I r.ag.a3.af,.list 1 (Jy I r.ag.a3.ar),.list 1 (Jy eL r.Ai),.list 6 (Jy b9.enc r.aD),.list 1 (Jy I r.ak),.list 3 (Jy dt.enc r.aW)]))∧os=[]:=by
  refine Cs al ap [] 0 Tryz.func38 rfl Tryz.call38 rfl ?_
  unfold DJ at h
  repeat' ((conv=>whnf)<;>first|refine u (k:=?_)|exact v|refine IxG.mk 3 rfl (by decide) ?_|refine lun 3 5 ?_|intro _|apply Br.mk|(refine hs h ?_;intro _ _ h))
theorem If{N:Nat}(hN:N≤1073741824){s1:bZ}{line1:List UInt8}{r:bZ×Int}(h:Eh N s1 line1=some r) :
    ACalls Tryz.prog 30 [.d (.agg [.list 1 (Jy I s1.az),I s1.ag.a0.af,.list 1 (Jy I s1.ag.a0.ar),I s1.ag.a1.af,.list 1 (Jy I s1.ag.a1.ar),I s1.ag.a2.af,.list 1 (Jy I s1.ag.a2.ar),I s1.ag.a3.af,.list 1 (Jy I s1.ag.a3.ar),.list 1 (Jy eL s1.Ai),.list 6 (Jy b9.enc s1.aD),.list 1 (Jy I s1.ak),.list 3 (Jy dt.enc s1.aW)]),.d (.str line1)] [] fun e os=>e=.ret (.d (.tup [.agg [.list 1 (Jy I r.1.az),I r.1.ag.a0.af,.list 1 (Jy I r.1.ag.a0.ar),I r.1.ag.a1.af,.list 1 (Jy I r.1.ag.a1.ar),I r.1.ag.a2.af,.list 1 (Jy I r.1.ag.a2.ar),I r.1.ag.a3.af,.list 1 (Jy I r.1.ag.a3.ar),.list 1 (Jy eL r.1.Ai),.list 6 (Jy b9.enc r.1.aD),.list 1 (Jy I r.1.ak),.list 3 (Jy dt.enc r.1.aW)],I r.2]))∧os=[]:=by
  refine ah (fresh:=false) al ap ⟨[2],[],[],[],[],0,[]⟩ Tryz.func30 rfl Tryz.call30 rfl ?_
  unfold Eh at h
  repeat' ((conv=>whnf)<;>first|refine u (k:=?_)|exact v|refine cp (FSq hN am) ?_|refine dr 0 21 (tkA 4 0 (.alt 4 [2,1] (tkA 2 5 (.alt 7 [] (.take 8 .done) .nil)) .nil)) rfl (by kernel_rfl) ?_|refine cp (Fq hN am) ?_|refine dr 0 30 (tkA 7 0 (.alt 7 [5,4,2,1] (tkA 2 8 (.alt 10 [] (.take 11 .done) .nil)) .nil)) rfl (by kernel_rfl) ?_|refine cp (Gr hN am) ?_|refine dr 0 42 (tkA 7 0 (.alt 7 [5,4,2,1] (tkA 2 8 (.alt 10 [] (.take 11 .done) .nil)) .nil)) rfl (by kernel_rfl) ?_|refine cp (Gt hN am) ?_|refine dr 0 54 (tkA 4 0 (.alt 4 [2,1] (tkA 2 5 (.alt 7 [] (.take 8 .done) .nil)) .nil)) rfl (by kernel_rfl) ?_|refine cp (Gu hN am) ?_|refine dr 0 63 (tkA 4 0 (.alt 4 [2,1] (tkA 2 5 (.alt 7 [] (.take 8 .done) .nil)) .nil)) rfl (by kernel_rfl) ?_|refine cp (FW hN am) ?_|refine dr 0 72 (tkA 7 0 (.alt 7 [5,4,2,1] (tkA 2 8 (.alt 10 [] (.take 11 .done) .nil)) .nil)) rfl (by kernel_rfl) ?_|refine cp (FY hN am) ?_|refine dr 0 84 (tkA 4 0 (.alt 4 [2,1] (tkA 2 5 (.alt 7 [] (.take 8 .done) .nil)) .nil)) rfl (by kernel_rfl) ?_|refine cp (Fs hN am) ?_|refine dr 0 93 (tkA 4 0 (.alt 4 [2,1] (tkA 2 5 (.alt 7 [] (.take 8 .done) .nil)) .nil)) rfl (by kernel_rfl) ?_|refine cp (Gx hN am) ?_|refine dr 0 100 (tkA 4 0 (.alt 4 [2,1] (tkA 2 5 (.alt 7 [] (.take 8 .done) .nil)) .nil)) rfl (by kernel_rfl) ?_|refine cp (F0 hN am) ?_|intro _|apply Br.mk|(refine hs h ?_;intro _ _ h))
theorem Gy{N:Nat}(hN:N≤1073741824){lines1:List (List UInt8)}{r:bZ×(List Int)}(h:DC N lines1=some r) :
    ACalls Tryz.prog 14 [.d (.list 1 (Jy D.str lines1))] [] fun e os=>e=.ret (.d (.tup [.agg [.list 1 (Jy I r.1.az),I r.1.ag.a0.af,.list 1 (Jy I r.1.ag.a0.ar),I r.1.ag.a1.af,.list 1 (Jy I r.1.ag.a1.ar),I r.1.ag.a2.af,.list 1 (Jy I r.1.ag.a2.ar),I r.1.ag.a3.af,.list 1 (Jy I r.1.ag.a3.ar),.list 1 (Jy eL r.1.Ai),.list 6 (Jy b9.enc r.1.aD),.list 1 (Jy I r.1.ak),.list 3 (Jy dt.enc r.1.aW)],.list 1 (Jy I r.2)]))∧os=[]:=by
  refine Cs al ap [6,1003] 0 Tryz.func14 rfl Tryz.call14 rfl ?_
  unfold DC at h
  repeat' ((conv=>whnf)<;>first|refine u (k:=?_)|exact v|refine Both.mk ?_ ?_|refine cp (FQ hN am) ?_|apply sq 1003 h [2,4] [2] [.t 5] [] (_:Nat) (fun p x y=>[(5,.sl 29 (y.v 0))]) (fun p x y=>[(4,.cells p [.d (.list 1 (Jy I x.1.az)),.d (I x.1.ag.a0.af),.d (.list 1 (Jy I x.1.ag.a0.ar)),.d (I x.1.ag.a1.af),.d (.list 1 (Jy I x.1.ag.a1.ar)),.d (I x.1.ag.a2.af),.d (.list 1 (Jy I x.1.ag.a2.ar)),.d (I x.1.ag.a3.af),.d (.list 1 (Jy I x.1.ag.a3.ar)),.d (.list 1 (Jy eL x.1.Ai)),.d (.list 6 (Jy b9.enc x.1.aD)),.d (.list 1 (Jy I x.1.ak)),.d (.list 3 (Jy dt.enc x.1.aW))]),(29,.arr (y.v 0) 3 1 false (Jy I x.2))]) ?_ ?_|apply lp 4 h [0,2,4] [2] [.t 5] [] (_:Nat) (fun p y=>[(5,.sl 29 (y.y.v 0)),(6,.d (I y.x.1))]) (fun p y=>[(4,.cells p [.d (.list 1 (Jy I y.x.2.1.az)),.d (I y.x.2.1.ag.a0.af),.d (.list 1 (Jy I y.x.2.1.ag.a0.ar)),.d (I y.x.2.1.ag.a1.af),.d (.list 1 (Jy I y.x.2.1.ag.a1.ar)),.d (I y.x.2.1.ag.a2.af),.d (.list 1 (Jy I y.x.2.1.ag.a2.ar)),.d (I y.x.2.1.ag.a3.af),.d (.list 1 (Jy I y.x.2.1.ag.a3.ar)),.d (.list 1 (Jy eL y.x.2.1.Ai)),.d (.list 6 (Jy b9.enc y.x.2.1.aD)),.d (.list 1 (Jy I y.x.2.1.ak)),.d (.list 3 (Jy dt.enc y.x.2.1.aW))]),(29,.arr (y.y.v 0) 3 1 false (Jy I y.x.2.2))]) ?_ ?_|refine sq 6 h [0,2,4,5,6] [2,4,29] [] [.t 7] () (fun p x y=>[(7,.ptr 7 (y.b 0) 0),(8,.d (I x.1))]) (fun p x y=>[(7,.cells (y.b 0) [.d (.list 1 (Jy I x.2.az)),.d (I x.2.ag.a0.af),.d (.list 1 (Jy I x.2.ag.a0.ar)),.d (I x.2.ag.a1.af),.d (.list 1 (Jy I x.2.ag.a1.ar)),.d (I x.2.ag.a2.af),.d (.list 1 (Jy I x.2.ag.a2.ar)),.d (I x.2.ag.a3.af),.d (.list 1 (Jy I x.2.ag.a3.ar)),.d (.list 1 (Jy eL x.2.Ai)),.d (.list 6 (Jy b9.enc x.2.aD)),.d (.list 1 (Jy I x.2.ak)),.d (.list 3 (Jy dt.enc x.2.aW))])]) ?_ ?_|refine dr 0 17 (tkA 5 0 (.alt 5 [3,2,1] (tkA 3 6 (.alt 9 [8,7,6,3,2,1] (.alt 10 [8] (.take 11 .done) .nil) .nil)) (.alt 9 [4,3,2,1,0] (.alt 5 [3,2,1] (tkA 3 6 (.alt 10 [8] (.take 11 .done) .nil)) .nil) .nil))) rfl (by kernel_rfl) ?_|refine cp (If hN am) ?_|(rw[CO]at h;delta w64 at h)|intro _|apply Br.mk|refine TyG.mk fun _ h=>?_|(refine hs h ?_;intro _ _ h))
theorem Of{N:Nat}(hN:N≤1073741824){lines1:List (List UInt8)}{r:(List UInt8)}(h:MD N lines1=some r) :
    ACalls Tryz.prog 31 [.d (.list 1 (Jy D.str lines1))] [] fun e os=>e=.ret (.d (.str r))∧os=[]:=by
  refine Cs al ap [1002] 0 Tryz.func31 rfl Tryz.call31 rfl ?_
  unfold MD at h
  repeat' ((conv=>whnf)<;>first|refine u (k:=?_)|exact v|refine Need.mk (eO hN am) ?_|refine sq0 1002 h [] (fun x=>[(3,.d (.str x))]) ?_ ?_|refine lp0 3 h [0] (fun y=>[(3,.d (.str y.x.1)),(4,.d (I y.x.2))]) ?_ ?_|refine cp (MF hN am) ?_|(rw[Jx]at h;delta w64 at h)|intro _|apply Br.mk|refine TyG.mk fun _ h=>?_|(refine hs h ?_;intro _ _ h))
theorem sf{N:Nat}(hN:N≤1073741824){lines1:List (List UInt8)}{r:Bool}(h:j0 N lines1=some r) :
    ACalls Tryz.prog 8 [.d (.list 1 (Jy D.str lines1))] [] fun e os=>e=.ret (.d (.bool r))∧os=[]:=by
  refine Cs al ap [2,1001] 0 Tryz.func8 rfl Tryz.call8 rfl ?_
  unfold j0 at h
  repeat' ((conv=>whnf)<;>first|refine u (k:=?_)|exact v|refine st0 1001 (F:=C7 (iN N lines1)) r [0] (fun y=>[]) ?_ ?_|refine lp0 2 h [0] (fun y=>[(3,.d (I y.x))]) ?_ ?_|refine sq0 2 h [0,3] (fun x=>[(11,.d (.bool x))]) ?_ ?_|(rw[bK]at h;delta w64 at h)|unfold iN at h|intro _|apply Br.mk|refine TyG.mk fun _ h=>?_|(refine hs h ?_;intro _ _ h))
theorem i6{N:Nat}(hN:N≤1073741824) {r:(List (List UInt8))}(h:gl N=some r) :
    ACalls Tryz.prog 32 [] [] fun e os=>∃hd,e=.ret (.sl 0 hd)∧os=[(0,.arr hd 9 1 false (Jy D.str r))]:=by
  refine gk al ap ⟨[],[],[],[],[],0,[]⟩ Tryz.func32 rfl Tryz.call32 rfl ?_
  unfold gl at h
  repeat' ((conv=>whnf)<;>first|refine u (k:=?_)|exact v|intro _|apply Br.mk|(refine hs h ?_;intro _ _ h))
theorem su{N:Nat}(hN:N≤1073741824){a1:List Int}{b1:List Int}{r:Bool}(h:lN N a1 b1=some r) :
    ACalls Tryz.prog 20 [.d (.list 1 (Jy I a1)),.d (.list 1 (Jy I b1))] [] fun e os=>e=.ret (.d (.bool r))∧os=[]:=by
  refine Cs al ap [1003] 0 Tryz.func20 rfl Tryz.call20 rfl ?_
  unfold lN at h
  repeat' ((conv=>whnf)<;>first|refine u (k:=?_)|exact v|refine st0 1003 (F:=C7 (iY N)) r [] (fun y=>[]) ?_ ?_|refine lp0 4 h [0,1] (fun y=>[(5,.d (I y.x))]) ?_ ?_|refine dr 0 17 (tkA 9 0 .done) rfl (by kernel_rfl) ?_|(rw[eN]at h;delta w64 at h)|unfold iY at h|intro _|apply Br.mk|refine TyG.mk fun _ h=>?_|(refine hs h ?_;intro _ _ h))
theorem sv{N:Nat}(hN:N≤1073741824){l1:List (List UInt8)}{r:(List (List UInt8))}(h:iw N l1=some r) :
    ACalls Tryz.prog 11 [.d (.list 1 (Jy D.str l1))] [] fun e os=>∃hd,e=.ret (.sl 0 hd)∧os=[(0,.arr hd 9 1 false (Jy D.str r))]:=by
  refine gk al ap ⟨[],[],[],[],[],0,[]⟩ Tryz.func11 rfl Tryz.call11 rfl ?_
  unfold iw at h
  repeat' ((conv=>whnf)<;>first|refine u (k:=?_)|exact v|refine aap D.str [] _ hN rfl rfl ‹_› (by decide) ?_|intro _|apply Br.mk|(refine hs h ?_;intro _ _ h))
theorem FP{N:Nat}(hN:N≤1073741824){lines1:List (List UInt8)}{r:Int}(h:Dg N lines1=some r) :
    ACalls Tryz.prog 12 [.d (.list 1 (Jy D.str lines1))] [] fun e os=>e=.ret (.d (I r))∧os=[]:=by
  refine Cs al ap [] 0 Tryz.func12 rfl Tryz.call12 rfl ?_
  unfold Dg at h
  repeat' ((conv=>whnf)<;>first|refine u (k:=?_)|exact v|refine cp (rm hN am) ?_|intro _|apply Br.mk|(refine hs h ?_;intro _ _ h))
