/-
  Walks: what the typed functions compute, the program’s functions return.
-/
import Derived.Test.YtdodahpkpeodfaaGreatDoorWe
import Derived.Test.YtdodahpkpeodfaaGreatDoorVc
open List renaming map→Jy
namespace Go.Proofs.YtdodahpkpeodfaaGreatDoor
open Go Go.Abs Go.Kp
set_option maxRecDepth 100000
set_option maxHeartbeats 64000000
set_option linter.all false
theorem Fp{N:Nat}(hN:N≤1073741824){s1:List UInt8}{r:Int×Bool}(h:yW N s1=some r) :
    ACalls Tryz.prog 111 [.d (.str s1)] [] fun e os=>e=.ret (.d (.tup [I r.1,.bool r.2]))∧os=[]:=by
  refine Cs al ap [2,4,9,1002,1007,1012] 0 Tryz.func111 rfl Tryz.call111 rfl ?_
  unfold yW at h
  obtain⟨⟨less2,at2⟩,hx4,h⟩:=obind h;(conv=>whnf);refine sk Unit [0] [] (fun _=>[(4,.d (.bool less2)),(5,.d (I at2))]) (fun _=>[]) (fun _=>True) ?_ ?_
  ·obtain⟨v4,hx6,hx4⟩:=obind hx4;(conv=>whnf);refine sk Unit [0,4,5] [] (fun _=>[(14,.d (.bool v4))]) (fun _=>[]) (fun _=>True) ?_ ?_
   ·refine wB (fun hc5=>?_) (fun hc5=>?_)
    ·replace hx6:=ite_t hc5 hx6;obtain⟨c4,hx7,hx6⟩:=obind hx6;(conv=>whnf);refine ByG.mk c4 (idx_0 hx7) (idx_byte hx7) ?_;cases hx6;(conv=>whnf);exact⟨(),trivial,Cl⟩
    ·replace hx6:=ite_f hc5 hx6;cases hx6;(conv=>whnf);exact⟨(),trivial,Cl⟩
   ·rintro _ _;refine wB (fun hc6=>?_) (fun hc6=>?_)
    ·replace hx4:=ite_t hc6 hx4;cases hx4;(conv=>whnf);exact⟨(),trivial,Cl⟩
    ·replace hx4:=ite_f hc6 hx4;cases hx4;(conv=>whnf);exact⟨(),trivial,Cl⟩
  ·rintro _ _;obtain⟨v8,hx12,h⟩:=obind h;(conv=>whnf);refine sk Unit [0,4,5] [] (fun _=>[(36,.d (.bool v8))]) (fun _=>[]) (fun _=>True) ?_ ?_
   ·refine wB (fun hc17=>?_) (fun hc17=>?_)
    ·replace hx12:=ite_f hc17 hx12;refine wB (fun hc18=>?_) (fun hc18=>?_)
     ·replace hx12:=ite_f hc18 hx12;obtain⟨c8,hx13,hx12⟩:=obind hx12;(conv=>whnf);refine ByG.mk c8 (idx_0 hx13) (idx_byte hx13) ?_;refine wB (fun hc19=>?_) (fun hc19=>?_)
      ·replace hx12:=ite_t hc19 hx12;cases hx12;(conv=>whnf);exact⟨(),trivial,Cl⟩
      ·replace hx12:=ite_f hc19 hx12;cases hx12;(conv=>whnf);exact⟨(),trivial,Cl⟩
     ·replace hx12:=ite_t hc18 hx12;cases hx12;(conv=>whnf);exact⟨(),trivial,Cl⟩
    ·replace hx12:=ite_t hc17 hx12;cases hx12;(conv=>whnf);exact⟨(),trivial,Cl⟩
   ·rintro _ _;refine wB (fun hc20=>?_) (fun hc20=>?_)
    ·replace h:=ite_t hc20 h;(conv=>whnf);cases h;exact rfl
    ·replace h:=ite_f hc20 h;(conv=>whnf);refine sk Int [4] [] (fun y=>[(6,.d (I y))]) (fun _=>[]) (fun y=>CF N less2 y=some r) ?_ ?_
     ·(conv=>whnf);refine lk (Nat×(Int×Int)) [0,4] [] (fun y=>[(5,.d (I y.2.1)),(6,.d (I y.2.2))]) (fun _=>[]) (fun y=>loopN (fun rr x=>kW N s1 less2 rr x.1 x.2) y.1 y.2=some r) (fun y=>y.1) (N,(at2,0)) h Cl ?_
      ·rintro⟨n13,⟨at10,n12⟩⟩ hl2;obtain⟨n13,rfl,hl2⟩:=loopN_some hl2;replace hl2:kW N s1 less2 (loopN (fun rr x=>kW N s1 less2 rr x.1 x.2) n13) at10 n12=some r:=hl2;rw[kW]at hl2;(conv=>whnf);refine sk Unit [0,4,5,6] [] (fun _=>[]) (fun _=>[]) (fun y=>Cm N s1 at10 n12 (loopN (fun rr x=>kW N s1 less2 rr x.1 x.2) n13)=some r) ?_ ?_
       ·refine wB (fun hc106=>?_) (fun hc106=>?_)
        ·replace hl2:=ite_t hc106 hl2;(conv=>whnf);exact⟨(),hl2,Cl⟩
        ·replace hl2:=ite_f hc106 hl2;(conv=>whnf);exact⟨n12,hl2,Cl⟩
       ·rintro _ h;unfold Cm at h;obtain⟨v56,hx96,h⟩:=obind h;(conv=>whnf);refine sk Unit [0,4,5,6] [] (fun _=>[(52,.d (.bool v56))]) (fun _=>[]) (fun _=>True) ?_ ?_
        ·obtain⟨c67,hx97,hx96⟩:=obind hx96;(conv=>whnf);refine ByG.mk c67 (idx_0 hx97) (idx_byte hx97) ?_;refine wB (fun hc104=>?_) (fun hc104=>?_)
         ·replace hx96:=ite_f hc104 hx96;(conv=>whnf);refine ByG.mk c67 (idx_0 hx97) (idx_byte hx97) ?_;cases hx96;(conv=>whnf);exact⟨(),trivial,Cl⟩
         ·replace hx96:=ite_t hc104 hx96;cases hx96;(conv=>whnf);exact⟨(),trivial,Cl⟩
        ·rintro _ _;refine wB (fun hc105=>?_) (fun hc105=>?_)
         ·replace h:=ite_t hc105 h;(conv=>whnf);cases h;exact rfl
         ·replace h:=ite_f hc105 h;obtain⟨c68,hx98,h⟩:=obind h;(conv=>whnf);refine ByG.mk c68 (idx_0 hx98) (idx_byte hx98) ?_;(conv=>whnf);exact⟨(n13,(w64 (at10+1),w64 ((w64 (10*n12))+(w64 (Go.IntKind.wrap .u8 ((c68.toNat:Int)-48)))))),h,Cl,Nat.lt_succ_self _⟩
     ·clear h;rintro n6 h;unfold CF at h;obtain⟨n8,hx56,h⟩:=obind h;(conv=>whnf);refine sk Unit [] [] (fun _=>[(6,.d (I n8))]) (fun _=>[]) (fun _=>True) ?_ ?_
      ·refine wB (fun hc64=>?_) (fun hc64=>?_)
       ·replace hx56:=ite_t hc64 hx56;cases hx56;(conv=>whnf);exact⟨(),trivial,Cl⟩
       ·replace hx56:=ite_f hc64 hx56;cases hx56;(conv=>whnf);exact⟨(),trivial,Cl⟩
      ·rintro _ _;(conv=>whnf);cases h;exact rfl
theorem FSq{N:Nat}(hN:N≤1073741824){line1:List UInt8}{r:(List UInt8)×(List Int)×Bool}(h:Cz N line1=some r) :
    ACalls Tryz.prog 65 [.d (.str line1)] [] fun e os=>e=.ret (.d (.tup [.str r.1,.list 1 (Jy I r.2.1),.bool r.2.2]))∧os=[]:=by
  refine Cs al ap [6,1003,1006,1010,1011,1018,1025] 0 Tryz.func65 rfl Tryz.call65 rfl ?_
  unfold Cz at h
  delta w64 at h
  repeat' ((conv=>whnf)<;>first|refine u (k:=?_)|exact v|refine Need.mk (Hk am) ?_|refine sq 1003 h [] [] [.t 5] [] () (fun p x y=>[(5,.sl 35 (y.v 0))]) (fun p x y=>[(35,.arr (y.v 0) 9 1 false (Jy D.str x))]) ?_ ?_|refine lp 4 h [0] [] [.t 5] [] () (fun p y=>[(5,.sl 35 (y.y.v 0)),(6,.d (I y.x.1)),(7,.d (I y.x.2.1))]) (fun p y=>[(35,.arr (y.y.v 0) 9 1 false (Jy D.str y.x.2.2))]) ?_ ?_|refine sq 1006 h [0,7] [] [.t 5] [] () (fun p x y=>[(5,.sl 35 (y.v 0)),(6,.d (I x.1))]) (fun p x y=>[(35,.arr (y.v 0) 9 1 false (Jy D.str x.2))]) ?_ ?_|refine sq 6 h [0,5,6,7] [35] [] [] () (fun p x y=>[(28,.d (.bool x))]) (fun p x y=>[]) ?_ ?_|refine sq 1010 h [5] [35] [] [] () (fun p x y=>[(8,.d (I x))]) (fun p x y=>[]) ?_ ?_|refine sq 1011 h [5,8,40] [35] [] [] () (fun p x y=>[(41,.d (.bool x))]) (fun p x y=>[]) ?_ ?_|refine sq 1018 h [5,8] [35] [] [] () (fun p x y=>[(48,.d (.bool x))]) (fun p x y=>[]) ?_ ?_|apply st 1025 (F:=GR (CW N _)) r [5] [35] [.t 9] [] () (fun p y=>[(9,.sl 76 (y.y.v 0))]) (fun p y=>[(76,.arr (y.y.v 0) 3 1 false (Jy I y.x))]) ?_ ?_|refine lp 26 h [5] [35] [.t 9] [] () (fun p y=>[(9,.sl 76 (y.y.v 0)),(10,.d (I y.x.1))]) (fun p y=>[(76,.arr (y.y.v 0) 3 1 false (Jy I y.x.2))]) ?_ ?_|refine cp (Fp hN am) ?_|(rw[y7]at h;delta w64 at h)|(rw[xT]at h;delta w64 at h)|unfold CW at h|intro _|apply Br.mk|refine TyG.mk fun _ h=>?_|(refine hs h ?_;intro _ _ h))
theorem Fq{N:Nat}(hN:N≤1073741824){s1:bZ}{average1:Int}{r:bZ×Int}(h:CZ N s1 average1=some r) :
    ACalls Tryz.prog 66 [.d (.agg [.list 1 (Jy I s1.az),I s1.ag.a0.af,.list 1 (Jy I s1.ag.a0.ar),I s1.ag.a1.af,.list 1 (Jy I s1.ag.a1.ar),I s1.ag.a2.af,.list 1 (Jy I s1.ag.a2.ar),I s1.ag.a3.af,.list 1 (Jy I s1.ag.a3.ar),.list 1 (Jy eL s1.iZ),.list 6 (Jy b9.enc s1.aD),.list 1 (Jy I s1.ak),.list 3 (Jy dt.enc s1.aP)]),.d (I average1)] [] fun e os=>e=.ret (.d (.tup [.agg [.list 1 (Jy I r.1.az),I r.1.ag.a0.af,.list 1 (Jy I r.1.ag.a0.ar),I r.1.ag.a1.af,.list 1 (Jy I r.1.ag.a1.ar),I r.1.ag.a2.af,.list 1 (Jy I r.1.ag.a2.ar),I r.1.ag.a3.af,.list 1 (Jy I r.1.ag.a3.ar),.list 1 (Jy eL r.1.iZ),.list 6 (Jy b9.enc r.1.aD),.list 1 (Jy I r.1.ak),.list 3 (Jy dt.enc r.1.aP)],I r.2]))∧os=[]:=by
  refine Cs al ap [] 0 Tryz.func66 rfl Tryz.call66 rfl ?_
  unfold CZ at h
  repeat' ((conv=>whnf)<;>first|refine u (k:=?_)|exact v|refine aap I [] _ hN rfl rfl ‹_› (by decide) ?_|refine aap eL [] _ hN rfl rfl ‹_› (by decide) ?_|refine aap eL _ [[]] hN rfl rfl ‹_› (by decide) ?_|refine cp (Dn hN am) ?_|intro _|apply Br.mk|(refine hs h ?_;intro _ _ h))
theorem Gr{N:Nat}(hN:N≤1073741824){s1:bZ}{lane1:Int}{bowler1:Int}{r:bZ×Int}(h:Du N s1 lane1 bowler1=some r) :
    ACalls Tryz.prog 67 [.d (.agg [.list 1 (Jy I s1.az),I s1.ag.a0.af,.list 1 (Jy I s1.ag.a0.ar),I s1.ag.a1.af,.list 1 (Jy I s1.ag.a1.ar),I s1.ag.a2.af,.list 1 (Jy I s1.ag.a2.ar),I s1.ag.a3.af,.list 1 (Jy I s1.ag.a3.ar),.list 1 (Jy eL s1.iZ),.list 6 (Jy b9.enc s1.aD),.list 1 (Jy I s1.ak),.list 3 (Jy dt.enc s1.aP)]),.d (I lane1),.d (I bowler1)] [] fun e os=>e=.ret (.d (.tup [.agg [.list 1 (Jy I r.1.az),I r.1.ag.a0.af,.list 1 (Jy I r.1.ag.a0.ar),I r.1.ag.a1.af,.list 1 (Jy I r.1.ag.a1.ar),I r.1.ag.a2.af,.list 1 (Jy I r.1.ag.a2.ar),I r.1.ag.a3.af,.list 1 (Jy I r.1.ag.a3.ar),.list 1 (Jy eL r.1.iZ),.list 6 (Jy b9.enc r.1.aD),.list 1 (Jy I r.1.ak),.list 3 (Jy dt.enc r.1.aP)],I r.2]))∧os=[]:=by
  refine Cs al ap [1,6,8] 0 Tryz.func67 rfl Tryz.call67 rfl ?_
  unfold Du at h
  delta w64 at h
  repeat' ((conv=>whnf)<;>first|refine u (k:=?_)|exact v|refine IxG.mk 3 rfl (by decide) ?_|(refine itx h (fun hc h=>?_) fun hc h=>?_)|refine sq 1 h [1,2,3,6] [3,6] [] [] () (fun p x y=>[(20,.d (.bool x))]) (fun p x y=>[]) ?_ ?_|refine cp (Dn hN am) ?_|refine lun 4 5 ?_|refine sq 6 h [1,2,3,6,8] [3,6] [] [] () (fun p x y=>[(45,.d (.bool x))]) (fun p x y=>[]) ?_ ?_|apply sq 8 h [3,6] [6] [] [] (_:Nat) (fun p x y=>[]) (fun p x y=>[(3,.cells p [.d (.list 1 (Jy I s1.az)),.d (I x.1),.d (.list 1 (Jy I x.2.1)),.d (I x.2.2.1),.d (.list 1 (Jy I x.2.2.2.1)),.d (I x.2.2.2.2.1),.d (.list 1 (Jy I x.2.2.2.2.2.1)),.d (I x.2.2.2.2.2.2.1),.d (.list 1 (Jy I x.2.2.2.2.2.2.2)),.d (.list 1 (Jy eL s1.iZ)),.d (.list 6 (Jy b9.enc s1.aD)),.d (.list 1 (Jy I s1.ak)),.d (.list 3 (Jy dt.enc s1.aP))])]) ?_ ?_|intro _|apply Br.mk|refine TyG.mk fun _ h=>?_|(refine hs h ?_;intro _ _ h))
theorem E8{N:Nat}(hN:N≤1073741824) {r:bW}(h:Dh N=some r) :
    ACalls Tryz.prog 19 [] [] fun e os=>e=.ret (.d (.agg [I r.bv,I r.gV,I r.ar,I r.sd]))∧os=[]:=by
  refine Cs al ap [] 0 Tryz.func19 rfl Tryz.call19 rfl ?_
  unfold Dh at h
  repeat' ((conv=>whnf)<;>first|refine u (k:=?_)|exact v|intro _|apply Br.mk|(refine hs h ?_;intro _ _ h))
theorem Gt{N:Nat}(hN:N≤1073741824){s1:bZ}{lane1:Int}{pins1:Int}{r:bZ×Int}(h:Dw N s1 lane1 pins1=some r) :
    ACalls Tryz.prog 68 [.d (.agg [.list 1 (Jy I s1.az),I s1.ag.a0.af,.list 1 (Jy I s1.ag.a0.ar),I s1.ag.a1.af,.list 1 (Jy I s1.ag.a1.ar),I s1.ag.a2.af,.list 1 (Jy I s1.ag.a2.ar),I s1.ag.a3.af,.list 1 (Jy I s1.ag.a3.ar),.list 1 (Jy eL s1.iZ),.list 6 (Jy b9.enc s1.aD),.list 1 (Jy I s1.ak),.list 3 (Jy dt.enc s1.aP)]),.d (I lane1),.d (I pins1)] [] fun e os=>e=.ret (.d (.tup [.agg [.list 1 (Jy I r.1.az),I r.1.ag.a0.af,.list 1 (Jy I r.1.ag.a0.ar),I r.1.ag.a1.af,.list 1 (Jy I r.1.ag.a1.ar),I r.1.ag.a2.af,.list 1 (Jy I r.1.ag.a2.ar),I r.1.ag.a3.af,.list 1 (Jy I r.1.ag.a3.ar),.list 1 (Jy eL r.1.iZ),.list 6 (Jy b9.enc r.1.aD),.list 1 (Jy I r.1.ak),.list 3 (Jy dt.enc r.1.aP)],I r.2]))∧os=[]:=by
  refine Cs al ap [3,5] 0 Tryz.func68 rfl Tryz.call68 rfl ?_
  unfold Dw at h
  repeat' ((conv=>whnf)<;>first|refine u (k:=?_)|exact v|(refine itx h (fun hc h=>?_) fun hc h=>?_)|refine aap I [] _ hN rfl rfl ‹_› (by decide) ?_|refine cp (Dn hN am) ?_|refine sq 3 h [1,2,3,6] [3,6] [] [] () (fun p x y=>[(18,.d (.bool x))]) (fun p x y=>[]) ?_ ?_|refine sq 5 h [1,3,6] [3,6] [.t 8] [] () (fun p x y=>[(8,.sl 20 (y.v 0))]) (fun p x y=>[(20,.arr (y.v 0) 3 1 false (Jy I x))]) ?_ ?_|refine cp (E8 hN am) ?_|refine cp (Ie hN am) ?_|intro _|apply Br.mk|refine TyG.mk fun _ h=>?_|(refine hs h ?_;intro _ _ h))
theorem Gu{N:Nat}(hN:N≤1073741824){s1:bZ}{lane1:Int}{r:bZ×Int}(h:Dx N s1 lane1=some r) :
    ACalls Tryz.prog 69 [.d (.agg [.list 1 (Jy I s1.az),I s1.ag.a0.af,.list 1 (Jy I s1.ag.a0.ar),I s1.ag.a1.af,.list 1 (Jy I s1.ag.a1.ar),I s1.ag.a2.af,.list 1 (Jy I s1.ag.a2.ar),I s1.ag.a3.af,.list 1 (Jy I s1.ag.a3.ar),.list 1 (Jy eL s1.iZ),.list 6 (Jy b9.enc s1.aD),.list 1 (Jy I s1.ak),.list 3 (Jy dt.enc s1.aP)]),.d (I lane1)] [] fun e os=>e=.ret (.d (.tup [.agg [.list 1 (Jy I r.1.az),I r.1.ag.a0.af,.list 1 (Jy I r.1.ag.a0.ar),I r.1.ag.a1.af,.list 1 (Jy I r.1.ag.a1.ar),I r.1.ag.a2.af,.list 1 (Jy I r.1.ag.a2.ar),I r.1.ag.a3.af,.list 1 (Jy I r.1.ag.a3.ar),.list 1 (Jy eL r.1.iZ),.list 6 (Jy b9.enc r.1.aD),.list 1 (Jy I r.1.ak),.list 3 (Jy dt.enc r.1.aP)],I r.2]))∧os=[]:=by
  refine Cs al ap [3,4] 0 Tryz.func69 rfl Tryz.call69 rfl ?_
  unfold Dx at h
  delta w64 at h
  repeat' ((conv=>whnf)<;>first|refine u (k:=?_)|exact v|(refine itx h (fun hc h=>?_) fun hc h=>?_)|refine aap I [] _ hN rfl rfl ‹_› (by decide) ?_|refine cp (Dn hN am) ?_|refine sq 3 h [1,2,4] [2,4] [] [] () (fun p x y=>[(6,.d (I x))]) (fun p x y=>[]) ?_ ?_|refine sq 4 h [1,2,4,6] [2,4] [] [] () (fun p x y=>[(26,.d (.bool x))]) (fun p x y=>[]) ?_ ?_|intro _|apply Br.mk|refine TyG.mk fun _ h=>?_|(refine hs h ?_;intro _ _ h))
theorem FW{N:Nat}(hN:N≤1073741824){s1:bZ}{lane1:Int}{r:bZ×Int}(h:Dj N s1 lane1=some r) :
    ACalls Tryz.prog 70 [.d (.agg [.list 1 (Jy I s1.az),I s1.ag.a0.af,.list 1 (Jy I s1.ag.a0.ar),I s1.ag.a1.af,.list 1 (Jy I s1.ag.a1.ar),I s1.ag.a2.af,.list 1 (Jy I s1.ag.a2.ar),I s1.ag.a3.af,.list 1 (Jy I s1.ag.a3.ar),.list 1 (Jy eL s1.iZ),.list 6 (Jy b9.enc s1.aD),.list 1 (Jy I s1.ak),.list 3 (Jy dt.enc s1.aP)]),.d (I lane1)] [] fun e os=>e=.ret (.d (.tup [.agg [.list 1 (Jy I r.1.az),I r.1.ag.a0.af,.list 1 (Jy I r.1.ag.a0.ar),I r.1.ag.a1.af,.list 1 (Jy I r.1.ag.a1.ar),I r.1.ag.a2.af,.list 1 (Jy I r.1.ag.a2.ar),I r.1.ag.a3.af,.list 1 (Jy I r.1.ag.a3.ar),.list 1 (Jy eL r.1.iZ),.list 6 (Jy b9.enc r.1.aD),.list 1 (Jy I r.1.ak),.list 3 (Jy dt.enc r.1.aP)],I r.2]))∧os=[]:=by
  refine ah (fresh:=false) al ap ⟨[],[],[],[],[3,4,8],0,[48]⟩ Tryz.func70 rfl Tryz.call70 rfl ?_
  unfold Dj at h
  repeat' ((conv=>whnf)<;>first|refine u (k:=?_)|exact v|(refine itx h (fun hc h=>?_) fun hc h=>?_)|refine aap eL [] _ hN rfl rfl ‹_› (by decide) ?_|refine aap I [] _ hN rfl rfl ‹_› (by decide) ?_|refine cp (Dn hN am) ?_|refine sq 3 h [1,2,4] [2,4] [] [.t 6] () (fun p x y=>[(6,.ptr 6 (y.b 0) 0)]) (fun p x y=>[(6,.cells (y.b 0) [.d (I x.af),.d (.list 1 (Jy I x.ar))])]) ?_ ?_|refine sq 4 h [1,2,4,6] [2,4,6] [] [] () (fun p x y=>[(24,.d (.bool x))]) (fun p x y=>[]) ?_ ?_|refine dr 0 15 (tkA 4 0 (.spl 18 (tkA 2 5 (.alt 4 [6,5,2,1,0] (.alt 7 [5,2,1,0] (tkA 2 8 .done) .nil) .nil)))) rfl (by kernel_rfl) ?_|refine cp (E8 hN am) ?_|refine cp (FV hN am) ?_|refine dr 0 31 (tkA 4 0 (tkA 6 5 (tkA 2 13 (.alt 4 [14,13,10,9,8,7,6,5,3,2,1,0] (.alt 11 [14,13,9,8,7,6,5,3,2,1,0] (.alt 12 [14,13,9,8,7,6,5,3,2,1,0] (.alt 15 [13,9,8,7,6,5,3,2,1,0] (.alt 16 [13,9,8,7,6,5,3,2,1,0] (.alt 17 [13,9,8,7,6,5,3,2,1,0] (.take 18 (.alt 19 [] .done .nil)) .nil) .nil) .nil) .nil) .nil) .nil)))) rfl (by kernel_rfl) ?_|apply sq 8 h [2,4] [4] [] [] ((_:Nat),(_:Value)) (fun p x y=>[]) (fun p x y=>[(2,.cells p.1 [.d (.list 1 (Jy I s1.az)),.d (I x.1),.d (.list 1 (Jy I x.2.1)),.d (I x.2.2.1),.d (.list 1 (Jy I x.2.2.2.1)),.d (I x.2.2.2.2.1),.d (.list 1 (Jy I x.2.2.2.2.2.1)),.d (I x.2.2.2.2.2.2.1),.d (.list 1 (Jy I x.2.2.2.2.2.2.2.1)),.sl 26 p.2,.d (.list 6 (Jy b9.enc s1.aD)),.d (.list 1 (Jy I s1.ak)),.d (.list 3 (Jy dt.enc s1.aP))]),(26,.arr p.2 25 1 false (Jy eL x.2.2.2.2.2.2.2.2))]) ?_ ?_|intro _|apply Br.mk|refine TyG.mk fun _ h=>?_|(refine hs h ?_;intro _ _ h))
