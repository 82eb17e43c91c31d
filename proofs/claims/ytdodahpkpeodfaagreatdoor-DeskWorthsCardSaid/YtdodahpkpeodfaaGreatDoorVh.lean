/-
  Walks: what the typed functions compute, the program’s functions return.
-/
import Derived.Test.YtdodahpkpeodfaaGreatDoorWe
open List renaming length_map→Ia
open List renaming map→Jy
open Nat renaming lt_succ_self→yb
namespace Go.Proofs.YtdodahpkpeodfaaGreatDoor
open Go Go.Abs Go.Kp
set_option maxRecDepth 100000
set_option maxHeartbeats 64000000
set_option linter.all false
theorem fQ{N:Nat}(hN:N≤1073741824){n1:Int}{low1:Int}{high1:Int}{r:Bool}(h:dZ N n1 low1 high1=some r) :
    ACalls Tryz.prog 166 [.d (I n1),.d (I low1),.d (I high1)] [] fun e os=>e=.ret (.d (.bool r))∧os=[]:=by
  refine Cs al ap [1] 0 Tryz.func166 rfl Tryz.call166 rfl ?_
  unfold dZ at h
  repeat' ((conv=>whnf)<;>first|refine u (k:=?_)|exact v|refine sq0 1 h [] (fun x=>[(6,.d (.bool x))]) ?_ ?_|intro _|apply Br.mk|refine TyG.mk fun _ h=>?_|(refine hs h ?_;intro _ _ h))
theorem ja{N:Nat}(hN:N≤1073741824){n1:Int}{r:Bool}(h:gp N n1=some r) :
    ACalls Tryz.prog 172 [.d (I n1)] [] fun e os=>e=.ret (.d (.bool r))∧os=[]:=by
  refine Cs al ap [] 0 Tryz.func172 rfl Tryz.call172 rfl ?_
  unfold gp at h
  repeat' ((conv=>whnf)<;>first|refine u (k:=?_)|exact v|refine cp (fQ hN am) ?_|intro _|apply Br.mk|(refine hs h ?_;intro _ _ h))
theorem oK{N:Nat}(hN:N≤1073741824){l1:wz}{r:Bool}(h:iV N l1=some r) :
    ACalls Tryz.prog 170 [.d (.agg [I l1.o8,I l1.jF,I l1.uq,I l1.ue,I l1.o9])] [] fun e os=>e=.ret (.d (.bool r))∧os=[]:=by
  refine ah (fresh:=false) al ap ⟨[1],[],[],[],[1],0,[]⟩ Tryz.func170 rfl Tryz.call170 rfl ?_
  unfold iV at h
  repeat' ((conv=>whnf)<;>first|refine u (k:=?_)|exact v|refine sq0 1 h [] (fun x=>[(2,.d (.bool x))]) ?_ ?_|refine cp (ja hN am) ?_|refine cp (fQ hN am) ?_|intro _|apply Br.mk|refine TyG.mk fun _ h=>?_|(refine hs h ?_;intro _ _ h))
theorem ul{N:Nat}(hN:N≤1073741824){x1:Int}{r:Bool}(h:nF N x1=some r) :
    ACalls Tryz.prog 221 [.d (I x1),.d (.ref (.agg [.fn (.func 172) [] []]))] [] fun e os=>e=.ret (.d (.bool r))∧os=[]:=by
  refine Cs al ap [] 0 Tryz.func221 rfl Tryz.call221 rfl ?_
  unfold nF at h
  repeat' ((conv=>whnf)<;>first|refine u (k:=?_)|exact v|refine cp (ja hN am) ?_|intro _|apply Br.mk|(refine hs h ?_;intro _ _ h))
theorem jq{N:Nat}(hN:N≤1073741824){s1:List Int}{r:Int}(h:dl N s1=some r) :
    ACalls Tryz.prog 264 [.d (.list 1 (Jy I s1)),.d (.fn (.func 221) [] [.ref (.agg [.fn (.func 172) [] []])])] [] fun e os=>e=.ret (.d (I r))∧os=[]:=by
  refine Cs al ap [1001] 0 Tryz.func264 rfl Tryz.call264 rfl ?_
  unfold dl at h
  repeat' ((conv=>whnf)<;>first|refine u (k:=?_)|exact v|refine st0 1001 (F:=C7 (cy N)) r [] (fun y=>[]) ?_ ?_|refine lp0 2 h [0,1] (fun y=>[(7,.d (I y.x.1)),(8,.d (I y.x.2))]) ?_ ?_|refine cp (ul hN am) ?_|(rw[bc]at h;delta w64 at h)|unfold cy at h|intro _|apply Br.mk|refine TyG.mk fun _ h=>?_|(refine hs h ?_;intro _ _ h))
theorem iy{N:Nat}(hN:N≤1073741824){s1:List Int}{r:Bool}(h:cK N s1=some r) :
    ACalls Tryz.prog 220 [.d (.list 1 (Jy I s1)),.d (.fn (.func 221) [] [.ref (.agg [.fn (.func 172) [] []])])] [] fun e os=>e=.ret (.d (.bool r))∧os=[]:=by
  refine Cs al ap [] 0 Tryz.func220 rfl Tryz.call220 rfl ?_
  unfold cK at h
  repeat' ((conv=>whnf)<;>first|refine u (k:=?_)|exact v|refine cp (jq hN am) ?_|intro _|apply Br.mk|(refine hs h ?_;intro _ _ h))
theorem vM{N:Nat}(hN:N≤1073741824){l1:List Int}{r:Bool}(h:pW N l1=some r) :
    ACalls Tryz.prog 171 [.d (.list 1 (Jy I l1)),.d (.fn (.func 172) [] [])] [] fun e os=>e=.ret (.d (.bool r))∧os=[]:=by
  refine ah (fresh:=false) al ap ⟨[3],[],[],[],[],0,[]⟩ Tryz.func171 rfl Tryz.call171 rfl ?_
  unfold pW at h
  repeat' ((conv=>whnf)<;>first|refine u (k:=?_)|exact v|refine cp (iy hN am) ?_|intro _|apply Br.mk|(refine hs h ?_;intro _ _ h))
theorem Kr{N:Nat}(hN:N≤1073741824){n1:Int}{r:Bool}(h:F1 N n1=some r) :
    ACalls Tryz.prog 175 [.d (I n1)] [] fun e os=>e=.ret (.d (.bool r))∧os=[]:=by
  refine Cs al ap [] 0 Tryz.func175 rfl Tryz.call175 rfl ?_
  unfold F1 at h
  repeat' ((conv=>whnf)<;>first|refine u (k:=?_)|exact v|refine cp (fQ hN am) ?_|intro _|apply Br.mk|(refine hs h ?_;intro _ _ h))
theorem mI{N:Nat}(hN:N≤1073741824){b1:mP}{n1:Int}{r:Bool}(h:gG N b1 n1=some r) :
    ACalls Tryz.prog 129 [.d (.agg [I b1.fu.o8,I b1.fu.jF,I b1.fu.uq,I b1.fu.ue,I b1.fu.o9,.list 1 (Jy I b1.az),.list 6 (Jy aH.enc b1.aD),.list 1 (Jy I b1.ak)]),.d (I n1)] [] fun e os=>e=.ret (.d (.bool r))∧os=[]:=by
  refine ah (fresh:=false) al ap ⟨[2],[],[],[],[],0,[]⟩ Tryz.func129 rfl Tryz.call129 rfl ?_
  unfold gG at h
  delta w64 at h
  repeat' ((conv=>whnf)<;>first|refine u (k:=?_)|exact v|refine cp (fQ hN am) ?_|intro _|apply Br.mk|(refine hs h ?_;intro _ _ h))
theorem uo{N:Nat}(hN:N≤1073741824){n1:Int}{r:Bool}(h:nH N n1=some r) :
    ACalls Tryz.prog 130 [.d (I n1)] [] fun e os=>e=.ret (.d (.bool r))∧os=[]:=by
  refine Cs al ap [] 0 Tryz.func130 rfl Tryz.call130 rfl ?_
  unfold nH at h
  repeat' ((conv=>whnf)<;>first|refine u (k:=?_)|exact v|refine cp (fQ hN am) ?_|intro _|apply Br.mk|(refine hs h ?_;intro _ _ h))
theorem KQ{N:Nat}(hN:N≤1073741824){b1:mP}{s1:aH}{r:Bool}(h:EF N b1 s1=some r) :
    ACalls Tryz.prog 174 [.d (.agg [I b1.fu.o8,I b1.fu.jF,I b1.fu.uq,I b1.fu.ue,I b1.fu.o9,.list 1 (Jy I b1.az),.list 6 (Jy aH.enc b1.aD),.list 1 (Jy I b1.ak)]),.d (.agg [I s1.bX,I s1.af,I s1.j2,I s1.bg.a0,I s1.bg.a1,I s1.bg.a2])] [] fun e os=>e=.ret (.d (.bool r))∧os=[]:=by
  refine ah (fresh:=false) al ap ⟨[2,3],[],[],[],[1],0,[]⟩ Tryz.func174 rfl Tryz.call174 rfl ?_
  unfold EF at h
  repeat' ((conv=>whnf)<;>first|refine u (k:=?_)|exact v|refine ArrS.mk (Jy I [_,_,_]) rfl rfl (tP _ fun _=>rfl) ?_|refine sq0 1 h [] (fun x=>[(4,.d (.bool x))]) ?_ ?_|refine cp (Kr hN am) ?_|refine cp (mI hN am) ?_|refine cp (uo hN am) ?_|refine cp (vM hN am) ?_|intro _|apply Br.mk|refine TyG.mk fun _ h=>?_|(refine hs h ?_;intro _ _ h))
theorem Lz{N:Nat}(hN:N≤1073741824){x1:aH}{a1:mP}{r:Bool}(h:Ju N x1 a1=some r) :
    ACalls Tryz.prog 223 [.d (.agg [I x1.bX,I x1.af,I x1.j2,I x1.bg.a0,I x1.bg.a1,I x1.bg.a2]),.d (.ref (.agg [.fn (.func 174) [.agg [I a1.fu.o8,I a1.fu.jF,I a1.fu.uq,I a1.fu.ue,I a1.fu.o9,.list 1 (Jy I a1.az),.list 6 (Jy aH.enc a1.aD),.list 1 (Jy I a1.ak)]] []]))] [] fun e os=>e=.ret (.d (.bool r))∧os=[]:=by
  refine ah (fresh:=false) al ap ⟨[2],[],[],[],[],0,[]⟩ Tryz.func223 rfl Tryz.call223 rfl ?_
  unfold Ju at h
  repeat' ((conv=>whnf)<;>first|refine u (k:=?_)|exact v|refine cp (KQ hN am) ?_|intro _|apply Br.mk|(refine hs h ?_;intro _ _ h))
theorem jd{N:Nat}(hN:N≤1073741824){s1:List aH}{f1:mP}{r:Int}(h:cV N s1 f1=some r) :
    ACalls Tryz.prog 265 [.d (.list 6 (Jy aH.enc s1)),.d (.fn (.func 223) [] [.ref (.agg [.fn (.func 174) [.agg [I f1.fu.o8,I f1.fu.jF,I f1.fu.uq,I f1.fu.ue,I f1.fu.o9,.list 1 (Jy I f1.az),.list 6 (Jy aH.enc f1.aD),.list 1 (Jy I f1.ak)]] []])])] [] fun e os=>e=.ret (.d (I r))∧os=[]:=by
  refine Cs al ap [1001] 0 Tryz.func265 rfl Tryz.call265 rfl ?_
  unfold cV at h
  repeat' ((conv=>whnf)<;>first|refine u (k:=?_)|exact v|refine st0 1001 (F:=C7 (ci N)) r [] (fun y=>[]) ?_ ?_|refine lp0 2 h [0,1] (fun y=>[(7,.d (I y.x.1)),(8,.d (I y.x.2))]) ?_ ?_|refine cp (Lz hN am) ?_|(rw[aW]at h;delta w64 at h)|unfold ci at h|intro _|apply Br.mk|refine TyG.mk fun _ h=>?_|(refine hs h ?_;intro _ _ h))
theorem il{N:Nat}(hN:N≤1073741824){s1:List aH}{f1:mP}{r:Bool}(h:cz N s1 f1=some r) :
    ACalls Tryz.prog 222 [.d (.list 6 (Jy aH.enc s1)),.d (.fn (.func 223) [] [.ref (.agg [.fn (.func 174) [.agg [I f1.fu.o8,I f1.fu.jF,I f1.fu.uq,I f1.fu.ue,I f1.fu.o9,.list 1 (Jy I f1.az),.list 6 (Jy aH.enc f1.aD),.list 1 (Jy I f1.ak)]] []])])] [] fun e os=>e=.ret (.d (.bool r))∧os=[]:=by
  refine Cs al ap [] 0 Tryz.func222 rfl Tryz.call222 rfl ?_
  unfold cz at h
  repeat' ((conv=>whnf)<;>first|refine u (k:=?_)|exact v|refine cp (jd hN am) ?_|intro _|apply Br.mk|(refine hs h ?_;intro _ _ h))
theorem um{N:Nat}(hN:N≤1073741824){l1:List aH}{right1:mP}{r:Bool}(h:nG N l1 right1=some r) :
    ACalls Tryz.prog 173 [.d (.list 6 (Jy aH.enc l1)),.d (.fn (.func 174) [.agg [I right1.fu.o8,I right1.fu.jF,I right1.fu.uq,I right1.fu.ue,I right1.fu.o9,.list 1 (Jy I right1.az),.list 6 (Jy aH.enc right1.aD),.list 1 (Jy I right1.ak)]] [])] [] fun e os=>e=.ret (.d (.bool r))∧os=[]:=by
  refine ah (fresh:=false) al ap ⟨[3],[],[],[],[],0,[]⟩ Tryz.func173 rfl Tryz.call173 rfl ?_
  unfold nG at h
  repeat' ((conv=>whnf)<;>first|refine u (k:=?_)|exact v|refine cp (il hN am) ?_|intro _|apply Br.mk|(refine hs h ?_;intro _ _ h))
theorem Lp{N:Nat}(hN:N≤1073741824){x1:Int}{r:Bool}(h:Ii N x1=some r) :
    ACalls Tryz.prog 221 [.d (I x1),.d (.ref (.agg [.fn (.func 175) [] []]))] [] fun e os=>e=.ret (.d (.bool r))∧os=[]:=by
  refine Cs al ap [] 0 Tryz.func221 rfl Tryz.call221 rfl ?_
  unfold Ii at h
  repeat' ((conv=>whnf)<;>first|refine u (k:=?_)|exact v|refine cp (Kr hN am) ?_|intro _|apply Br.mk|(refine hs h ?_;intro _ _ h))
theorem zo{N:Nat}(hN:N≤1073741824){s1:List Int}{r:Int}(h:yu N s1=some r) :
    ACalls Tryz.prog 264 [.d (.list 1 (Jy I s1)),.d (.fn (.func 221) [] [.ref (.agg [.fn (.func 175) [] []])])] [] fun e os=>e=.ret (.d (I r))∧os=[]:=by
  refine Cs al ap [1001] 0 Tryz.func264 rfl Tryz.call264 rfl ?_
  unfold yu at h
  repeat' ((conv=>whnf)<;>first|refine u (k:=?_)|exact v|refine st0 1001 (F:=C7 (Cr N)) r [] (fun y=>[]) ?_ ?_|refine lp0 2 h [0,1] (fun y=>[(7,.d (I y.x.1)),(8,.d (I y.x.2))]) ?_ ?_|refine cp (Lp hN am) ?_|(rw[Ew]at h;delta w64 at h)|unfold Cr at h|intro _|apply Br.mk|refine TyG.mk fun _ h=>?_|(refine hs h ?_;intro _ _ h))
theorem gR{N:Nat}(hN:N≤1073741824){s1:List Int}{r:Bool}(h:ck N s1=some r) :
    ACalls Tryz.prog 220 [.d (.list 1 (Jy I s1)),.d (.fn (.func 221) [] [.ref (.agg [.fn (.func 175) [] []])])] [] fun e os=>e=.ret (.d (.bool r))∧os=[]:=by
  refine Cs al ap [] 0 Tryz.func220 rfl Tryz.call220 rfl ?_
  unfold ck at h
  repeat' ((conv=>whnf)<;>first|refine u (k:=?_)|exact v|refine cp (zo hN am) ?_|intro _|apply Br.mk|(refine hs h ?_;intro _ _ h))
theorem OL{N:Nat}(hN:N≤1073741824){l1:List Int}{r:Bool}(h:lK N l1=some r) :
    ACalls Tryz.prog 171 [.d (.list 1 (Jy I l1)),.d (.fn (.func 175) [] [])] [] fun e os=>e=.ret (.d (.bool r))∧os=[]:=by
  refine ah (fresh:=false) al ap ⟨[3],[],[],[],[],0,[]⟩ Tryz.func171 rfl Tryz.call171 rfl ?_
  unfold lK at h
  repeat' ((conv=>whnf)<;>first|refine u (k:=?_)|exact v|refine cp (gR hN am) ?_|intro _|apply Br.mk|(refine hs h ?_;intro _ _ h))
theorem ro{N:Nat}(hN:N≤1073741824){l1:List Int}{r:Bool}(h:LP N l1=some r) :
    ACalls Tryz.prog 176 [.d (.list 1 (Jy I l1))] [] fun e os=>e=.ret (.d (.bool r))∧os=[]:=by
  refine Cs al ap [4,1001] 0 Tryz.func176 rfl Tryz.call176 rfl ?_
  unfold LP at h
  repeat' ((conv=>whnf)<;>first|refine u (k:=?_)|exact v|refine st0 1001 (F:=C7 (Jt N)) r [] (fun y=>[]) ?_ ?_|refine lp0 2 h [0] (fun y=>[(5,.d (I y.x.1)),(6,.d (I y.x.2))]) ?_ ?_|refine sq0 4 h [0,5,6] (fun x=>[(22,.d (.bool x))]) ?_ ?_|refine dr 0 9 (tkA 3 0 (.spl 11 (tkA 11 3 .done))) rfl (by kernel_rfl) ?_|(rw[JO]at h;delta w64 at h)|unfold Jt at h|intro _|apply Br.mk|refine TyG.mk fun _ h=>?_|(refine hs h ?_;intro _ _ h))
theorem NS{N:Nat}(hN:N≤1073741824){b1:mP}{r:Int}(h:ic N b1=some r) :
    ACalls Tryz.prog 136 [.d (.agg [I b1.fu.o8,I b1.fu.jF,I b1.fu.uq,I b1.fu.ue,I b1.fu.o9,.list 1 (Jy I b1.az),.list 6 (Jy aH.enc b1.aD),.list 1 (Jy I b1.ak)])] [] fun e os=>e=.ret (.d (I r))∧os=[]:=by
  refine ah (fresh:=false) al ap ⟨[1],[],[],[],[1,3,11,1005,1007],0,[]⟩ Tryz.func136 rfl Tryz.call136 rfl ?_
  unfold ic at h
  obtain⟨v6,hx13,h⟩:=obind h;(conv=>whnf);refine sk Unit [1] [] (fun _=>[(7,.d (.bool v6))]) (fun _=>[]) (fun _=>True) ?_ ?_
  ·(conv=>whnf);refine LnA.mk _ (Ia _) ?_;refine wB (fun hc17=>?_) (fun hc17=>?_)
   ·replace hx13:=ite_f hc17 hx13;(conv=>whnf);refine LnA.mk _ (Ia _) ?_;refine wB (fun hc18=>?_) (fun hc18=>?_)
    ·replace hx13:=ite_f hc18 hx13;(conv=>whnf);refine LnA.mk _ (Ia _) ?_;cases hx13;(conv=>whnf);exact⟨(),trivial,Cl⟩
    ·replace hx13:=ite_t hc18 hx13;cases hx13;(conv=>whnf);exact⟨(),trivial,Cl⟩
   ·replace hx13:=ite_t hc17 hx13;cases hx13;(conv=>whnf);exact⟨(),trivial,Cl⟩
  ·rintro _ _;refine wB (fun hc19=>?_) (fun hc19=>?_)
   ·replace h:=ite_t hc19 h;(conv=>whnf);cases h;exact rfl
   ·replace h:=ite_f hc19 h;obtain⟨v8,hx19,h⟩:=obind h;(conv=>whnf);refine sk Unit [1] [] (fun _=>[(24,.d (.bool v8))]) (fun _=>[]) (fun _=>True) ?_ ?_
    ·obtain⟨r16,hx20,hx19⟩:=obind hx19;(conv=>whnf);refine CallG.pure _ (oK hN hx20) ?_;refine wB (fun hc24=>?_) (fun hc24=>?_)
     ·replace hx19:=ite_f hc24 hx19;obtain⟨r17,hx21,hx19⟩:=obind hx19;(conv=>whnf);refine CallG.pure _ (vM hN hx21) ?_;refine wB (fun hc25=>?_) (fun hc25=>?_)
      ·replace hx19:=ite_f hc25 hx19;obtain⟨r18,hx22,hx19⟩:=obind hx19;(conv=>whnf);refine CallG.pure _ (um hN hx22) ?_;refine wB (fun hc26=>?_) (fun hc26=>?_)
       ·replace hx19:=ite_f hc26 hx19;obtain⟨r19,hx23,hx19⟩:=obind hx19;(conv=>whnf);refine CallG.pure _ (OL hN hx23) ?_;refine wB (fun hc27=>?_) (fun hc27=>?_)
        ·replace hx19:=ite_f hc27 hx19;obtain⟨r20,hx24,hx19⟩:=obind hx19;(conv=>whnf);refine CallG.pure _ (ro hN hx24) ?_;cases hx19;(conv=>whnf);exact⟨(),trivial,Cl⟩
        ·replace hx19:=ite_t hc27 hx19;cases hx19;(conv=>whnf);exact⟨(),trivial,Cl⟩
       ·replace hx19:=ite_t hc26 hx19;cases hx19;(conv=>whnf);exact⟨(),trivial,Cl⟩
      ·replace hx19:=ite_t hc25 hx19;cases hx19;(conv=>whnf);exact⟨(),trivial,Cl⟩
     ·replace hx19:=ite_t hc24 hx19;cases hx19;(conv=>whnf);exact⟨(),trivial,Cl⟩
    ·rintro _ _;refine wB (fun hc28=>?_) (fun hc28=>?_)
     ·replace h:=ite_t hc28 h;(conv=>whnf);cases h;exact rfl
     ·replace h:=ite_f hc28 h;(conv=>whnf);refine sk Unit [] [] (fun _=>[]) (fun _=>[]) (fun y=>Ek N=some r) ?_ ?_
      ·(conv=>whnf);refine LnA.mk _ (Ia _) ?_;(conv=>whnf);refine lk (Nat×(Int×Int)) [1,56] [] (fun y=>[(57,.d (I y.2.1)),(58,.d (I y.2.2))]) (fun _=>[]) (fun y=>loopN (fun rr x=>zH N b1 rr x.1 x.2) y.1 y.2=some r) (fun y=>y.1) (N,((b1.aD.length:Int),0)) h Cl ?_
       ·rintro⟨n12,⟨v235,v236⟩⟩ hl12;obtain⟨n12,rfl,hl12⟩:=loopN_some hl12;replace hl12:zH N b1 (loopN (fun rr x=>zH N b1 rr x.1 x.2) n12) v235 v236=some r:=hl12;rw[zH]at hl12;refine wB (fun hc520=>?_) (fun hc520=>?_)
        ·replace hl12:=ite_t hc520 hl12;(conv=>whnf);refine sk Unit [1,56,57,58] [] (fun _=>[]) (fun _=>[]) (fun y=>Eu N v235 v236 (loopN (fun rr x=>zH N b1 rr x.1 x.2) n12)=some r) ?_ ?_
         ·obtain⟨x156,hx268,hl12⟩:=obind hl12;(conv=>whnf);refine Side.mk rfl ⟨_,idx_0 hx268,idx_map _ hx268,?_⟩;(conv=>whnf);intro b157;refine ws ?_;obtain⟨l24,hx270,hl12⟩:=obind hl12;(conv=>whnf);refine Need.mk (slc_need _ hx270) (Eqv.mk (Jy aH.enc l24) (slc_map _ hx270) ?_);(conv=>whnf);refine LnA.mk _ (Ia _) ?_;(conv=>whnf);refine lk (Nat×(Int×Int)) [1,4,56,57,58,66] [4] (fun y=>[(67,.d (I y.2.1)),(68,.d (I y.2.2))]) (fun _=>[]) (fun y=>loopN (fun rr x=>Ai N v235 v236 (loopN (fun rr x=>zH N b1 rr x.1 x.2) n12) x156 l24 rr x.1 x.2) y.1 y.2=some r) (fun y=>y.1) (N,((l24.length:Int),0)) hl12 Cl ?_
          ·rintro⟨n14,⟨v273,v274⟩⟩ hl14;obtain⟨n14,rfl,hl14⟩:=loopN_some hl14;replace hl14:Ai N v235 v236 (loopN (fun rr x=>zH N b1 rr x.1 x.2) n12) x156 l24 (loopN (fun rr x=>Ai N v235 v236 (loopN (fun rr x=>zH N b1 rr x.1 x.2) n12) x156 l24 rr x.1 x.2) n14) v273 v274=some r:=hl14;rw[Ai]at hl14;refine wB (fun hc602=>?_) (fun hc602=>?_)
           ·replace hl14:=ite_t hc602 hl14;obtain⟨x168,hx287,hl14⟩:=obind hl14;(conv=>whnf);refine Side.mk rfl ⟨_,idx_0 hx287,idx_map _ hx287,?_⟩;(conv=>whnf);intro b169;refine ws ?_;obtain⟨v278,hx288,hl14⟩:=obind hl14;(conv=>whnf);refine sk Unit [1,4,56,57,58,66,67,68] [4] (fun _=>[(97,.d (.bool v278))]) (fun _=>[]) (fun _=>True) ?_ ?_
            ·(iterate 2 refine ws ?_);refine wB (fun hc613=>?_) (fun hc613=>?_)
             ·replace hx288:=ite_t hc613 hx288;(iterate 2 refine ws ?_);refine wB (fun hc614=>?_) (fun hc614=>?_)
              ·replace hx288:=ite_f hc614 hx288;(iterate 2 refine ws ?_);refine wB (fun hc615=>?_) (fun hc615=>?_)
               ·replace hx288:=ite_f hc615 hx288;(iterate 2 refine ws ?_);(conv=>whnf);refine Need.mk ⟨rfl,rfl⟩ (EqB.mk _ (EX x156.bg x168.bg) ?_);cases hx288;(conv=>whnf);exact⟨(),trivial,Cl⟩
               ·replace hx288:=ite_t hc615 hx288;cases hx288;(conv=>whnf);exact⟨(),trivial,Cl⟩
              ·replace hx288:=ite_t hc614 hx288;cases hx288;(conv=>whnf);exact⟨(),trivial,Cl⟩
             ·replace hx288:=ite_f hc613 hx288;cases hx288;(conv=>whnf);exact⟨(),trivial,Cl⟩
            ·rintro _ _;refine wB (fun hc616=>?_) (fun hc616=>?_)
             ·replace hl14:=ite_t hc616 hl14;(conv=>whnf);cases hl14;exact rfl
             ·replace hl14:=ite_f hc616 hl14;(conv=>whnf);exact⟨(n14,(v273,w64 (v274+1))),hl14,Cl,yb _⟩
           ·replace hl14:=ite_f hc602 hl14;(conv=>whnf);exact⟨(),hl14,Cl⟩
         ·rintro _ h;unfold Eu at h;(conv=>whnf);exact⟨(n12,(v235,w64 (v236+1))),h,Cl,yb _⟩
        ·replace hl12:=ite_f hc520 hl12;(conv=>whnf);exact⟨(),hl12,Cl⟩
      ·clear h;rintro _ h;unfold Ek at h;(conv=>whnf);cases h;exact rfl
def KW  : Int⊕(Int×Int×Int×Int×Int×Int×(List Int)×(List aH)×(List Int)×(List (BM×aH)))→AE→List (Nat×Ob)→Prop
  | .inl r=>fun ae os=>∃y:Unit,True∧ae=.ret (.d (.tup [.nilptr,I r]))∧os=[]
  | .inr r=>fun ae os=>∃y:Nat×Nat,True∧ae=.ret (.tup [.ptr 495019 y.1 0,.d (I r.1)])∧os=[(495019,.cells y.1 [.d (I r.2.1),.d (I r.2.2.1),.d (I r.2.2.2.1),.d (I r.2.2.2.2.1),.d (I r.2.2.2.2.2.1),.d (.list 1 (Jy I r.2.2.2.2.2.2.1)),.d (.list 6 (Jy aH.enc r.2.2.2.2.2.2.2.1)),.d (.list 1 (Jy I r.2.2.2.2.2.2.2.2.1)),.mp 495017 y.2]),(495017,.map y.2 (Jy (fun p=>(.agg [I p.1.af,I p.1.j2],.agg [I p.2.bX,I p.2.af,I p.2.j2,I p.2.bg.a0,I p.2.bg.a1,I p.2.bg.a2])) r.2.2.2.2.2.2.2.2.2))]
theorem ke{N:Nat}(hN:N≤1073741824){b1:mP}{r:Int⊕(Int×Int×Int×Int×Int×Int×(List Int)×(List aH)×(List Int)×(List (BM×aH)))}(h:gg N b1=some r) :
    ACalls Tryz.prog 98 [.d (.agg [I b1.fu.o8,I b1.fu.jF,I b1.fu.uq,I b1.fu.ue,I b1.fu.o9,.list 1 (Jy I b1.az),.list 6 (Jy aH.enc b1.aD),.list 1 (Jy I b1.ak)])] [] (KW  r):=by
  refine bt (fresh:=false) al ap ⟨[1],[],[],[],[9,10,1005,1007],495000,[]⟩ Tryz.func98 rfl Tryz.call98 rfl ?_
  unfold gg at h
  repeat' ((conv=>whnf)<;>first|refine u (k:=?_)|exact v|refine EU (eK:=(fun x:BM=>.agg [I x.af,I x.j2])) (eV:=(fun x:aH=>.agg [I x.bX,I x.af,I x.j2,I x.bg.a0,I x.bg.a1,I x.bg.a2])) (fun _=>rfl) ?_|refine Both.mk ?_ ?_|refine alk (eK:=(fun x:BM=>.agg [I x.af,I x.j2])) (eV:=(fun x:aH=>.agg [I x.bX,I x.af,I x.j2,I x.bg.a0,I x.bg.a1,I x.bg.a2])) BM.eqc (BM.mk _ _) ((aH.mk 0 0 0 (Ar3.mk 0 0 0))) rfl rfl ‹_› ?_|refine amu (eK:=(fun x:BM=>.agg [I x.af,I x.j2])) (eV:=(fun x:aH=>.agg [I x.bX,I x.af,I x.j2,I x.bg.a0,I x.bg.a1,I x.bg.a2])) BM.eqc (BM.mk _ _) _ rfl rfl ?_|refine cp (NS hN am) ?_|apply sq 1005 h [5] [495019] [] [] (_:Nat) (fun p x y=>[]) (fun p x y=>[(495017,.map p (Jy (fun p=>(.agg [I p.1.af,I p.1.j2],.agg [I p.2.bX,I p.2.af,I p.2.j2,I p.2.bg.a0,I p.2.bg.a1,I p.2.bg.a2])) x))]) ?_ ?_|apply lp 6 h [1,5,21] [495019] [] [] (_:Nat) (fun p y=>[(22,.d (I y.x.1)),(23,.d (I y.x.2.1))]) (fun p y=>[(495017,.map p (Jy (fun p=>(.agg [I p.1.af,I p.1.j2],.agg [I p.2.bX,I p.2.af,I p.2.j2,I p.2.bg.a0,I p.2.bg.a1,I p.2.bg.a2])) y.x.2.2))]) ?_ ?_|apply sq 1007 h [1,5,21,22,23] [495019] [] [] (_:Nat) (fun p x y=>[]) (fun p x y=>[(495017,.map p (Jy (fun p=>(.agg [I p.1.af,I p.1.j2],.agg [I p.2.bX,I p.2.af,I p.2.j2,I p.2.bg.a0,I p.2.bg.a1,I p.2.bg.a2])) x))]) ?_ ?_|refine sq 9 h [1,5,7,8,21,22,23] [495019,495007,495008,495017] [] [.t 9] () (fun p x y=>[(9,.ptr 495009 (y.b 0) 0),(10,.d (.bool x.1))]) (fun p x y=>[(495009,.cells (y.b 0) [.d (I x.2.bX),.d (I x.2.af),.d (I x.2.j2),.d (I x.2.bg.a0),.d (I x.2.bg.a1),.d (I x.2.bg.a2)])]) ?_ ?_|refine dr 0 33 (tkA 5 0 (.alt 5 [2,1,0] (tkA 3 6 (.alt 9 [8,7,6,2,1,0] (.alt 10 [8] (.take 11 .done) .nil) .nil)) (.alt 9 [4,3,2,1,0] (.alt 5 [2,1,0] (tkA 3 6 (.alt 10 [8] (.take 11 .done) .nil)) .nil) .nil))) rfl (by kernel_rfl) ?_|refine sq 10 h [1,5,7,8,21,22,23] [495019,495007,495008,495017] [] [] () (fun p x y=>[(57,.d (.bool x))]) (fun p x y=>[]) ?_ ?_|refine cp (Ac hN am) ?_|refine dr 0 58 (tkA 6 0 (.alt 6 [] .done .nil)) rfl (by kernel_rfl) ?_|(rw[cO]at h;delta w64 at h)|intro _|apply Br.mk|refine TyG.mk fun _ h=>?_|(refine hs h ?_;intro _ _ h))
def KS  : Int⊕(Int×Int×Int×Int×Int×Int×(List Int)×(List aH)×(List Int)×(List (BM×aH)))→AE→List (Nat×Ob)→Prop
  | .inl r=>fun ae os=>∃y:Unit,True∧ae=.ret (.d (.tup [.nilptr,I r]))∧os=[]
  | .inr r=>fun ae os=>∃y:Nat×Nat,True∧ae=.ret (.tup [.ptr 495019 y.1 0,.d (I r.1)])∧os=[(495019,.cells y.1 [.d (I r.2.1),.d (I r.2.2.1),.d (I r.2.2.2.1),.d (I r.2.2.2.2.1),.d (I r.2.2.2.2.2.1),.d (.list 1 (Jy I r.2.2.2.2.2.2.1)),.d (.list 6 (Jy aH.enc r.2.2.2.2.2.2.2.1)),.d (.list 1 (Jy I r.2.2.2.2.2.2.2.2.1)),.mp 495017 y.2]),(495017,.map y.2 (Jy (fun p=>(.agg [I p.1.af,I p.1.j2],.agg [I p.2.bX,I p.2.af,I p.2.j2,I p.2.bg.a0,I p.2.bg.a1,I p.2.bg.a2])) r.2.2.2.2.2.2.2.2.2))]
theorem jP{N:Nat}(hN:N≤1073741824){b1:mP}{bowler1:Int}{w1:Int}{r:Int⊕(Int×Int×Int×Int×Int×Int×(List Int)×(List aH)×(List Int)×(List (BM×aH)))}(h:fm N b1 bowler1 w1=some r) :
    ACalls Tryz.prog 92 [.d (.agg [I b1.fu.o8,I b1.fu.jF,I b1.fu.uq,I b1.fu.ue,I b1.fu.o9,.list 1 (Jy I b1.az),.list 6 (Jy aH.enc b1.aD),.list 1 (Jy I b1.ak)]),.d (I bowler1),.d (I w1)] [] (KS  r):=by
  refine bt (fresh:=false) al ap ⟨[3],[],[],[],[2,1002],465000,[]⟩ Tryz.func92 rfl Tryz.call92 rfl ?_
  unfold fm at h
  obtain⟨z2,hx2,h⟩:=obind h;rcases z2 with r2 | ⟨ra2,rb2,rc2,rd2,re2,rf2,rg2,rh2,ri2,rj2⟩
  ·(conv=>whnf);refine co (ke hN hx2) ?_;(conv=>whnf);rintro _ _;obtain⟨e2,hx8,h⟩:=obind h;(conv=>whnf);refine sk Unit [8] [] (fun _=>[(9,.d (I e2))]) (fun _=>[]) (fun _=>True) ?_ ?_
   ·obtain⟨v4,hx11,hx8⟩:=obind hx8;(conv=>whnf);refine sk Unit [8,9] [] (fun _=>[(27,.d (.bool v4))]) (fun _=>[]) (fun _=>True) ?_ ?_
    ·refine wB (fun hc8=>?_) (fun hc8=>?_)
     ·replace hx11:=ite_t hc8 hx11;obtain⟨r9,hx12,hx11⟩:=obind hx11;(conv=>whnf);refine CallG.pure _ (mI hN hx12) ?_;refine wB (fun hc9=>?_) (fun hc9=>?_)
      ·replace hx11:=ite_f hc9 hx11;obtain⟨r10,hx13,hx11⟩:=obind hx11;(conv=>whnf);refine CallG.pure _ (uo hN hx13) ?_;cases hx11;(conv=>whnf);exact⟨(),trivial,Cl⟩
      ·replace hx11:=ite_t hc9 hx11;cases hx11;(conv=>whnf);exact⟨(),trivial,Cl⟩
     ·replace hx11:=ite_f hc8 hx11;cases hx11;(conv=>whnf);exact⟨(),trivial,Cl⟩
    ·rintro _ _;refine wB (fun hc10=>?_) (fun hc10=>?_)
     ·replace hx8:=ite_t hc10 hx8;cases hx8;(conv=>whnf);exact⟨(),trivial,Cl⟩
     ·replace hx8:=ite_f hc10 hx8;cases hx8;(conv=>whnf);exact⟨(),trivial,Cl⟩
   ·rintro _ _;(conv=>whnf);cases h;exact⟨_,⟨(),trivial,rfl,rfl⟩,aA (ren:=id) trivial⟩
  ·(conv=>whnf);refine co (ke hN hx2) ?_;(conv=>whnf);rintro⟨b4,b5⟩ _;obtain⟨e4,hx19,h⟩:=obind h;(conv=>whnf);refine sk Unit [8] [495019,495017] (fun _=>[(9,.d (I e4))]) (fun _=>[]) (fun _=>True) ?_ ?_
   ·obtain⟨v8,hx22,hx19⟩:=obind hx19;(conv=>whnf);refine sk Unit [8,9] [495019,495017] (fun _=>[(27,.d (.bool v8))]) (fun _=>[]) (fun _=>True) ?_ ?_
    ·refine wB (fun hc18=>?_) (fun hc18=>?_)
     ·replace hx22:=ite_t hc18 hx22;obtain⟨r17,hx23,hx22⟩:=obind hx22;(conv=>whnf);refine CallG.pure _ (mI hN hx23) ?_;refine wB (fun hc19=>?_) (fun hc19=>?_)
      ·replace hx22:=ite_f hc19 hx22;obtain⟨r18,hx24,hx22⟩:=obind hx22;(conv=>whnf);refine CallG.pure _ (uo hN hx24) ?_;cases hx22;(conv=>whnf);exact⟨(),trivial,Cl⟩
      ·replace hx22:=ite_t hc19 hx22;cases hx22;(conv=>whnf);exact⟨(),trivial,Cl⟩
     ·replace hx22:=ite_f hc18 hx22;cases hx22;(conv=>whnf);exact⟨(),trivial,Cl⟩
    ·rintro _ _;refine wB (fun hc20=>?_) (fun hc20=>?_)
     ·replace hx19:=ite_t hc20 hx19;cases hx19;(conv=>whnf);exact⟨(),trivial,Cl⟩
     ·replace hx19:=ite_f hc20 hx19;cases hx19;(conv=>whnf);exact⟨(),trivial,Cl⟩
   ·rintro _ _;(conv=>whnf);cases h;exact⟨_,⟨(b4,b5),trivial,rfl,rfl⟩,aA (ren:=id) (ai (ai trivial))⟩
theorem vN{N:Nat}(hN:N≤1073741824){l1:List Int}{r:Int}(h:pX N l1=some r) :
    ACalls Tryz.prog 131 [.d (.list 1 (Jy I l1))] [] fun e os=>e=.ret (.d (I r))∧os=[]:=by
  refine Cs al ap [1001] 0 Tryz.func131 rfl Tryz.call131 rfl ?_
  unfold pX at h
  repeat' ((conv=>whnf)<;>first|refine u (k:=?_)|exact v|refine sq0 1001 h [] (fun x=>[(2,.d (I x))]) ?_ ?_|refine lp0 2 h [5] (fun y=>[(2,.d (I y.x.1)),(6,.d (I y.x.2.1)),(7,.d (I y.x.2.2))]) ?_ ?_|(rw[gH]at h;delta w64 at h)|intro _|apply Br.mk|refine TyG.mk fun _ h=>?_|(refine hs h ?_;intro _ _ h))
theorem ML{N:Nat}(hN:N≤1073741824){bowler1:Int}{before1:Int}{c1:Int}{c2:Int}{c3:Int}{c4:Int}{c5:Int}{c6:List Int}{c7:List aH}{c8:List Int}{m1:List (BM×aH)}{bo1:Nat}{bo2:Nat}{r:Int×Int}(h:eZ N bowler1 before1 c1 c2 c3 c4 c5 c6 c7 c8 m1=some r) :
    ACalls Tryz.prog 132 [.ptr 495019 bo1 0,.d (I bowler1),.d (I before1)] [(495019,.cells bo1 [.d (I c1),.d (I c2),.d (I c3),.d (I c4),.d (I c5),.d (.list 1 (Jy I c6)),.d (.list 6 (Jy aH.enc c7)),.d (.list 1 (Jy I c8)),.mp 495017 bo2]),(495017,.map bo2 (Jy (fun p=>(.agg [I p.1.af,I p.1.j2],.agg [I p.2.bX,I p.2.af,I p.2.j2,I p.2.bg.a0,I p.2.bg.a1,I p.2.bg.a2])) m1))] fun ae os=>∃y:Nat,True∧ae=.ret (.fn (.func 167) [] [.d (.ref (.agg [I r.1])),.ptr 1665003 y 0,.d (.ref (.agg [I r.2]))])∧os=[(495019,.cells bo1 [.d (I c1),.d (I c2),.d (I c3),.d (I c4),.d (I c5),.d (.list 1 (Jy I c6)),.d (.list 6 (Jy aH.enc c7)),.d (.list 1 (Jy I c8)),.mp 495017 bo2]),(495017,.map bo2 (Jy (fun p=>(.agg [I p.1.af,I p.1.j2],.agg [I p.2.bX,I p.2.af,I p.2.j2,I p.2.bg.a0,I p.2.bg.a1,I p.2.bg.a2])) m1)),(1665003,.cells y [.ptr 495019 bo1 0])]:=by
  refine aJ (fresh:=false) al ap ⟨[4,5],[],[],[],[],1665000,[]⟩ Tryz.func132 rfl Tryz.call132 rfl ?_
  unfold eZ at h
  repeat' ((conv=>whnf)<;>first|refine u (k:=?_)|exact v|intro _|apply Br.mk|(refine hs h ?_;intro _ _ h))
theorem iz{N:Nat}(hN:N≤1073741824){bowler1:Int}{before1:Int}{besides1:List Int}{c1:Int}{c2:Int}{c3:Int}{c4:Int}{c5:Int}{c6:List Int}{c7:List aH}{c8:List Int}{m1:List (BM×aH)}{bo1:Nat}{bo2:Nat}{r:Int}(h:dS N bowler1 before1 besides1 c1 c2 c3 c4 c5 c6 c7 c8 m1=some r) :
    ACalls Tryz.prog 93 [.ptr 495019 bo1 0,.d (I bowler1),.d (I before1),.d (.list 1 (Jy I besides1))] [(495019,.cells bo1 [.d (I c1),.d (I c2),.d (I c3),.d (I c4),.d (I c5),.d (.list 1 (Jy I c6)),.d (.list 6 (Jy aH.enc c7)),.d (.list 1 (Jy I c8)),.mp 495017 bo2]),(495017,.map bo2 (Jy (fun p=>(.agg [I p.1.af,I p.1.j2],.agg [I p.2.bX,I p.2.af,I p.2.j2,I p.2.bg.a0,I p.2.bg.a1,I p.2.bg.a2])) m1))] fun ae os=>∃y:Unit,True∧ae=.ret (.d (I r))∧os=[(495019,.cells bo1 [.d (I c1),.d (I c2),.d (I c3),.d (I c4),.d (I c5),.d (.list 1 (Jy I c6)),.d (.list 6 (Jy aH.enc c7)),.d (.list 1 (Jy I c8)),.mp 495017 bo2]),(495017,.map bo2 (Jy (fun p=>(.agg [I p.1.af,I p.1.j2],.agg [I p.2.bX,I p.2.af,I p.2.j2,I p.2.bg.a0,I p.2.bg.a1,I p.2.bg.a2])) m1))]:=by
  refine Ij al ap [1002] 500000 Tryz.func93 rfl Tryz.call93 rfl ?_
  unfold dS at h
  delta w64 at h
  repeat' ((conv=>whnf)<;>first|refine u (k:=?_)|exact v|refine EU (eK:=(fun x:BM=>.agg [I x.af,I x.j2])) (eV:=(fun x:aH=>.agg [I x.bX,I x.af,I x.j2,I x.bg.a0,I x.bg.a1,I x.bg.a2])) (fun _=>rfl) ?_|refine ArrC.mk (Jy I [_,_,_]) rfl rfl (tP _ fun _=>rfl) ?_|refine IterG.mk _ _ ⟨[],[],[],[],[3,4],2000,[]⟩ Tryz.func167 rfl Tryz.call167 rfl rfl ?_|refine Both.mk ?_ ?_|refine alk (eK:=(fun x:BM=>.agg [I x.af,I x.j2])) (eV:=(fun x:aH=>.agg [I x.bX,I x.af,I x.j2,I x.bg.a0,I x.bg.a1,I x.bg.a2])) BM.eqc (BM.mk _ 0) ((aH.mk 0 0 0 (Ar3.mk 0 0 0))) rfl rfl ‹_› ?_|refine alk (eK:=(fun x:BM=>.agg [I x.af,I x.j2])) (eV:=(fun x:aH=>.agg [I x.bX,I x.af,I x.j2,I x.bg.a0,I x.bg.a1,I x.bg.a2])) BM.eqc (BM.mk _ _) ((aH.mk 0 0 0 (Ar3.mk 0 0 0))) rfl rfl ‹_› ?_|refine cp (vN hN am) ?_|apply sq 1002 h [0,1,9,10] [495019,495017] [] [] ((_:Nat),(_:Nat)) (fun p x y=>[]) (fun p x y=>[(500009,.cells p.1 [.d (I x.1)]),(500010,.cells p.2 [.d (I x.2)])]) ?_ ?_|refine co (ML hN am) ?_|apply lp 1 h [0,2,3,8] [1665003,495019,1000,495017] [] [] ((_:Nat),(_:Nat)) (fun p y=>[(9,.d (I y.x.1))]) (fun p y=>[(500009,.cells p.1 [.d (I y.x.2.1)]),(500010,.cells p.2 [.d (I y.x.2.2)])]) ?_ ?_|refine sq 3 h [0,2,3,8,9] [1665003,495019,500009,500010,1000,495017] [] [.t 6] () (fun p x y=>[(6,.ptr 2006 (y.b 0) 0),(7,.d (.bool x.1))]) (fun p x y=>[(2006,.cells (y.b 0) [.d (I x.2.bX),.d (I x.2.af),.d (I x.2.j2),.d (I x.2.bg.a0),.d (I x.2.bg.a1),.d (I x.2.bg.a2)])]) ?_ ?_|refine dr 0 13 (tkA 6 0 (.alt 6 [3,2,1,0] (.alt 7 [2,1,0] (tkA 3 8 (.alt 11 [10,9,8,2,1,0] (.alt 12 [10] (.take 13 .done) .nil) .nil)) (.alt 11 [3,2,1,0] (.alt 7 [2,1,0] (tkA 3 8 (.alt 12 [10] (.take 13 .done) .nil)) .nil) .nil)) (.alt 11 [5,4,3,2,1,0] (.alt 6 [3,2,1,0] (.alt 7 [2,1,0] (tkA 3 8 (.alt 12 [10] (.take 13 .done) .nil)) .nil) .nil) .nil))) rfl (by kernel_rfl) ?_|apply sq 4 h [0,2,3,8,9] [1665003,495019,1000,495017] [] [] ((_:Nat),(_:Nat)) (fun p x y=>[(29,.b false)]) (fun p x y=>[(500009,.cells p.1 [.d (I x.1)]),(500010,.cells p.2 [.d (I x.2)])]) ?_ ?_|refine dr 0 21 (tkA 4 0 (.alt 4 [2,1,0] (.alt 5 [2,1,0] (.alt 6 [1,0] (.alt 7 [1,0] (.alt 8 [] (.alt 9 [] .done .nil) .nil) .nil) .nil) .nil) .nil)) rfl (by kernel_rfl) ?_|refine cp (vN (l1:=[_,_]) hN am) ?_|refine dr 0 29 (tkA 8 0 .done) rfl (by kernel_rfl) ?_|(rw[bU]at h;delta w64 at h)|intro _|apply Br.mk|refine TyG.mk fun _ h=>?_|(refine hs h ?_;intro _ _ h))
theorem qf{N:Nat}(hN:N≤1073741824){b1:mP}{bowler1:Int}{week1:Int}{r:Int×Int}(h:jz N b1 bowler1 week1=some r) :
    ACalls Tryz.prog 46 [.d (.agg [I b1.fu.o8,I b1.fu.jF,I b1.fu.uq,I b1.fu.ue,I b1.fu.o9,.list 1 (Jy I b1.az),.list 6 (Jy aH.enc b1.aD),.list 1 (Jy I b1.ak)]),.d (I bowler1),.d (I week1)] [] fun e os=>e=.ret (.d (.tup [I r.1,I r.2]))∧os=[]:=by
  refine ah (fresh:=false) al ap ⟨[3],[],[],[],[],0,[]⟩ Tryz.func46 rfl Tryz.call46 rfl ?_
  unfold jz at h
  repeat' ((conv=>whnf)<;>first|refine u (k:=?_)|exact v|refine co (jP hN am) ?_|refine co (iz (besides1:=[]) hN am) ?_|intro _|apply Br.mk|(refine hs h ?_;intro _ _ h)|(refine np ?_;cases ‹_⊕_›))
theorem lg{N:Nat}(hN:N≤1073741824){bowler1:Int}{before1:Int}{c1:Int}{c2:Int}{c3:Int}{c4:Int}{c5:Int}{c6:List Int}{c7:List aH}{c8:List Int}{m1:List (BM×aH)}{bo1:Nat}{bo2:Nat}{r:Int}(h:KA N bowler1 before1 c1 c2 c3 c4 c5 c6 c7 c8 m1=some r) :
    ACalls Tryz.prog 94 [.ptr 495019 bo1 0,.d (I bowler1),.d (I before1)] [(495019,.cells bo1 [.d (I c1),.d (I c2),.d (I c3),.d (I c4),.d (I c5),.d (.list 1 (Jy I c6)),.d (.list 6 (Jy aH.enc c7)),.d (.list 1 (Jy I c8)),.mp 495017 bo2]),(495017,.map bo2 (Jy (fun p=>(.agg [I p.1.af,I p.1.j2],.agg [I p.2.bX,I p.2.af,I p.2.j2,I p.2.bg.a0,I p.2.bg.a1,I p.2.bg.a2])) m1))] fun ae os=>∃y:Unit,True∧ae=.ret (.d (I r))∧os=[(495019,.cells bo1 [.d (I c1),.d (I c2),.d (I c3),.d (I c4),.d (I c5),.d (.list 1 (Jy I c6)),.d (.list 6 (Jy aH.enc c7)),.d (.list 1 (Jy I c8)),.mp 495017 bo2]),(495017,.map bo2 (Jy (fun p=>(.agg [I p.1.af,I p.1.j2],.agg [I p.2.bX,I p.2.af,I p.2.j2,I p.2.bg.a0,I p.2.bg.a1,I p.2.bg.a2])) m1))]:=by
  refine Ij al ap [] 500000 Tryz.func94 rfl Tryz.call94 rfl ?_
  unfold KA at h
  delta w64 at h
  repeat' ((conv=>whnf)<;>first|refine u (k:=?_)|exact v|refine Need.mk (by decide) ?_|refine dr 0 8 (tkA 9 0 (tkA 6 11 (.alt 9 [16,15,14,13,12,11,5,4,3,2,1,0] (.take 10 (tkA 3 17 .done)) .nil))) rfl (by kernel_rfl) ?_|refine co (iz (besides1:=[]) hN am) ?_|intro _|apply Br.mk|(refine hs h ?_;intro _ _ h))
theorem oL{N:Nat}(hN:N≤1073741824){b1:mP}{bowler1:Int}{week1:Int}{r:Int×Int}(h:iW N b1 bowler1 week1=some r) :
    ACalls Tryz.prog 48 [.d (.agg [I b1.fu.o8,I b1.fu.jF,I b1.fu.uq,I b1.fu.ue,I b1.fu.o9,.list 1 (Jy I b1.az),.list 6 (Jy aH.enc b1.aD),.list 1 (Jy I b1.ak)]),.d (I bowler1),.d (I week1)] [] fun e os=>e=.ret (.d (.tup [I r.1,I r.2]))∧os=[]:=by
  refine ah (fresh:=false) al ap ⟨[3],[],[],[],[],0,[]⟩ Tryz.func48 rfl Tryz.call48 rfl ?_
  unfold iW at h
  repeat' ((conv=>whnf)<;>first|refine u (k:=?_)|exact v|refine co (jP hN am) ?_|refine co (lg hN am) ?_|intro _|apply Br.mk|(refine hs h ?_;intro _ _ h)|(refine np ?_;cases ‹_⊕_›))
theorem od{N:Nat}(hN:N≤1073741824){b1:mP}{Q:((List Int)×Int)→Prop}(h:fp N b1 Q) :
    ACalls Tryz.prog 53 [.d (.agg [I b1.fu.o8,I b1.fu.jF,I b1.fu.uq,I b1.fu.ue,I b1.fu.o9,.list 1 (Jy I b1.az),.list 6 (Jy aH.enc b1.aD),.list 1 (Jy I b1.ak)])] [] (fun ae os=>∃r:(List Int)×Int,Q r∧(fun e os=>e=.ret (.d (.tup [.list 1 (Jy I r.1),I r.2]))∧os=[]) ae os):=by
  refine bt (fresh:=false) al ap ⟨[1],[],[32],[],[1005],0,[]⟩ Tryz.func53 rfl Tryz.call53 rfl ?_
  unfold fp at h
  obtain⟨z2,hx2,h⟩:=bw h;rcases z2 with r2 | ⟨ra2,rb2,rc2,rd2,re2,rf2,rg2,rh2,ri2,rj2⟩
  ·(conv=>whnf);refine co (ke hN hx2) ?_;(conv=>whnf);rintro _ _;refine wB (fun hc2=>?_) (fun hc2=>?_)
   ·replace h:=dF hc2 h;(conv=>whnf);have hv:Q _:=h;exact⟨[],⟨_,hv,rfl,rfl⟩,fun _ hq=>nomatch hq⟩
   ·replace h:=dG hc2 h;cases h
  ·(conv=>whnf);refine co (ke hN hx2) ?_;(conv=>whnf);rintro⟨b4,b5⟩ _;refine wB (fun hc4=>?_) (fun hc4=>?_)
   ·replace h:=dF hc4 h;(conv=>whnf);have hv:Q _:=h;exact⟨[],⟨_,hv,rfl,rfl⟩,fun _ hq=>nomatch hq⟩
   ·replace h:=dG hc4 h;(conv=>whnf);refine sk ((List Int)×Value) [] [] (fun y=>[(6,.sl 30 y.2)]) (fun y=>[(30,.arr y.2 3 1 false (Jy I y.1))]) (fun y=>cx N y.1 Q) ?_ ?_
    ·(iterate 2 refine ws ?_);intro ib4;(conv=>whnf);refine lk (Nat×((List Int)×(List (BM×aH)))×Value) [21] [495017] (fun y=>[(6,.sl 30 y.2.2)]) (fun y=>[(30,.arr y.2.2 3 1 false (Jy I y.2.1.1)),(21,.mit ib4 495017 b5 (Jy (fun p:BM×aH=>(.agg [I p.1.af,I p.1.j2],.agg [I p.2.bX,I p.2.af,I p.2.j2,I p.2.bg.a0,I p.2.bg.a1,I p.2.bg.a2])) rj2) (Jy (fun p:BM×aH=>(.agg [I p.1.af,I p.1.j2],.agg [I p.2.bX,I p.2.af,I p.2.j2,I p.2.bg.a0,I p.2.bg.a1,I p.2.bg.a2])) y.2.1.2) none)]) (fun y=>aG (fun rr x=>bx N rr x.1 x.2) y.1 y.2.1 Q) (fun y=>y.1) (N,([],rj2),(.slice none 0 0)) h Cl ?_
     ·rintro⟨n2,⟨l14,rem18⟩,hd19⟩ hl2;obtain⟨n2,rfl,hl2⟩:=gO hl2;replace hl2:bx N (aG (fun rr x=>bx N rr x.1 x.2) n2) l14 rem18 Q:=hl2;rw[bx]at hl2;(conv=>whnf);refine Side.mk ⟨rfl,rfl,rfl⟩ (NextG.of (fun p:BM×aH=>(.agg [I p.1.af,I p.1.j2],.agg [I p.2.bX,I p.2.af,I p.2.j2,I p.2.bg.a0,I p.2.bg.a1,I p.2.bg.a2])) rem18 rfl (fun h0=>?_) ?_)
      ·replace hl2:=pY hl2 h0;(conv=>whnf);exact⟨(l14,hd19),hl2,Cl⟩
      ·rintro⟨k12,v18⟩ rem20 hs;replace hl2:=pZ hl2 hs;(conv=>whnf);refine Side.mk ⟨rfl,rfl,rfl⟩ ?_;(conv=>whnf);intro b17;(iterate 2 refine ws ?_);(conv=>whnf);intro hd20;obtain⟨l15,hx10,hl2⟩:=bw hl2;(conv=>whnf);refine Side.mk ⟨rfl,rfl⟩ ?_;(conv=>whnf);refine Side.mk ⟨rfl,rfl,rfl⟩ (Need.mk (app_need hN hx10 (by decide)) (Eqv.mk (Jy I l15) (app_map _ hx10) ?_));(conv=>whnf);intro hd21;(conv=>whnf);exact⟨(n2,(l15,rem20),hd21),hl2,Cl,yb _⟩
    ·clear h;rintro⟨l8,hd11⟩ h;unfold cx at h;obtain⟨r4,hx7,h⟩:=bw h;(conv=>whnf);refine co (xb (k:=30) (ho:=hd11) hN hx7) ?_;(conv=>whnf);rintro _ _;refine ws ?_;(conv=>whnf);have hv:Q _:=h;exact⟨[],⟨_,hv,rfl,rfl⟩,fun _ hq=>nomatch hq⟩
theorem oM{N:Nat}(hN:N≤1073741824){b1:mP}{r:(List Int)×Int}(h:gh N b1=some r) :
    ACalls Tryz.prog 53 [.d (.agg [I b1.fu.o8,I b1.fu.jF,I b1.fu.uq,I b1.fu.ue,I b1.fu.o9,.list 1 (Jy I b1.az),.list 6 (Jy aH.enc b1.aD),.list 1 (Jy I b1.ak)])] [] (fun e os=>e=.ret (.d (.tup [.list 1 (Jy I r.1),I r.2]))∧os=[]):=(od hN (q9 h)).mono (by rintro ae os ⟨x,rfl,hp⟩;exact hp)
theorem mD{N:Nat}(hN:N≤1073741824){l1:Int}{s1:List UInt8}{r:Bool}(h:gA N l1 s1=some r) :
    ACalls Tryz.prog 75 [.d (I l1),.d (.str s1)] [] fun e os=>e=.ret (.d (.bool r))∧os=[]:=by
  refine Cs al ap [] 0 Tryz.func75 rfl Tryz.call75 rfl ?_
  unfold gA at h
  repeat' ((conv=>whnf)<;>first|refine u (k:=?_)|exact v|intro _|apply Br.mk|(refine hs h ?_;intro _ _ h))
theorem uj{N:Nat}(hN:N≤1073741824){x1:List UInt8}{a1:Int}{r:Bool}(h:kV N x1 a1=some r) :
    ACalls Tryz.prog 116 [.d (.str x1),.d (.ref (.agg [.fn (.func 75) [I a1] []]))] [] fun e os=>e=.ret (.d (.bool r))∧os=[]:=by
  refine Cs al ap [] 0 Tryz.func116 rfl Tryz.call116 rfl ?_
  unfold kV at h
  repeat' ((conv=>whnf)<;>first|refine u (k:=?_)|exact v|refine cp (mD hN am) ?_|intro _|apply Br.mk|(refine hs h ?_;intro _ _ h))
theorem lV{N:Nat}(hN:N≤1073741824){s1:List (List UInt8)}{f1:Int}{r:Int}(h:fU N s1 f1=some r) :
    ACalls Tryz.prog 163 [.d (.list 1 (Jy D.str s1)),.d (.fn (.func 116) [] [.ref (.agg [.fn (.func 75) [I f1] []])])] [] fun e os=>e=.ret (.d (I r))∧os=[]:=by
  refine Cs al ap [1001] 0 Tryz.func163 rfl Tryz.call163 rfl ?_
  unfold fU at h
  repeat' ((conv=>whnf)<;>first|refine u (k:=?_)|exact v|refine st0 1001 (F:=C7 (dX N)) r [] (fun y=>[]) ?_ ?_|refine lp0 2 h [0,1] (fun y=>[(7,.d (I y.x.1)),(8,.d (I y.x.2))]) ?_ ?_|refine cp (uj hN am) ?_|(rw[bQ]at h;delta w64 at h)|unfold dX at h|intro _|apply Br.mk|refine TyG.mk fun _ h=>?_|(refine hs h ?_;intro _ _ h))
theorem j5{N:Nat}(hN:N≤1073741824){s1:List (List UInt8)}{f1:Int}{r:Bool}(h:dY N s1 f1=some r) :
    ACalls Tryz.prog 115 [.d (.list 1 (Jy D.str s1)),.d (.fn (.func 116) [] [.ref (.agg [.fn (.func 75) [I f1] []])])] [] fun e os=>e=.ret (.d (.bool r))∧os=[]:=by
  refine Cs al ap [] 0 Tryz.func115 rfl Tryz.call115 rfl ?_
  unfold dY at h
  repeat' ((conv=>whnf)<;>first|refine u (k:=?_)|exact v|refine cp (lV hN am) ?_|intro _|apply Br.mk|(refine hs h ?_;intro _ _ h))
theorem vK{N:Nat}(hN:N≤1073741824){l1:List (List UInt8)}{right1:Int}{r:Bool}(h:mV N l1 right1=some r) :
    ACalls Tryz.prog 76 [.d (.list 1 (Jy D.str l1)),.d (.fn (.func 75) [I right1] [])] [] fun e os=>e=.ret (.d (.bool r))∧os=[]:=by
  refine ah (fresh:=false) al ap ⟨[3],[],[],[],[],0,[]⟩ Tryz.func76 rfl Tryz.call76 rfl ?_
  unfold mV at h
  repeat' ((conv=>whnf)<;>first|refine u (k:=?_)|exact v|refine cp (j5 hN am) ?_|intro _|apply Br.mk|(refine hs h ?_;intro _ _ h))
theorem gP{N:Nat}(hN:N≤1073741824){lines1:List (List UInt8)}{r:Int}(h:dw N lines1=some r) :
    ACalls Tryz.prog 34 [.d (.list 1 (Jy D.str lines1))] [] fun e os=>e=.ret (.d (I r))∧os=[]:=by
  refine Cs al ap [2] 0 Tryz.func34 rfl Tryz.call34 rfl ?_
  unfold dw at h
  repeat' ((conv=>whnf)<;>first|refine u (k:=?_)|exact v|refine sq0 2 h [] (fun x=>[(13,.d (.bool x))]) ?_ ?_|refine cp (vK hN am) ?_|intro _|apply Br.mk|refine TyG.mk fun _ h=>?_|(refine hs h ?_;intro _ _ h))
theorem sg{N:Nat}(hN:N≤1073741824) {r:aL}(h:lG N=some r) :
    ACalls Tryz.prog 77 [] [] fun ae os=>∃y:Nat,True∧ae=.ret (.ptr 390003 y 0)∧os=[(390003,.cells y (cW r))]:=by
  refine aJ (fresh:=false) al ap ⟨[],[],[100390003],[],[],390000,[]⟩ Tryz.func77 rfl Tryz.call77 rfl ?_
  unfold lG at h
  repeat' ((conv=>whnf)<;>first|refine u (k:=?_)|exact v|refine Ht cA.enc [(cA.mk (-1) [])] hN rfl ‹_› (by decide) ?_|refine aap cA.enc _ [(cA.mk (-1) [])] hN rfl rfl ‹_› (by decide) ?_|refine lun 3 5 ?_|intro _|apply Br.mk|(refine hs h ?_;intro _ _ h))
theorem ik{N:Nat}(hN:N≤1073741824){c1:aL}{bo1:Nat}{r:mP}(h:eF N c1=some r) :
    ACalls Tryz.prog 47 [.ptr 390003 bo1 0] [(390003,.cells bo1 (cW c1))] fun ae os=>∃y:Unit,True∧ae=.ret (.d (.agg [I r.fu.o8,I r.fu.jF,I r.fu.uq,I r.fu.ue,I r.fu.o9,.list 1 (Jy I r.az),.list 6 (Jy aH.enc r.aD),.list 1 (Jy I r.ak)]))∧os=[(390003,.cells bo1 (cW c1))]:=by
  refine Ij al ap [] 400000 Tryz.func47 rfl Tryz.call47 rfl ?_
  unfold eF at h
  repeat' ((conv=>whnf)<;>first|refine u (k:=?_)|exact v|refine dr 0 3 (tkA 15 1 (.alt 0 [15,14,13,12,11,10,9,8,7,6,5,4,3,2,1] (.alt 16 [14,13,12,11,9,8,7,6,4,3,2,1] (.alt 17 [] .done .nil) .nil) .nil)) rfl (by kernel_rfl) ?_|intro _|apply Br.mk|(refine hs h ?_;intro _ _ h))
theorem rp{N:Nat}(hN:N≤1073741824){words1:List UInt8}{words2:Int}{words3:List UInt8}{words4:Int}{words5:List UInt8}{words6:List Int}{r:(List UInt8)}(h:kC N words1 words2 words3 words4 words5 words6=some r) :
    ACalls Tryz.prog 52 [.d (.list 1 [.ifc 9 (.str words1),.ifc 3 (I words2),.ifc 9 (.str words3),.ifc 3 (I words4),.ifc 9 (.str words5),.ifc 25 (.list 1 (Jy I words6))])] [] fun e os=>e=.ret (.d (.str r))∧os=[]:=by
  refine Cs al ap [1004] 0 Tryz.func52 rfl Tryz.call52 rfl ?_
  unfold kC at h
  repeat' ((conv=>whnf)<;>first|refine u (k:=?_)|exact v|refine⟨_,by decide,rfl,?_⟩|refine LnA.lit 6 rfl ?_|refine lun 3 7 ?_|refine sq 1004 h [11,12,13] [] [.t 3] [] () (fun p x y=>[(3,.sl 32 (y.v 0))]) (fun p x y=>[(32,.arr (y.v 0) 9 1 false (Jy D.str x))]) ?_ ?_|refine cp (my hN am) ?_|refine lp 15 h [11,12,13,36] [] [.t 3] [] () (fun p y=>[(3,.sl 32 (y.y.v 0)),(37,.d (I y.x.1)),(38,.d (I y.x.2.1))]) (fun p y=>[(32,.arr (y.y.v 0) 9 1 false (Jy D.str y.x.2.2))]) ?_ ?_|refine cp (sw hN am) ?_|(rw[dJ]at h;delta w64 at h)|intro _|apply Br.mk|refine TyG.mk fun _ h=>?_|(refine hs h ?_;intro _ _ h))
theorem jc{N:Nat}(hN:N≤1073741824){s1:List UInt8}{bs1:List UInt8}{bo1:Nat}{ho1:Value}{r:(List UInt8)}(h:fM N s1 bs1=some r) :
    ACalls Tryz.prog 50 [.d (.str s1),.ptr 7 bo1 0] [(7,.bld bo1 126 5 ho1 bs1)] fun ae os=>∃y:Value,True∧ae=.ret (.d (.tup []))∧os=[(7,.bld bo1 126 5 y r)]:=by
  refine Ij al ap [] 10000 Tryz.func50 rfl Tryz.call50 rfl ?_
  unfold fM at h
  repeat' ((conv=>whnf)<;>first|refine u (k:=?_)|exact v|refine Need.mk (eO hN am) ?_|refine co (xO (k:=7) hN am) ?_|intro _|apply Br.mk|(refine hs h ?_;intro _ _ h))
theorem qg{N:Nat}(hN:N≤1073741824){words1:List UInt8}{words2:Int}{words3:List UInt8}{words4:Int}{words5:List UInt8}{words6:Int}{r:(List UInt8)}(h:jA N words1 words2 words3 words4 words5 words6=some r) :
    ACalls Tryz.prog 52 [.d (.list 1 [.ifc 9 (.str words1),.ifc 3 (I words2),.ifc 9 (.str words3),.ifc 3 (I words4),.ifc 9 (.str words5),.ifc 3 (I words6)])] [] fun e os=>e=.ret (.d (.str r))∧os=[]:=by
  refine Cs al ap [1004] 0 Tryz.func52 rfl Tryz.call52 rfl ?_
  unfold jA at h
  repeat' ((conv=>whnf)<;>first|refine u (k:=?_)|exact v|refine⟨_,by decide,rfl,?_⟩|refine LnA.lit 6 rfl ?_|refine lun 3 7 ?_|refine sq 1004 h [11,12,13] [] [.t 3] [] () (fun p x y=>[(3,.sl 32 (y.v 0))]) (fun p x y=>[(32,.arr (y.v 0) 9 1 false (Jy D.str x))]) ?_ ?_|refine cp (my hN am) ?_|refine cp (sw hN am) ?_|intro _|apply Br.mk|refine TyG.mk fun _ h=>?_|(refine hs h ?_;intro _ _ h))
theorem oO{N:Nat}(hN:N≤1073741824){words1:List UInt8}{words2:List Int}{r:(List UInt8)}(h:iX N words1 words2=some r) :
    ACalls Tryz.prog 52 [.d (.list 1 [.ifc 9 (.str words1),.ifc 25 (.list 1 (Jy I words2))])] [] fun e os=>e=.ret (.d (.str r))∧os=[]:=by
  refine Cs al ap [1004] 0 Tryz.func52 rfl Tryz.call52 rfl ?_
  unfold iX at h
  repeat' ((conv=>whnf)<;>first|refine u (k:=?_)|exact v|refine⟨_,by decide,rfl,?_⟩|refine LnA.lit 2 rfl ?_|refine lun 3 3 ?_|refine sq 1004 h [11,12,13] [] [.t 3] [] () (fun p x y=>[(3,.sl 32 (y.v 0))]) (fun p x y=>[(32,.arr (y.v 0) 9 1 false (Jy D.str x))]) ?_ ?_|refine lp 15 h [11,12,13,36] [] [.t 3] [] () (fun p y=>[(3,.sl 32 (y.y.v 0)),(37,.d (I y.x.1)),(38,.d (I y.x.2.1))]) (fun p y=>[(32,.arr (y.y.v 0) 9 1 false (Jy D.str y.x.2.2))]) ?_ ?_|refine cp (my hN am) ?_|refine cp (sw hN am) ?_|(rw[cP]at h;delta w64 at h)|intro _|apply Br.mk|refine TyG.mk fun _ h=>?_|(refine hs h ?_;intro _ _ h))
theorem mt{N:Nat}(hN:N≤1073741824){s1:List UInt8}{index1:Int}{r:wC}(h:MB N s1 index1=some r) :
    ACalls Tryz.prog 108 [.d (.str s1),.d (I index1)] [] fun e os=>e=.ret (.d (.agg [I r.fLong,I r.fCheck]))∧os=[]:=by
  refine Cs al ap [1002] 0 Tryz.func108 rfl Tryz.call108 rfl ?_
  unfold MB at h
  delta w64 at h
  repeat' ((conv=>whnf)<;>first|refine u (k:=?_)|exact v|refine Eqv.mk _ (sQ _) ?_|refine Need.mk (by decide) ?_|refine sq 1002 h [0,4] [4] [] [] () (fun p x y=>[(5,.d (I x))]) (fun p x y=>[]) ?_ ?_|refine lp 3 h [0,4] [4] [] [] () (fun p y=>[(5,.d (I y.x.1)),(12,.d (.list 1 (Jy (fun x=>.int .u8 x) y.x.2.1))),(13,.d (I y.x.2.2.1)),(14,.d (I y.x.2.2.2))]) (fun p y=>[]) ?_ ?_|(rw[bM]at h;delta w64 at h)|intro _|apply Br.mk|refine TyG.mk fun _ h=>?_|(refine hs h ?_;intro _ _ h))
theorem mu{N:Nat}(hN:N≤1073741824){n1:Int}{many1:Int}{r:(List UInt8)}(h:dm N n1 many1=some r) :
    ACalls Tryz.prog 158 [.d (I n1),.d (I many1)] [] fun e os=>e=.ret (.d (.str r))∧os=[]:=by
  refine ah (fresh:=false) al ap ⟨[],[],[],[],[5,1002],0,[5]⟩ Tryz.func158 rfl Tryz.call158 rfl ?_
  unfold dm at h
  (conv=>whnf);intro b2;obtain⟨b19,hx7,h⟩:=obind h;(conv=>whnf);refine sk Unit [1,5] [] (fun _=>[]) (fun _=>[(5,.cells b2 [.d (.int .u8 b19.a0),.d (.int .u8 b19.a1),.d (.int .u8 b19.a2),.d (.int .u8 b19.a3),.d (.int .u8 b19.a4)])]) (fun _=>True) ?_ ?_
  ·(conv=>whnf);refine lk (Nat×(Int×Int×(Ar5 Int))) [1,5] [] (fun y=>[(0,.d (I y.2.1)),(6,.d (I y.2.2.1))]) (fun y=>[(5,.cells b2 [.d (.int .u8 y.2.2.2.a0),.d (.int .u8 y.2.2.2.a1),.d (.int .u8 y.2.2.2.a2),.d (.int .u8 y.2.2.2.a3),.d (.int .u8 y.2.2.2.a4)])]) (fun y=>loopN (fun rr x=>aF N rr x.1 x.2.1 x.2.2) y.1 y.2=some b19) (fun y=>y.1) (N,(n1,w64 (many1-1),(Ar5.mk 0 0 0 0 0))) hx7 Cl ?_
   ·rintro⟨n11,⟨n10,i10,b31⟩⟩ hl2;obtain⟨n11,rfl,hl2⟩:=loopN_some hl2;replace hl2:aF N (loopN (fun rr x=>aF N rr x.1 x.2.1 x.2.2) n11) n10 i10 b31=some b19:=hl2;rw[aF]at hl2;refine wB (fun hc112=>?_) (fun hc112=>?_)
    ·replace hl2:=ite_t hc112 hl2;obtain⟨b35,hx13,hl2⟩:=obind hl2;(conv=>whnf);refine sk Unit [0,1,5,6] [] (fun _=>[]) (fun _=>[(5,.cells b2 [.d (.int .u8 b35.a0),.d (.int .u8 b35.a1),.d (.int .u8 b35.a2),.d (.int .u8 b35.a3),.d (.int .u8 b35.a4)])]) (fun _=>True) ?_ ?_
     ·(conv=>whnf);refine Need.mk (by decide) ?_;rcases eP (decide (i10=0))with hc128 | hc128
      ·replace hx13:=ite_t hc128 hx13;(conv=>whnf);refine IxG.mk 0 (of_decide_eq_true hc128) (by decide) ?_;refine ws ?_;cases hx13;(conv=>whnf);exact⟨(),trivial,Cl⟩
      ·replace hx13:=ite_f hc128 hx13;rcases eP (decide (i10=1))with hc129 | hc129
       ·replace hx13:=ite_t hc129 hx13;(conv=>whnf);refine IxG.mk 1 (of_decide_eq_true hc129) (by decide) ?_;refine ws ?_;cases hx13;(conv=>whnf);exact⟨(),trivial,Cl⟩
       ·replace hx13:=ite_f hc129 hx13;rcases eP (decide (i10=2))with hc130 | hc130
        ·replace hx13:=ite_t hc130 hx13;(conv=>whnf);refine IxG.mk 2 (of_decide_eq_true hc130) (by decide) ?_;refine ws ?_;cases hx13;(conv=>whnf);exact⟨(),trivial,Cl⟩
        ·replace hx13:=ite_f hc130 hx13;rcases eP (decide (i10=3))with hc131 | hc131
         ·replace hx13:=ite_t hc131 hx13;(conv=>whnf);refine IxG.mk 3 (of_decide_eq_true hc131) (by decide) ?_;refine ws ?_;cases hx13;(conv=>whnf);exact⟨(),trivial,Cl⟩
         ·replace hx13:=ite_f hc131 hx13;rcases eP (decide (i10=4))with hc132 | hc132
          ·replace hx13:=ite_t hc132 hx13;(conv=>whnf);refine IxG.mk 4 (of_decide_eq_true hc132) (by decide) ?_;refine ws ?_;cases hx13;(conv=>whnf);exact⟨(),trivial,Cl⟩
          ·replace hx13:=ite_f hc132 hx13;cases hx13
     ·rintro _ _;(conv=>whnf);refine Need.mk (by decide) ?_;(conv=>whnf);exact⟨(n11,(w64 (Int.tdiv n10 10),w64 (i10-1),b35)),hl2,Cl,yb _⟩
    ·replace hl2:=ite_f hc112 hl2;cases hl2;(conv=>whnf);exact⟨(),trivial,Cl⟩
  ·rintro _ _;obtain⟨l2,hx15,h⟩:=obind h;refine ws ?_;(conv=>whnf);refine ArrS.mk (Jy (fun x=>.int .u8 x) [b19.a0,b19.a1,b19.a2,b19.a3,b19.a4]) rfl rfl (tP _ fun _=>rfl) ?_;(conv=>whnf);refine Need.mk (ui hx15 rfl) (Eqv.mk (Jy (fun x=>.int .u8 x) l2) (slc_map0 _ hx15) ?_);refine ws ?_;(conv=>whnf);refine StrG.mk l2 rfl ?_;(conv=>whnf);cases h;exact rfl
theorem fB{N:Nat}(hN:N≤1073741824){hv1:wC}{r:(List UInt8)}(h:L5 N hv1=some r) :
    ACalls Tryz.prog 109 [.d (.agg [I hv1.fLong,I hv1.fCheck])] [] fun e os=>e=.ret (.d (.str r))∧os=[]:=by
  refine ah (fresh:=false) al ap ⟨[1],[],[],[],[],0,[]⟩ Tryz.func109 rfl Tryz.call109 rfl ?_
  unfold L5 at h
  repeat' ((conv=>whnf)<;>first|refine u (k:=?_)|exact v|refine Need.mk (eO hN am) ?_|refine dr 0 3 (tkA 2 0 (tkA 2 5 (.alt 2 [6,5,0] (tkA 2 3 (.alt 7 [4,3,5,0] (tkA 3 8 .done) .nil)) .nil))) rfl (by kernel_rfl) ?_|refine cp (mu hN am) ?_|intro _|apply Br.mk|(refine hs h ?_;intro _ _ h))
theorem O4{N:Nat}(hN:N≤1073741824){lines1:List (List UInt8)}{r:(List Int)}(h:jE N lines1=some r) :
    ACalls Tryz.prog 63 [.d (.list 1 (Jy D.str lines1))] [] fun e os=>e=.ret (.d (.list 1 (Jy (fun x=>.int .u8 x) r)))∧os=[]:=by
  refine Cs al ap [1002] 0 Tryz.func63 rfl Tryz.call63 rfl ?_
  unfold jE at h
  obtain⟨l11,hx43,h⟩:=obind h;(conv=>whnf);refine sk Value [] [] (fun y=>[(3,.sl 21 y)]) (fun y=>[(21,.arr y 5 1 false (Jy (fun x=>.int .u8 x) l11))]) (fun _=>True) ?_ ?_
  ·(conv=>whnf);refine LnA.mk _ (Ia _) ?_;(conv=>whnf);refine lk (Nat×(Int×Int×(List Int))×Value) [6] [] (fun y=>[(3,.sl 21 y.2.2),(7,.d (I y.2.1.1)),(8,.d (I y.2.1.2.1))]) (fun y=>[(21,.arr y.2.2 5 1 false (Jy (fun x=>.int .u8 x) y.2.1.2.2))]) (fun y=>loopN (fun rr x=>cH N lines1 rr x.1 x.2.1 x.2.2) y.1 y.2.1=some l11) (fun y=>y.1) (N,((lines1.length:Int),0,[]),(.slice none 0 0)) hx43 Cl ?_
   ·rintro⟨n2,⟨v17,v18,l19⟩,hd19⟩ hl2;obtain⟨n2,rfl,hl2⟩:=loopN_some hl2;replace hl2:cH N lines1 (loopN (fun rr x=>cH N lines1 rr x.1 x.2.1 x.2.2) n2) v17 v18 l19=some l11:=hl2;rw[cH]at hl2;refine wB (fun hc12=>?_) (fun hc12=>?_)
    ·replace hl2:=ite_t hc12 hl2;obtain⟨x24,hx80,hl2⟩:=obind hl2;(conv=>whnf);refine Side.mk rfl ⟨_,idx_0 hx80,idx_map _ hx80,?_⟩;obtain⟨r23,hx81,hl2⟩:=obind hl2;(conv=>whnf);refine CallG.pure _ (mt hN hx81) ?_;obtain⟨r24,hx82,hl2⟩:=obind hl2;(conv=>whnf);refine CallG.pure _ (fB hN hx82) ?_;obtain⟨s23,hx83,hl2⟩:=obind hl2;(conv=>whnf);refine Need.mk (eO hN hx83) ?_;obtain⟨s24,hx84,hl2⟩:=obind hl2;(conv=>whnf);refine Need.mk (eO hN hx84) ?_;obtain⟨l21,hx85,hl2⟩:=obind hl2;(conv=>whnf);refine Side.mk ⟨rfl,rfl,rfl⟩ (Eqv.mk (Jy (fun x=>.int .u8 x) (bytesI (((r24++x24)++([10]:List UInt8))))) (sQ _) ?_);(conv=>whnf);refine Side.mk ⟨rfl,rfl,rfl⟩ (Need.mk (vH hN hx85) (Eqv.mk (Jy (fun x=>.int .u8 x) l21) (app_map _ hx85) ?_));(conv=>whnf);intro hd21;(conv=>whnf)
     exact⟨(n2,(v17,w64 (v18+1),l21),hd21),hl2,Cl,yb _⟩
    ·replace hl2:=ite_f hc12 hl2;cases hl2;(conv=>whnf);exact⟨hd19,trivial,Cl⟩
  ·rintro hd11 _;refine ws ?_;(conv=>whnf);cases h;exact rfl
