/-
  Walks: what the typed functions compute, the program’s functions return.
-/
import Derived.Test.YtdodahpkpeodfaaGreatDoorWe
import Derived.Test.YtdodahpkpeodfaaGreatDoorVa
namespace Go.Proofs.YtdodahpkpeodfaaGreatDoor
open Go Go.Abs Go.Kp
set_option maxRecDepth 100000
set_option maxHeartbeats 8000000
set_option linter.all false
def EP (bo1:Nat):(DeskRefusal×DeskWork)⊕DeskWork→AE→List (Nat×Ob)→Prop
  | .inl r=>fun ae os=>∃y:Unit,True∧ae=.pan (.ifc 211 (.agg [I r.1.fE]))∧os=[(390003,.cells bo1 (cW r.2))]
  | .inr r=>fun ae os=>∃y:Unit,True∧ae=.ret (.d (.tup []))∧os=[(390003,.cells bo1 (cW r))]
theorem jL{N:Nat}(hN:N≤1073741824){n1:List Int}{c1:DeskWork}{bo1:Nat}{r:(DeskRefusal×DeskWork)⊕DeskWork}(h:g8 N n1 c1=some r) :
    ACalls Tryz.prog 208 [.ptr 390003 bo1 0,.d (.list 1 (List.map I n1))] [(390003,.cells bo1 (cW c1))] (EP bo1 r):=by
  refine bt (fresh:=false) al ap ⟨[],[],[100390003],[],[1],400000,[]⟩ Tryz.func208 rfl Tryz.call208 rfl ?_
  unfold g8 at h
  delta w64 at h
  repeat' ((conv=>whnf)<;>first|refine u (k:=?_)|exact v|refine Both.mk ?_ ?_|refine cq (fy hN am) ?_|refine co (fy hN am) ?_|refine sq 1 h [0,1,4] [390003,400004] [] [.t 5] () (fun p x y=>[(5,.ptr 400005 (y.b 0) 0)]) (fun p x y=>[(400005,.cells (y.b 0) [.d (.list 1 (List.map eL x.fFrames)),.d (.list 1 (List.map I x.fCounts)),.d (I x.fStanding),.d (.bool x.fDone)])]) ?_ ?_|refine dr 0 13 (tkA 2 1 (.alt 0 [2,1] (.alt 3 [1] (tkA 3 4 (.alt 7 [6,5,4,1] (.alt 8 [6] (.take 9 .done) .nil) .nil)) (.alt 7 [2,1] (.alt 3 [1] (tkA 3 4 (.alt 8 [6] (.take 9 .done) .nil)) .nil) .nil)) (.alt 7 [2,1] (.alt 0 [2,1] (.alt 3 [1] (tkA 3 4 (.alt 8 [6] (.take 9 .done) .nil)) .nil) .nil) .nil))) rfl (by kernel_rfl) ?_|refine cp (fP hN am) ?_|refine cp (cm hN am) ?_|refine cq (aI hN am) ?_|refine co (aI hN am) ?_|refine cf 28 400028 (j9 hN am) ?_|refine dr 0 32 (tkA 24 0 (.alt 24 [22,21,20,19,18,17,16,14,13,12,11,10,9,8,7,6,5,4,3,2,1,0] (.take 25 (.alt 26 [] .done .nil)) .nil)) rfl (by kernel_rfl) ?_|refine cp (lW hN am) ?_|refine co (oG (x1:=(DeskLane.mk (-1) [])) hN am) ?_|intro _|refine Br.mk (fun _=>?_) fun _=>?_|refine TyG.mk fun _ h=>?_|(refine hs h ?_;intro _ _ h)|(refine np ?_;cases ‹_⊕_›)|fail)
theorem lX{N:Nat}(hN:N≤1073741824) {r:Unit}(h:jl N=some r) :
    ACalls Tryz.prog 79 [.nils 6] [] fun e os=>e=.ret (.nils 6)∧os=[]:=by
  refine ah (fresh:=true) al ap ⟨[],[],[],[],[],0,[]⟩ Tryz.func79 rfl Tryz.call79 rfl ?_
  unfold jl at h
  repeat' ((conv=>whnf)<;>first|refine u (k:=?_)|exact v|intro _|refine Br.mk (fun _=>?_) fun _=>?_|(refine hs h ?_;intro _ _ h)|fail)
theorem lY{N:Nat}(hN:N≤1073741824){s1:List RateSheet}{r:(List RateSheet)}(h:dR N s1=some r) :
    ACalls Tryz.prog 79 [.nn 6 (List.map RateSheet.enc s1)] [] fun e os=>∃hd,e=.ret (.sl 0 hd)∧os=[(0,.arr hd 94 6 false (List.map RateSheet.enc r))]:=by
  refine gk al ap ⟨[],[],[],[],[],0,[]⟩ Tryz.func79 rfl Tryz.call79 rfl ?_
  unfold dR at h
  repeat' ((conv=>whnf)<;>first|refine u (k:=?_)|exact v|refine aap RateSheet.enc [] _ hN rfl rfl ‹_› (by decide) ?_|intro _|refine Br.mk (fun _=>?_) fun _=>?_|(refine hs h ?_;intro _ _ h)|fail)
theorem Dt{N:Nat}(hN:N≤1073741824){l:List RateSheet}{r:(List RateSheet)}(h:gD N l=some r) :
    ACalls Tryz.prog 79 [.d (.list 6 (List.map RateSheet.enc l))] [] fun e os=>∃hd,e=.ret (.sl 0 hd)∧os=[(0,.arr hd 94 6 false (List.map RateSheet.enc r))]:=by
  unfold gD at h
  refine ACalls.nils_or (fun e=>?_) (lY hN h)
  have e2:=List.map_eq_nil_iff.1 e
  subst e2
  have e3:r=[]:=by simpa [dR,app]using h.symm
  subst e3
  exact ACalls.nil_own (lX hN (r:=()) rfl)
theorem Bh{N:Nat}(hN:N≤1073741824){l1:List RateSheet}{x1:RateSheet}{r:(List RateSheet)}(h:ze N l1 x1=some r) :
    ACalls Tryz.prog 252 [.d (.list 6 (List.map RateSheet.enc l1)),.d (.agg [I x1.fNumber,I x1.fBowler,I x1.fWeek,I x1.fGames.a0,I x1.fGames.a1,I x1.fGames.a2])] [] fun e os=>e=.ret (.d (.list 6 (List.map RateSheet.enc r)))∧os=[]:=by
  refine ah (fresh:=false) al ap ⟨[3],[],[],[],[1],0,[]⟩ Tryz.func252 rfl Tryz.call252 rfl ?_
  unfold ze at h
  repeat' ((conv=>whnf)<;>first|refine u (k:=?_)|exact v|refine aap RateSheet.enc _ [_] hN rfl rfl ‹_› (by decide) ?_|refine Both.mk ?_ ?_|refine sq 1 h [] [] [.t 4] [] () (fun p x y=>[(4,.sl 6 (y.v 0))]) (fun p x y=>[(6,.arr (y.v 0) 94 6 false (List.map RateSheet.enc x))]) ?_ ?_|refine dr 0 5 (.take 0 (.take 2 (.alt 1 [2] (.alt 3 [] (.alt 4 [] (.take 5 .done) .nil) .nil) (.alt 3 [0] (.alt 1 [] (.alt 4 [] (.take 5 .done) .nil) .nil) .nil)))) rfl (by kernel_rfl) ?_|refine cf 6 6 (Dt hN am) ?_|intro _|refine Br.mk (fun _=>?_) fun _=>?_|refine TyG.mk fun _ h=>?_|(refine hs h ?_;intro _ _ h)|fail)
def As (bo1:Nat):(DeskRefusal×DeskWork)⊕DeskWork→AE→List (Nat×Ob)→Prop
  | .inl r=>fun ae os=>∃y:Unit,True∧ae=.pan (.ifc 211 (.agg [I r.1.fE]))∧os=[(390003,.cells bo1 (cW r.2))]
  | .inr r=>fun ae os=>∃y:Unit,True∧ae=.ret (.d (.tup []))∧os=[(390003,.cells bo1 (cW r))]
theorem zy{N:Nat}(hN:N≤1073741824){n1:List Int}{c1:DeskWork}{bo1:Nat}{r:(DeskRefusal×DeskWork)⊕DeskWork}(h:yF N n1 c1=some r) :
    ACalls Tryz.prog 209 [.ptr 390003 bo1 0,.d (.list 1 (List.map I n1))] [(390003,.cells bo1 (cW c1))] (As bo1 r):=by
  refine bt (fresh:=false) al ap ⟨[],[],[100390003],[],[5,7],400000,[58,84]⟩ Tryz.func209 rfl Tryz.call209 rfl ?_
  unfold yF at h
  delta w64 at h
  repeat' ((conv=>whnf)<;>first|refine u (k:=?_)|exact v|refine Both.mk ?_ ?_|refine cp (fO hN am) ?_|refine cq (aI hN am) ?_|refine co (aI hN am) ?_|refine co (jH hN am) ?_|refine dr 0 18 (tkA 11 0 .done) rfl (by kernel_rfl) ?_|refine sq 5 h [0,1,4] [390003] [] [.t 5] () (fun p x y=>[(5,.ptr 400005 (y.b 0) 0)]) (fun p x y=>[(400005,.cells (y.b 0) [.d (I x.fNumber),.d (I x.fBowler),.d (I x.fWeek),.d (I x.fGames.a0),.d (I x.fGames.a1),.d (I x.fGames.a2)])]) ?_ ?_|refine dr 0 40 (tkA 13 0 (.alt 13 [11,10,8,7,5,4,3,2,1,0] (.alt 14 [11,10,8,7,5,4,3,2,1,0] (.alt 15 [] .done .nil) .nil) (.alt 14 [12,11,10,9,8,7,6,5,4,3,2,1,0] (.alt 13 [11,10,8,7,5,4,3,2,1,0] (.alt 15 [] .done .nil) .nil) .nil))) rfl (by kernel_rfl) ?_|refine sqb 7 h [0,1,4,5] [390003] [] [] 400005 (fun p x y=>[(6,.d (I x.1))]) (fun p x y=>[(400005,.cells p [.d (I x.2.fNumber),.d (I x.2.fBowler),.d (I x.2.fWeek),.d (I x.2.fGames.a0),.d (I x.2.fGames.a1),.d (I x.2.fGames.a2)])]) ?_|refine dr 0 57 (.take 0 (tkA 2 2 (.alt 1 [3,2] (.alt 4 [] (.alt 5 [] .done .nil) .nil) (.alt 4 [0] (.alt 1 [] (.alt 5 [] .done .nil) .nil) .nil)))) rfl (by kernel_rfl) ?_|refine cf 69 400069 (j9 hN am) ?_|refine dr 0 73 (tkA 10 0 (.alt 10 [7,6,5,4,3,2,1,0] (.alt 11 [7,6,5,4,3,2,1,0] (.take 12 (.alt 13 [] .done .nil)) .nil) .nil)) rfl (by kernel_rfl) ?_|refine cf 84 400084 (bB hN am) ?_|refine dr 0 86 (tkA 7 0 (.alt 7 [4,3,2,1,0] (tkA 3 8 (.alt 11 [9,8] .done .nil)) .nil)) rfl (by kernel_rfl) ?_|refine cp (Bh hN am) ?_|intro _|refine Br.mk (fun _=>?_) fun _=>?_|refine TyG.mk fun _ h=>?_|(refine hs h ?_;intro _ _ h)|(refine np ?_;cases ‹_⊕_›)|fail)
theorem Hl{N:Nat}(hN:N≤1073741824){x1:Int}{r:Bool}(h:zw N x1=some r) :
    ACalls Tryz.prog 229 [.d (I x1)] [] fun e os=>e=.ret (.d (.bool r))∧os=[]:=by
  refine ah (fresh:=false) al ap ⟨[],[],[],[],[],0,[]⟩ Tryz.func229 rfl Tryz.call229 rfl ?_
  unfold zw at h
  repeat' ((conv=>whnf)<;>first|refine u (k:=?_)|exact v|intro _|refine Br.mk (fun _=>?_) fun _=>?_|(refine hs h ?_;intro _ _ h)|fail)
theorem BY{N:Nat}(hN:N≤1073741824){x1:Int}{y1:Int}{r:Bool}(h:zK N x1 y1=some r) :
    ACalls Tryz.prog 184 [.d (I x1),.d (I y1)] [] fun e os=>e=.ret (.d (.bool r))∧os=[]:=by
  refine ah (fresh:=false) al ap ⟨[],[],[],[],[1],0,[]⟩ Tryz.func184 rfl Tryz.call184 rfl ?_
  unfold zK at h
  repeat' ((conv=>whnf)<;>first|refine u (k:=?_)|exact v|refine sq0 1 h [] (fun x=>[(4,.d (.bool x))]) ?_ ?_|refine cp (Hl hN am) ?_|intro _|refine Br.mk (fun _=>?_) fun _=>?_|refine TyG.mk fun _ h=>?_|(refine hs h ?_;intro _ _ h)|fail)
theorem zS{N:Nat}(hN:N≤1073741824){x1:Int}{r:Bool}(h:yX N x1=some r) :
    ACalls Tryz.prog 281 [.d (I x1)] [] fun e os=>e=.ret (.d (.bool r))∧os=[]:=by
  refine ah (fresh:=false) al ap ⟨[],[],[],[],[],0,[]⟩ Tryz.func281 rfl Tryz.call281 rfl ?_
  unfold yX at h
  repeat' ((conv=>whnf)<;>first|refine u (k:=?_)|exact v|intro _|refine Br.mk (fun _=>?_) fun _=>?_|(refine hs h ?_;intro _ _ h)|fail)
theorem zC{N:Nat}(hN:N≤1073741824){x1:List Int}{target1:Int}{r:Int×Bool}(h:xX N x1 target1=some r) :
    ACalls Tryz.prog 253 [.d (.list 1 (List.map I x1)),.d (I target1)] [] fun e os=>e=.ret (.d (.tup [I r.1,.bool r.2]))∧os=[]:=by
  refine ah (fresh:=false) al ap ⟨[],[],[],[],[8,1003],0,[]⟩ Tryz.func253 rfl Tryz.call253 rfl ?_
  unfold xX at h
  (conv=>whnf);refine LnA.mk _ (List.length_map _) ?_;obtain⟨⟨n7,i5⟩,hx13,h⟩:=obind h;(conv=>whnf);refine SeqG.mk Unit (fun y=>[(0,.d (.list 1 (List.map I x1))),(1,.d (I target1)),(6,.d (I n7)),(7,.d (I i5))]) (fun y=>[]) (fun _=>True) ?_ ?_
  ·(conv=>whnf);refine LoopG.mk (Nat×(Int×Int×Int)) (fun y=>[(0,.d (.list 1 (List.map I x1))),(1,.d (I target1)),(6,.d (I y.2.1)),(7,.d (I y.2.2.1)),(8,.d (I y.2.2.2))]) (fun y=>[]) (fun y=>loopN (fun rr x=>ls N x1 target1 rr x.1 x.2.1 x.2.2) y.1 y.2=some (n7,i5)) (fun y=>y.1) (N,((x1.length:Int),0,(x1.length:Int))) hx13 (Sub.eq rfl ?_ ?_) ?_
   ·(repeat ((conv=>whnf);refine nr ?_));exact trivial
   ·exact trivial
   ·rintro⟨n13,⟨n12,i9,j10⟩⟩ hl2;obtain⟨n13,rfl,hl2⟩:=loopN_some hl2;replace hl2:ls N x1 target1 (loopN (fun rr x=>ls N x1 target1 rr x.1 x.2.1 x.2.2) n13) n12 i9 j10=some (n7,i5):=hl2;rw[ls]at hl2;(conv=>whnf);refine SeqG.mk Unit (fun y=>[(0,.d (.list 1 (List.map I x1))),(1,.d (I target1)),(6,.d (I n12)),(7,.d (I i9)),(8,.d (I j10))]) (fun y=>[]) (fun y=>yi N x1 target1 n12 i9 j10 (loopN (fun rr x=>ls N x1 target1 rr x.1 x.2.1 x.2.2) n13)=some (n7,i5)) ?_ ?_
    ·refine wB (fun hc18=>?_) (fun hc18=>?_)
     ·replace hl2:=ite_t hc18 hl2;(conv=>whnf);exact⟨(),hl2,b9⟩
     ·replace hl2:=ite_f hc18 hl2;cases hl2;(conv=>whnf);exact⟨(),trivial,b9⟩
    ·rintro _ h;unfold yi at h;(conv=>whnf);refine Need.mk (by decide) ?_;obtain⟨x13,hx24,h⟩:=obind h;(conv=>whnf);refine Side.mk rfl ⟨_,idx_0 hx24,idx_map _ hx24,?_⟩;obtain⟨r12,hx25,h⟩:=obind h;(conv=>whnf);refine CallG.pure _ (BY hN hx25) ?_;refine wB (fun hc17=>?_) (fun hc17=>?_)
     ·replace h:=ite_t hc17 h;(conv=>whnf);exact⟨(n13,(n12,w64 ((w64 (Bs .u64 (Go.IntKind.wrap .u64 (w64 (i9+j10))) 1))+1),j10)),h,b9,Nat.lt_succ_self _⟩
     ·replace h:=ite_f hc17 h;(conv=>whnf);exact⟨(n13,(n12,i9,w64 (Bs .u64 (Go.IntKind.wrap .u64 (w64 (i9+j10))) 1))),h,b9,Nat.lt_succ_self _⟩
  ·rintro _ _;obtain⟨v2,hx29,h⟩:=obind h;(conv=>whnf);refine SeqG.mk Unit (fun y=>[(4,.d (I i5)),(5,.d (.bool v2))]) (fun y=>[]) (fun _=>True) ?_ ?_
   ·refine wB (fun hc22=>?_) (fun hc22=>?_)
    ·replace hx29:=ite_t hc22 hx29;obtain⟨x15,hx30,hx29⟩:=obind hx29;(conv=>whnf);refine Side.mk rfl ⟨_,idx_0 hx30,idx_map _ hx30,?_⟩;refine wB (fun hc23=>?_) (fun hc23=>?_)
     ·replace hx29:=ite_f hc23 hx29;(conv=>whnf);refine Side.mk rfl ⟨_,idx_0 hx30,idx_map _ hx30,?_⟩;obtain⟨r15,hx31,hx29⟩:=obind hx29;(conv=>whnf);refine CallG.pure _ (zS hN hx31) ?_;refine wB (fun hc24=>?_) (fun hc24=>?_)
      ·replace hx29:=ite_t hc24 hx29;obtain⟨r16,hx32,hx29⟩:=obind hx29;(conv=>whnf);refine CallG.pure _ (zS hN hx32) ?_;cases hx29;(conv=>whnf);exact⟨(),trivial,b9⟩
      ·replace hx29:=ite_f hc24 hx29;cases hx29;(conv=>whnf);exact⟨(),trivial,b9⟩
     ·replace hx29:=ite_t hc23 hx29;cases hx29;(conv=>whnf);exact⟨(),trivial,b9⟩
    ·replace hx29:=ite_f hc22 hx29;cases hx29;(conv=>whnf);exact⟨(),trivial,b9⟩
   ·rintro _ _;(conv=>whnf);cases h;exact rfl
def Ab (bo1:Nat):(DeskRefusal×DeskWork)⊕DeskWork→AE→List (Nat×Ob)→Prop
  | .inl r=>fun ae os=>∃y:Unit,True∧ae=.pan (.ifc 211 (.agg [I r.1.fE]))∧os=[(390003,.cells bo1 (cW r.2))]
  | .inr r=>fun ae os=>∃y:Unit,True∧ae=.ret (.d (.tup []))∧os=[(390003,.cells bo1 (cW r))]
theorem zt{N:Nat}(hN:N≤1073741824){n1:List Int}{c1:DeskWork}{bo1:Nat}{r:(DeskRefusal×DeskWork)⊕DeskWork}(h:yz N n1 c1=some r) :
    ACalls Tryz.prog 210 [.ptr 390003 bo1 0,.d (.list 1 (List.map I n1))] [(390003,.cells bo1 (cW c1))] (Ab bo1 r):=by
  refine bt (fresh:=false) al ap ⟨[],[],[44,100390003],[],[],400000,[]⟩ Tryz.func210 rfl Tryz.call210 rfl ?_
  unfold yz at h
  repeat' ((conv=>whnf)<;>first|refine u (k:=?_)|exact v|refine Side.mk (by kernel_rfl) ?_|refine Both.mk ?_ ?_|refine dr 0 6 (tkA 9 0 (.alt 9 [7,6,5,4,3,1,0] (.alt 10 [7,6,5,4,3,1,0] .done .nil) .nil)) rfl (by kernel_rfl) ?_|refine cp (fO hN am) ?_|refine cq (aI hN am) ?_|refine co (aI hN am) ?_|refine dr 0 18 (tkA 8 0 (.alt 8 [6,5,3,2,1,0] (tkA 5 9 .done) .nil)) rfl (by kernel_rfl) ?_|refine cp (zC hN am) ?_|refine dr 0 32 (tkA 6 0 (tkA 4 7 (.alt 6 [10,9,8,7,4,3,2,1,0] (.alt 11 [9,8,7,4,3,2,1,0] (.alt 12 [9,8,4,3,2,1,0] (tkA 3 13 (.alt 16 [14,13] .done .nil)) .nil) .nil) (.alt 11 [9,8,7,5,4,3,2,1,0] (.alt 6 [9,8,7,4,3,2,1,0] (.alt 12 [9,8,4,3,2,1,0] (tkA 3 13 (.alt 16 [14,13] .done .nil)) .nil) .nil) .nil)))) rfl (by kernel_rfl) ?_|refine cf 38 400038 (bB hN am) ?_|refine co (Cc (k:=400038) (k2:=400043) hN am) ?_|intro _|refine Br.mk (fun _=>?_) fun _=>?_|(refine hs h ?_;intro _ _ h)|(refine np ?_;cases ‹_⊕_›)|fail)
theorem qh{N:Nat}(hN:N≤1073741824){c1:DeskWork}{bo1:Nat}{r:LadderCup}(h:jB N c1=some r) :
    ACalls Tryz.prog 55 [.ptr 390003 bo1 0] [(390003,.cells bo1 (cW c1))] fun ae os=>∃y:Unit,True∧ae=.ret (.d (.agg [.int .u8 r.fForm,I r.fPlayers,I r.fGames,.list 3 (List.map LadderResult.enc r.fResults)]))∧os=[(390003,.cells bo1 (cW c1))]:=by
  refine aJ (fresh:=false) al ap ⟨[],[],[],[],[],400000,[]⟩ Tryz.func55 rfl Tryz.call55 rfl ?_
  unfold jB at h
  repeat' ((conv=>whnf)<;>first|refine u (k:=?_)|exact v|refine dr 0 3 (tkA 11 0 (.alt 11 [9,8,7,6,4,3,2,1,0] (.alt 12 [] .done .nil) .nil)) rfl (by kernel_rfl) ?_|intro _|refine Br.mk (fun _=>?_) fun _=>?_|(refine hs h ?_;intro _ _ h)|fail)
theorem mJ{N:Nat}(hN:N≤1073741824){r1:LadderResult}{r:Bool}(h:gI N r1=some r) :
    ACalls Tryz.prog 140 [.d (.agg [I r1.fMatch,.list 1 (List.map I r1.fGames),.bool r1.fProtested])] [] fun e os=>e=.ret (.d (.bool r))∧os=[]:=by
  refine ah (fresh:=false) al ap ⟨[1],[],[],[],[],0,[]⟩ Tryz.func140 rfl Tryz.call140 rfl ?_
  unfold gI at h
  repeat' ((conv=>whnf)<;>first|refine u (k:=?_)|exact v|intro _|refine Br.mk (fun _=>?_) fun _=>?_|(refine hs h ?_;intro _ _ h)|fail)
theorem rq{N:Nat}(hN:N≤1073741824){x1:LadderResult}{r:Bool}(h:kD N x1=some r) :
    ACalls Tryz.prog 190 [.d (.agg [I x1.fMatch,.list 1 (List.map I x1.fGames),.bool x1.fProtested]),.d (.ref (.agg [.fn (.func 140) [] []]))] [] fun e os=>e=.ret (.d (.bool r))∧os=[]:=by
  refine ah (fresh:=false) al ap ⟨[2],[],[],[],[],0,[]⟩ Tryz.func190 rfl Tryz.call190 rfl ?_
  unfold kD at h
  repeat' ((conv=>whnf)<;>first|refine u (k:=?_)|exact v|refine cp (mJ hN am) ?_|intro _|refine Br.mk (fun _=>?_) fun _=>?_|(refine hs h ?_;intro _ _ h)|fail)
theorem kF{N:Nat}(hN:N≤1073741824){s1:List LadderResult}{r:Int}(h:eG N s1=some r) :
    ACalls Tryz.prog 230 [.d (.list 3 (List.map LadderResult.enc s1)),.d (.fn (.func 190) [] [.ref (.agg [.fn (.func 140) [] []])])] [] fun e os=>e=.ret (.d (I r))∧os=[]:=by
  refine ah (fresh:=false) al ap ⟨[],[],[],[],[1001],0,[]⟩ Tryz.func230 rfl Tryz.call230 rfl ?_
  unfold eG at h
  repeat' ((conv=>whnf)<;>first|refine u (k:=?_)|exact v|refine st0 1001 (F:=C7 (dh N)) r [] (fun y=>[]) ?_ ?_|refine lp0 2 h [0,1] (fun y=>[(7,.d (I y.x.1)),(8,.d (I y.x.2))]) ?_ ?_|refine cp (rq hN am) ?_|(rw[bD]at h;delta w64 at h)|unfold dh at h|intro _|refine Br.mk (fun _=>?_) fun _=>?_|refine TyG.mk fun _ h=>?_|(refine hs h ?_;intro _ _ h)|fail)
theorem jp{N:Nat}(hN:N≤1073741824){s1:List LadderResult}{r:Bool}(h:zR N s1=some r) :
    ACalls Tryz.prog 189 [.d (.list 3 (List.map LadderResult.enc s1)),.d (.fn (.func 190) [] [.ref (.agg [.fn (.func 140) [] []])])] [] fun e os=>e=.ret (.d (.bool r))∧os=[]:=by
  refine ah (fresh:=false) al ap ⟨[],[],[],[],[],0,[]⟩ Tryz.func189 rfl Tryz.call189 rfl ?_
  unfold zR at h
  repeat' ((conv=>whnf)<;>first|refine u (k:=?_)|exact v|refine cp (kF hN am) ?_|intro _|refine Br.mk (fun _=>?_) fun _=>?_|(refine hs h ?_;intro _ _ h)|fail)
theorem ss{N:Nat}(hN:N≤1073741824){l1:List LadderResult}{r:Bool}(h:lM N l1=some r) :
    ACalls Tryz.prog 143 [.d (.list 3 (List.map LadderResult.enc l1)),.d (.fn (.func 140) [] [])] [] fun e os=>e=.ret (.d (.bool r))∧os=[]:=by
  refine ah (fresh:=false) al ap ⟨[3],[],[],[],[],0,[]⟩ Tryz.func143 rfl Tryz.call143 rfl ?_
  unfold lM at h
  repeat' ((conv=>whnf)<;>first|refine u (k:=?_)|exact v|refine cp (jp hN am) ?_|intro _|refine Br.mk (fun _=>?_) fun _=>?_|(refine hs h ?_;intro _ _ h)|fail)
theorem im{N:Nat}(hN:N≤1073741824){n1:Int}{low1:Int}{high1:Int}{r:Bool}(h:eH N n1 low1 high1=some r) :
    ACalls Tryz.prog 142 [.d (I n1),.d (I low1),.d (I high1)] [] fun e os=>e=.ret (.d (.bool r))∧os=[]:=by
  refine ah (fresh:=false) al ap ⟨[],[],[],[],[1],0,[]⟩ Tryz.func142 rfl Tryz.call142 rfl ?_
  unfold eH at h
  repeat' ((conv=>whnf)<;>first|refine u (k:=?_)|exact v|refine sq0 1 h [] (fun x=>[(6,.d (.bool x))]) ?_ ?_|intro _|refine Br.mk (fun _=>?_) fun _=>?_|refine TyG.mk fun _ h=>?_|(refine hs h ?_;intro _ _ h)|fail)
theorem mK{N:Nat}(hN:N≤1073741824){c1:LadderCup}{r:Int}(h:gJ N c1=some r) :
    ACalls Tryz.prog 144 [.d (.agg [.int .u8 c1.fForm,I c1.fPlayers,I c1.fGames,.list 3 (List.map LadderResult.enc c1.fResults)])] [] fun e os=>e=.ret (.d (I r))∧os=[]:=by
  refine ah (fresh:=false) al ap ⟨[1],[],[],[],[1],0,[]⟩ Tryz.func144 rfl Tryz.call144 rfl ?_
  unfold gJ at h
  repeat' ((conv=>whnf)<;>first|refine u (k:=?_)|exact v|refine Need.mk (by decide) ?_|refine sq0 1 h [] (fun x=>[(23,.d (.bool x))]) ?_ ?_|refine cp (im hN am) ?_|intro _|refine Br.mk (fun _=>?_) fun _=>?_|refine TyG.mk fun _ h=>?_|(refine hs h ?_;intro _ _ h)|fail)
theorem mL{N:Nat}(hN:N≤1073741824){r1:LadderResult}{a1:LadderCup}{r:Bool}(h:gK N r1 a1=some r) :
    ACalls Tryz.prog 141 [.d (.agg [I r1.fMatch,.list 1 (List.map I r1.fGames),.bool r1.fProtested]),.d (.ref (.agg [.int .u8 a1.fForm,I a1.fPlayers,I a1.fGames,.list 3 (List.map LadderResult.enc a1.fResults)]))] [] fun e os=>e=.ret (.d (.bool r))∧os=[]:=by
  refine ah (fresh:=false) al ap ⟨[2],[],[],[],[1],0,[]⟩ Tryz.func141 rfl Tryz.call141 rfl ?_
  unfold gK at h
  delta w64 at h
  repeat' ((conv=>whnf)<;>first|refine u (k:=?_)|exact v|refine sq0 1 h [] (fun x=>[(3,.d (.bool x))]) ?_ ?_|refine cp (im hN am) ?_|intro _|refine Br.mk (fun _=>?_) fun _=>?_|refine TyG.mk fun _ h=>?_|(refine hs h ?_;intro _ _ h)|fail)
theorem qi{N:Nat}(hN:N≤1073741824){x1:LadderResult}{a1:LadderCup}{r:Bool}(h:jC N x1 a1=some r) :
    ACalls Tryz.prog 190 [.d (.agg [I x1.fMatch,.list 1 (List.map I x1.fGames),.bool x1.fProtested]),.d (.ref (.agg [.fn (.func 141) [] [.ref (.agg [.int .u8 a1.fForm,I a1.fPlayers,I a1.fGames,.list 3 (List.map LadderResult.enc a1.fResults)])]]))] [] fun e os=>e=.ret (.d (.bool r))∧os=[]:=by
  refine ah (fresh:=false) al ap ⟨[2],[],[],[],[],0,[]⟩ Tryz.func190 rfl Tryz.call190 rfl ?_
  unfold jC at h
  repeat' ((conv=>whnf)<;>first|refine u (k:=?_)|exact v|refine cp (mL hN am) ?_|intro _|refine Br.mk (fun _=>?_) fun _=>?_|(refine hs h ?_;intro _ _ h)|fail)
theorem j6{N:Nat}(hN:N≤1073741824){s1:List LadderResult}{f1:LadderCup}{r:Int}(h:d4 N s1 f1=some r) :
    ACalls Tryz.prog 230 [.d (.list 3 (List.map LadderResult.enc s1)),.d (.fn (.func 190) [] [.ref (.agg [.fn (.func 141) [] [.ref (.agg [.int .u8 f1.fForm,I f1.fPlayers,I f1.fGames,.list 3 (List.map LadderResult.enc f1.fResults)])]])])] [] fun e os=>e=.ret (.d (I r))∧os=[]:=by
  refine ah (fresh:=false) al ap ⟨[],[],[],[],[1001],0,[]⟩ Tryz.func230 rfl Tryz.call230 rfl ?_
  unfold d4 at h
  repeat' ((conv=>whnf)<;>first|refine u (k:=?_)|exact v|refine st0 1001 (F:=C7 (yx N)) r [] (fun y=>[]) ?_ ?_|refine lp0 2 h [0,1] (fun y=>[(7,.d (I y.x.1)),(8,.d (I y.x.2))]) ?_ ?_|refine cp (qi hN am) ?_|(rw[xW]at h;delta w64 at h)|unfold yx at h|intro _|refine Br.mk (fun _=>?_) fun _=>?_|refine TyG.mk fun _ h=>?_|(refine hs h ?_;intro _ _ h)|fail)
theorem jb{N:Nat}(hN:N≤1073741824){s1:List LadderResult}{f1:LadderCup}{r:Bool}(h:cU N s1 f1=some r) :
    ACalls Tryz.prog 189 [.d (.list 3 (List.map LadderResult.enc s1)),.d (.fn (.func 190) [] [.ref (.agg [.fn (.func 141) [] [.ref (.agg [.int .u8 f1.fForm,I f1.fPlayers,I f1.fGames,.list 3 (List.map LadderResult.enc f1.fResults)])]])])] [] fun e os=>e=.ret (.d (.bool r))∧os=[]:=by
  refine ah (fresh:=false) al ap ⟨[],[],[],[],[],0,[]⟩ Tryz.func189 rfl Tryz.call189 rfl ?_
  unfold cU at h
  repeat' ((conv=>whnf)<;>first|refine u (k:=?_)|exact v|refine cp (j6 hN am) ?_|intro _|refine Br.mk (fun _=>?_) fun _=>?_|(refine hs h ?_;intro _ _ h)|fail)
theorem rt{N:Nat}(hN:N≤1073741824){l1:List LadderResult}{right1:LadderCup}{r:Bool}(h:kE N l1 right1=some r) :
    ACalls Tryz.prog 143 [.d (.list 3 (List.map LadderResult.enc l1)),.d (.fn (.func 141) [] [.ref (.agg [.int .u8 right1.fForm,I right1.fPlayers,I right1.fGames,.list 3 (List.map LadderResult.enc right1.fResults)])])] [] fun e os=>e=.ret (.d (.bool r))∧os=[]:=by
  refine ah (fresh:=false) al ap ⟨[3],[],[],[],[],0,[]⟩ Tryz.func143 rfl Tryz.call143 rfl ?_
  unfold kE at h
  repeat' ((conv=>whnf)<;>first|refine u (k:=?_)|exact v|refine cp (jb hN am) ?_|intro _|refine Br.mk (fun _=>?_) fun _=>?_|(refine hs h ?_;intro _ _ h)|fail)
theorem kf{N:Nat}(hN:N≤1073741824){n1:Int}{r:LadderSide}(h:gi N n1=some r) :
    ACalls Tryz.prog 231 [.d (I n1)] [] fun e os=>e=.ret (.d (.agg [I r.fPlayer,I r.fMatch]))∧os=[]:=by
  refine ah (fresh:=false) al ap ⟨[],[],[],[],[],0,[]⟩ Tryz.func231 rfl Tryz.call231 rfl ?_
  unfold gi at h
  repeat' ((conv=>whnf)<;>first|refine u (k:=?_)|exact v|intro _|refine Br.mk (fun _=>?_) fun _=>?_|(refine hs h ?_;intro _ _ h)|fail)
theorem Ax{N:Nat}(hN:N≤1073741824){n1:Int}{r:LadderSide}(h:y8 N n1=some r) :
    ACalls Tryz.prog 232 [.d (I n1)] [] fun e os=>e=.ret (.d (.agg [I r.fPlayer,I r.fMatch]))∧os=[]:=by
  refine ah (fresh:=false) al ap ⟨[],[],[],[],[],0,[]⟩ Tryz.func232 rfl Tryz.call232 rfl ?_
  unfold y8 at h
  repeat' ((conv=>whnf)<;>first|refine u (k:=?_)|exact v|intro _|refine Br.mk (fun _=>?_) fun _=>?_|(refine hs h ?_;intro _ _ h)|fail)
theorem Em{N:Nat}(hN:N≤1073741824){c1:LadderCup}{r:(List LadderPair)}(h:fX N c1=some r) :
    ACalls Tryz.prog 191 [.d (.agg [.int .u8 c1.fForm,I c1.fPlayers,I c1.fGames,.list 3 (List.map LadderResult.enc c1.fResults)])] [] fun e os=>e=.ret (.d (.list 4 (List.map LadderPair.enc r)))∧os=[]:=by
  refine ah (fresh:=false) al ap ⟨[1],[],[],[],[1003],0,[]⟩ Tryz.func191 rfl Tryz.call191 rfl ?_
  unfold fX at h
  delta w64 at h
  repeat' ((conv=>whnf)<;>first|refine u (k:=?_)|exact v|refine aap LadderPair.enc _ [(LadderPair.mk _ _)] hN rfl rfl ‹_› (by decide) ?_|refine cp (kf hN am) ?_|refine sq 1003 h [] [] [.t 4] [] () (fun p x y=>[(4,.sl 15 (y.v 0))]) (fun p x y=>[(15,.arr (y.v 0) 309 4 false (List.map LadderPair.enc x))]) ?_ ?_|refine lp 4 h [] [] [.t 4] [] () (fun p y=>[(3,.d (I y.x.1)),(4,.sl 15 (y.y.v 0)),(5,.d (I y.x.2.1))]) (fun p y=>[(15,.arr (y.y.v 0) 309 4 false (List.map LadderPair.enc y.x.2.2))]) ?_ ?_|refine cp (Ax hN am) ?_|(rw[bV]at h;delta w64 at h)|intro _|refine Br.mk (fun _=>?_) fun _=>?_|refine TyG.mk fun _ h=>?_|(refine hs h ?_;intro _ _ h)|fail)
theorem jQ{N:Nat}(hN:N≤1073741824){c1:LadderCup}{r:(List LadderPair)}(h:ie N c1=some r) :
    ACalls Tryz.prog 145 [.d (.agg [.int .u8 c1.fForm,I c1.fPlayers,I c1.fGames,.list 3 (List.map LadderResult.enc c1.fResults)])] [] fun e os=>e=.ret (.d (.list 4 (List.map LadderPair.enc r)))∧os=[]:=by
  refine ah (fresh:=false) al ap ⟨[1],[],[],[],[],0,[]⟩ Tryz.func145 rfl Tryz.call145 rfl ?_
  unfold ie at h
  repeat' ((conv=>whnf)<;>first|refine u (k:=?_)|exact v|refine cp (Em hN am) ?_|intro _|refine Br.mk (fun _=>?_) fun _=>?_|(refine hs h ?_;intro _ _ h)|fail)
theorem qj{N:Nat}(hN:N≤1073741824) {r:Unit}(h:jD N=some r) :
    ACalls Tryz.prog 194 [] [] fun e os=>e=.ret (.d (.agg [.fn (.func 236) [] [],.fn (.func 237) [] []]))∧os=[]:=by
  refine ah (fresh:=false) al ap ⟨[],[],[],[],[],0,[]⟩ Tryz.func194 rfl Tryz.call194 rfl ?_
  unfold jD at h
  repeat' ((conv=>whnf)<;>first|refine u (k:=?_)|exact v|intro _|refine Br.mk (fun _=>?_) fun _=>?_|(refine hs h ?_;intro _ _ h)|fail)
theorem En{N:Nat}(hN:N≤1073741824){p1:LadderPair}{r:LadderSide}(h:fY N p1=some r) :
    ACalls Tryz.prog 236 [.d (.agg [I p1.fFirst.fPlayer,I p1.fFirst.fMatch,I p1.fSecond.fPlayer,I p1.fSecond.fMatch])] [] fun e os=>e=.ret (.d (.agg [I r.fPlayer,I r.fMatch]))∧os=[]:=by
  refine ah (fresh:=false) al ap ⟨[1],[],[],[],[],0,[]⟩ Tryz.func236 rfl Tryz.call236 rfl ?_
  unfold fY at h
  repeat' ((conv=>whnf)<;>first|refine u (k:=?_)|exact v|intro _|refine Br.mk (fun _=>?_) fun _=>?_|(refine hs h ?_;intro _ _ h)|fail)
theorem je{N:Nat}(hN:N≤1073741824){l1:List Int}{r:Int}(h:gq N l1=some r) :
    ACalls Tryz.prog 198 [.d (.list 1 (List.map I l1))] [] fun e os=>e=.ret (.d (I r))∧os=[]:=by
  refine ah (fresh:=false) al ap ⟨[],[],[],[],[1001],0,[]⟩ Tryz.func198 rfl Tryz.call198 rfl ?_
  unfold gq at h
  repeat' ((conv=>whnf)<;>first|refine u (k:=?_)|exact v|refine sq0 1001 h [] (fun x=>[(2,.d (I x))]) ?_ ?_|refine lp0 2 h [5] (fun y=>[(2,.d (I y.x.1)),(6,.d (I y.x.2.1)),(7,.d (I y.x.2.2))]) ?_ ?_|(rw[eJ]at h;delta w64 at h)|intro _|refine Br.mk (fun _=>?_) fun _=>?_|refine TyG.mk fun _ h=>?_|(refine hs h ?_;intro _ _ h)|fail)
theorem lh{N:Nat}(hN:N≤1073741824){p1:LadderPair}{r:LadderSide}(h:zQ N p1=some r) :
    ACalls Tryz.prog 237 [.d (.agg [I p1.fFirst.fPlayer,I p1.fFirst.fMatch,I p1.fSecond.fPlayer,I p1.fSecond.fMatch])] [] fun e os=>e=.ret (.d (.agg [I r.fPlayer,I r.fMatch]))∧os=[]:=by
  refine ah (fresh:=false) al ap ⟨[1],[],[],[],[],0,[]⟩ Tryz.func237 rfl Tryz.call237 rfl ?_
  unfold zQ at h
  repeat' ((conv=>whnf)<;>first|refine u (k:=?_)|exact v|intro _|refine Br.mk (fun _=>?_) fun _=>?_|(refine hs h ?_;intro _ _ h)|fail)
theorem AX{N:Nat}(hN:N≤1073741824){s1:List Int}{v1:Int}{r:Int}(h:zx N s1 v1=some r) :
    ACalls Tryz.prog 177 [.d (.list 1 (List.map I s1)),.d (I v1)] [] fun e os=>e=.ret (.d (I r))∧os=[]:=by
  refine ah (fresh:=false) al ap ⟨[],[],[],[],[1001],0,[]⟩ Tryz.func177 rfl Tryz.call177 rfl ?_
  unfold zx at h
  repeat' ((conv=>whnf)<;>first|refine u (k:=?_)|exact v|refine st0 1001 (F:=C7 (zf N)) r [] (fun y=>[]) ?_ ?_|refine lp0 2 h [0,1] (fun y=>[(7,.d (I y.x.1)),(8,.d (I y.x.2))]) ?_ ?_|(rw[yA]at h;delta w64 at h)|unfold zf at h|intro _|refine Br.mk (fun _=>?_) fun _=>?_|refine TyG.mk fun _ h=>?_|(refine hs h ?_;intro _ _ h)|fail)
theorem Ac{N:Nat}(hN:N≤1073741824){s1:List Int}{v1:Int}{r:Bool}(h:yP N s1 v1=some r) :
    ACalls Tryz.prog 137 [.d (.list 1 (List.map I s1)),.d (I v1)] [] fun e os=>e=.ret (.d (.bool r))∧os=[]:=by
  refine ah (fresh:=false) al ap ⟨[],[],[],[],[],0,[]⟩ Tryz.func137 rfl Tryz.call137 rfl ?_
  unfold yP at h
  repeat' ((conv=>whnf)<;>first|refine u (k:=?_)|exact v|refine cp (AX hN am) ?_|intro _|refine Br.mk (fun _=>?_) fun _=>?_|(refine hs h ?_;intro _ _ h)|fail)
theorem yj{N:Nat}(hN:N≤1073741824){match1:Int}{games1:List Int}{c1:Int}{c2:Int}{c3:Int}{c4:List LadderResult}{c5:List LadderPair}{m1:List (Int×LadderResult)}{l1:List (Ar2 Int)}{bo1:Nat}{bo2:Nat}{ho1:Value}{r:(Ar2 Int)}(h:xS N match1 games1 c1 c2 c3 c4 c5 m1 l1=some r) :
    ACalls Tryz.prog 269 [.ptr 505040 bo1 0,.d (I match1),.d (.list 1 (List.map I games1))] [(505040,.cells bo1 (cD c1 c2 c3 c4 c5 505038 bo2 1735055 ho1)),(505038,.map bo2 (List.map eMR m1)),(1735055,.arr ho1 162 2 false (List.map eA2 l1))] fun ae os=>∃y:Unit,True∧ae=.ret (.d (.agg [I r.a0,I r.a1]))∧os=[(505040,.cells bo1 (cD c1 c2 c3 c4 c5 505038 bo2 1735055 ho1)),(505038,.map bo2 (List.map eMR m1)),(1735055,.arr ho1 162 2 false (List.map eA2 l1))]:=by
  refine aJ (fresh:=false) al ap ⟨[],[],[],[],[1003,1006],1740000,[]⟩ Tryz.func269 rfl Tryz.call269 rfl ?_
  unfold xS at h
  repeat' ((conv=>whnf)<;>first|refine u (k:=?_)|exact v|refine lun 2 3 ?_|apply sq 1003 h [2,6,17,18] [505040,505038,1735055] [] [] (_:Nat) (fun p x y=>[]) (fun p x y=>[(1740006,.cells p [.d (I x.a0),.d (I x.a1)])]) ?_ ?_|apply lp 5 h [2,6,7,8,17,18,22] [505040,505038,1735055] [] [] (_:Nat) (fun p y=>[(23,.d (I y.x.1)),(24,.d (I y.x.2.1))]) (fun p y=>[(1740006,.cells p [.d (I y.x.2.2.a0),.d (I y.x.2.2.a1)])]) ?_ ?_|apply sq 1006 h [2,6,7,8,17,18,22,23,24] [505040,505038,1735055] [] [] (_:Nat) (fun p x y=>[]) (fun p x y=>[(1740006,.cells p [.d (I x.a0),.d (I x.a1)])]) ?_ ?_|refine cp (je (l1:=[_,1]) hN am) ?_|(rw[eE]at h;delta w64 at h)|(rw[eS]at h;delta w64 at h)|intro _|refine Br.mk (fun _=>?_) fun _=>?_|refine TyG.mk fun _ h=>?_|(refine hs h ?_;intro _ _ h)|fail)
theorem yL{N:Nat}(hN:N≤1073741824){match1:Int}{games1:List Int}{c1:Int}{c2:Int}{c3:Int}{c4:List LadderResult}{c5:List LadderPair}{m1:List (Int×LadderResult)}{l1:List (Ar2 Int)}{bo1:Nat}{bo2:Nat}{ho1:Value}{r:Int}(h:xP N match1 games1 c1 c2 c3 c4 c5 m1 l1=some r) :
    ACalls Tryz.prog 235 [.ptr 505040 bo1 0,.d (I match1),.d (.list 1 (List.map I games1))] [(505040,.cells bo1 (cD c1 c2 c3 c4 c5 505038 bo2 1735055 ho1)),(505038,.map bo2 (List.map eMR m1)),(1735055,.arr ho1 162 2 false (List.map eA2 l1))] fun ae os=>∃y:Unit,True∧ae=.ret (.d (I r))∧os=[(505040,.cells bo1 (cD c1 c2 c3 c4 c5 505038 bo2 1735055 ho1)),(505038,.map bo2 (List.map eMR m1)),(1735055,.arr ho1 162 2 false (List.map eA2 l1))]:=by
  refine aJ (fresh:=false) al ap ⟨[],[],[],[],[],1740000,[]⟩ Tryz.func235 rfl Tryz.call235 rfl ?_
  unfold xP at h
  delta w64 at h
  repeat' ((conv=>whnf)<;>first|refine u (k:=?_)|exact v|refine co (yj hN am) ?_|refine lun 2 3 ?_|intro _|refine Br.mk (fun _=>?_) fun _=>?_|(refine hs h ?_;intro _ _ h)|fail)
theorem zz{N:Nat}(hN:N≤1073741824){r1:LadderResult}{c1:Int}{c2:Int}{c3:Int}{c4:List LadderResult}{c5:List LadderPair}{m1:List (Int×LadderResult)}{l1:List (Ar2 Int)}{bo1:Nat}{bo2:Nat}{ho1:Value}{r:Bool}(h:yg N r1 c1 c2 c3 c4 c5 m1 l1=some r) :
    ACalls Tryz.prog 193 [.ptr 505040 bo1 0,.d (.agg [I r1.fMatch,.list 1 (List.map I r1.fGames),.bool r1.fProtested])] [(505040,.cells bo1 (cD c1 c2 c3 c4 c5 505038 bo2 1735055 ho1)),(505038,.map bo2 (List.map eMR m1)),(1735055,.arr ho1 162 2 false (List.map eA2 l1))] fun ae os=>∃y:Unit,True∧ae=.ret (.d (.bool r))∧os=[(505040,.cells bo1 (cD c1 c2 c3 c4 c5 505038 bo2 1735055 ho1)),(505038,.map bo2 (List.map eMR m1)),(1735055,.arr ho1 162 2 false (List.map eA2 l1))]:=by
  refine aJ (fresh:=false) al ap ⟨[3],[],[],[],[2,8,1005],1740000,[5]⟩ Tryz.func193 rfl Tryz.call193 rfl ?_
  unfold yg at h
  repeat' ((conv=>whnf)<;>first|refine u (k:=?_)|exact v|refine ArrS.mk (List.map I [_,_]) rfl rfl (tP _ fun _=>rfl) ?_|refine dr 0 9 (tkA 8 0 (.alt 8 [7,6,5,4,3,2,1,0] (.alt 9 [] .done .nil) .nil)) rfl (by kernel_rfl) ?_|refine sq 2 h [0,3,5] [505040,505038,1735055] [] [] () (fun p x y=>[(24,.d (.bool x))]) (fun p x y=>[]) ?_ ?_|refine sq 1005 h [] [505040,505038,1735055] [] [] () (fun p x y=>[(6,.d (.bool x))]) (fun p x y=>[]) ?_ ?_|refine lp 6 h [0,3,5,6,26] [505040,505038,1735055] [] [] () (fun p y=>[(27,.d (I y.x.1)),(28,.d (I y.x.2))]) (fun p y=>[]) ?_ ?_|refine sq 8 h [0,3,5,6,26,27,28] [505040,505038,1735055] [] [] () (fun p x y=>[(47,.d (.bool x))]) (fun p x y=>[]) ?_ ?_|refine dr 0 33 (.take 1 (.alt 0 [1] (.alt 2 [] (tkA 2 3 (.spl 37 (tkA 6 5 (.alt 11 [8,7,6,5,3] (.alt 12 [8,6,3] (tkA 2 13 .done) .nil) .nil)))) .nil) .nil)) rfl (by kernel_rfl) ?_|refine cp (Ac hN am) ?_|refine co (yL hN am) ?_|(rw[fw]at h;delta w64 at h)|intro _|refine Br.mk (fun _=>?_) fun _=>?_|refine TyG.mk fun _ h=>?_|(refine hs h ?_;intro _ _ h)|fail)
theorem ym{N:Nat}(hN:N≤1073741824){match1:Int}{c1:Int}{c2:Int}{c3:Int}{c4:List LadderResult}{c5:List LadderPair}{m1:List (Int×LadderResult)}{l1:List (Ar2 Int)}{bo1:Nat}{bo2:Nat}{ho1:Value}{r:Int}(h:dq N match1 c1 c2 c3 c4 c5 m1 l1=some r) :
    ACalls Tryz.prog 195 [.ptr 505040 bo1 0,.d (I match1)] [(505040,.cells bo1 (cD c1 c2 c3 c4 c5 505038 bo2 1735055 ho1)),(505038,.map bo2 (List.map eMR m1)),(1735055,.arr ho1 162 2 false (List.map eA2 l1))] fun ae os=>∃y:Unit,True∧ae=.ret (.d (I r))∧os=[(505040,.cells bo1 (cD c1 c2 c3 c4 c5 505038 bo2 1735055 ho1)),(505038,.map bo2 (List.map eMR m1)),(1735055,.arr ho1 162 2 false (List.map eA2 l1))]:=by
  refine aJ (fresh:=false) al ap ⟨[],[],[],[],[],1740000,[]⟩ Tryz.func195 rfl Tryz.call195 rfl ?_
  unfold dq at h
  repeat' ((conv=>whnf)<;>first|refine u (k:=?_)|exact v|refine EU (eK:=(fun x:Int=>I x)) (eV:=(fun x:LadderResult=>.agg [I x.fMatch,.list 1 (List.map I x.fGames),.bool x.fProtested])) (fun _=>rfl) ?_|refine alk (eK:=(fun x:Int=>I x)) (eV:=(fun x:LadderResult=>.agg [I x.fMatch,.list 1 (List.map I x.fGames),.bool x.fProtested])) jg _ ((LadderResult.mk 0 ([]) false)) rfl rfl ‹_› ?_|refine co (yL hN am) ?_|intro _|refine Br.mk (fun _=>?_) fun _=>?_|(refine hs h ?_;intro _ _ h)|fail)
theorem iA{N:Nat}(hN:N≤1073741824){c1:Int}{c2:Int}{c3:Int}{c4:List LadderResult}{c5:List LadderPair}{m1:List (Int×LadderResult)}{bo1:Nat}{bo2:Nat}{r:Bool×Int×Int×Int×(List LadderResult)×(List LadderPair)×(List (Ar2 Int))}(h:fZ N c1 c2 c3 c4 c5 m1=some r) :
    ACalls Tryz.prog 146 [.ptr 505040 bo1 0] [(505040,.cells bo1 [.d (.int .u8 c1),.d (I c2),.d (I c3),.d (.list 3 (List.map LadderResult.enc c4)),.d (.list 4 (List.map LadderPair.enc c5)),.mp 505038 bo2,.nils 2]),(505038,.map bo2 (List.map eMR m1))] fun ae os=>∃y:Value,True∧ae=.ret (.d (.bool r.1))∧os=[(505040,.cells bo1 (cD r.2.1 r.2.2.1 r.2.2.2.1 r.2.2.2.2.1 r.2.2.2.2.2.1 505038 bo2 1735055 y)),(505038,.map bo2 (List.map eMR m1)),(1735055,.arr y 162 2 false (List.map eA2 r.2.2.2.2.2.2))]:=by
  refine aJ (fresh:=false) al ap ⟨[],[],[],[],[16,1002,1008],1735000,[]⟩ Tryz.func146 rfl Tryz.call146 rfl ?_
  unfold fZ at h
  repeat' ((conv=>whnf)<;>first|refine u (k:=?_)|exact v|refine aap eA2 _ [_] hN rfl rfl ‹_› (by decide) ?_|refine EU (eK:=(fun x:Int=>I x)) (eV:=(fun x:LadderResult=>.agg [I x.fMatch,.list 1 (List.map I x.fGames),.bool x.fProtested])) (fun _=>rfl) ?_|refine alk (eK:=(fun x:Int=>I x)) (eV:=(fun x:LadderResult=>.agg [I x.fMatch,.list 1 (List.map I x.fGames),.bool x.fProtested])) jg 0 ((LadderResult.mk 0 ([]) false)) rfl rfl ‹_› ?_|refine alk (eK:=(fun x:Int=>I x)) (eV:=(fun x:LadderResult=>.agg [I x.fMatch,.list 1 (List.map I x.fGames),.bool x.fProtested])) jg _ ((LadderResult.mk 0 ([]) false)) rfl rfl ‹_› ?_|refine st 1002 (F:=GR (yJ N c1 c2 c3 c4 c5)) r [] [505038] [.c 505040 6] [] () (fun p y=>[]) (fun p y=>[(505040,.cells bo1 [.d (.int .u8 c1),.d (I c2),.d (I c3),.d (.list 3 (List.map LadderResult.enc c4)),.d (.list 4 (List.map LadderPair.enc c5)),.mp 505038 bo2,.sl 1735055 (y.y.v 0)]),(1735055,.arr (y.y.v 0) 162 2 false (List.map eA2 y.x))]) ?_ ?_|refine lp 3 h [0,3,17] [505038] [.c 505040 6] [] () (fun p y=>[(18,.d (I y.x.1)),(19,.d (I y.x.2.1))]) (fun p y=>[(505040,.cells bo1 [.d (.int .u8 c1),.d (I c2),.d (I c3),.d (.list 3 (List.map LadderResult.enc c4)),.d (.list 4 (List.map LadderPair.enc c5)),.mp 505038 bo2,.sl 1735055 (y.y.v 0)]),(1735055,.arr (y.y.v 0) 162 2 false (List.map eA2 y.x.2.2))]) ?_ ?_|refine cp (qj hN am) ?_|refine lun 7 3 ?_|refine sqb 1008 h [0,3,4,5,6,17,18,19,25,26] [505040,1735005,505038,1735055] [] [] 1735006 (fun p x y=>[]) (fun p x y=>[(1735006,.cells p [.d (I x.a0),.d (I x.a1)])]) ?_|refine cp (En hN am) ?_|refine co (ym hN am) ?_|refine cp (lh hN am) ?_|refine dr 0 48 (tkA 6 0 (.alt 6 [4,3,2,1,0] (.alt 7 [3,2,1,0] (tkA 2 8 (.alt 10 [8] .done .nil)) .nil) .nil)) rfl (by kernel_rfl) ?_|refine sq 16 h [0,3,17,18,19] [505040,505038,1735055] [] [] () (fun p x y=>[(73,.d (.bool x))]) (fun p x y=>[]) ?_ ?_|refine co (zz hN am) ?_|(rw[yM]at h;delta w64 at h)|unfold yJ at h|refine Both.mk ?_ ?_|intro _|refine Br.mk (fun _=>?_) fun _=>?_|refine TyG.mk fun _ h=>?_|(refine hs h ?_;intro _ _ h)|fail)
def At  : Int⊕(Int×Int×Int×Int×(List LadderResult)×(List LadderPair)×(List (Int×LadderResult))×(List (Ar2 Int)))→AE→List (Nat×Ob)→Prop
  | .inl r=>fun ae os=>∃y:Unit,True∧ae=.ret (.d (.tup [.nilptr,I r]))∧os=[]
  | .inr r=>fun ae os=>∃y:Nat×Nat×Value,True∧ae=.ret (.tup [.ptr 505040 y.1 0,.d (I r.1)])∧os=[(505040,.cells y.1 (cD r.2.1 r.2.2.1 r.2.2.2.1 r.2.2.2.2.1 r.2.2.2.2.2.1 505038 y.2.1 1735055 y.2.2)),(505038,.map y.2.1 (List.map eMR r.2.2.2.2.2.2.1)),(1735055,.arr y.2.2 162 2 false (List.map eA2 r.2.2.2.2.2.2.2))]
theorem oe{N:Nat}(hN:N≤1073741824){c1:LadderCup}{r:Int⊕(Int×Int×Int×Int×(List LadderResult)×(List LadderPair)×(List (Int×LadderResult))×(List (Ar2 Int)))}(h:ig N c1=some r) :
    ACalls Tryz.prog 100 [.d (.agg [.int .u8 c1.fForm,I c1.fPlayers,I c1.fGames,.list 3 (List.map LadderResult.enc c1.fResults)])] [] (At  r):=by
  refine bt (fresh:=false) al ap ⟨[1],[],[],[],[3,5,11,1008],505000,[]⟩ Tryz.func100 rfl Tryz.call100 rfl ?_
  unfold ig at h
  repeat' ((conv=>whnf)<;>first|refine u (k:=?_)|exact v|refine EU (eK:=(fun x:Int=>I x)) (eV:=(fun x:LadderResult=>.agg [I x.fMatch,.list 1 (List.map I x.fGames),.bool x.fProtested])) (fun _=>rfl) ?_|refine Both.mk ?_ ?_|refine alk (eK:=(fun x:Int=>I x)) (eV:=(fun x:LadderResult=>.agg [I x.fMatch,.list 1 (List.map I x.fGames),.bool x.fProtested])) jg _ ((LadderResult.mk 0 ([]) false)) rfl rfl ‹_› ?_|refine amu (eK:=(fun x:Int=>I x)) (eV:=(fun x:LadderResult=>.agg [I x.fMatch,.list 1 (List.map I x.fGames),.bool x.fProtested])) jg _ _ rfl rfl ?_|refine sq0 3 h [1,5] (fun x=>[(12,.d (.bool x))]) ?_ ?_|refine cp (ss hN am) ?_|refine sq0 5 h [1] (fun x=>[(24,.d (.bool x))]) ?_ ?_|refine cp (mK hN am) ?_|refine cp (rt hN am) ?_|refine dr 0 35 (tkA 2 0 (.alt 2 [0] (.alt 3 [0] (.alt 4 [] (.alt 5 [] (.take 6 .done) .nil) .nil) .nil) (.alt 3 [1,0] (.alt 2 [0] (.alt 4 [] (.alt 5 [] (.take 6 .done) .nil) .nil) .nil) .nil))) rfl (by kernel_rfl) ?_|refine cp (jQ hN am) ?_|apply st 1008 (F:=GR (yC N c1 _)) r [6] [505040] [] [] (_:Nat) (fun p y=>[]) (fun p y=>[(505038,.map p (List.map eMR y.x))]) ?_ ?_|apply lp 9 h [6,42] [505040] [] [] (_:Nat) (fun p y=>[(43,.d (I y.x.1)),(44,.d (I y.x.2.1))]) (fun p y=>[(505038,.map p (List.map eMR y.x.2.2))]) ?_ ?_|refine sq 11 h [6,8,42,43,44] [505040,505008,505038] [] [] () (fun p x y=>[(10,.d (.bool x))]) (fun p x y=>[]) ?_ ?_|refine dr 0 49 (tkA 6 0 (.alt 6 [4,2,1,0] (tkA 3 7 (.alt 10 [9,8,7,4,2,1,0] (.alt 11 [9] (.take 12 .done) .nil) .nil)) (.alt 10 [5,4,3,2,1,0] (.alt 6 [4,2,1,0] (tkA 3 7 (.alt 11 [9] (.take 12 .done) .nil)) .nil) .nil))) rfl (by kernel_rfl) ?_|refine dr 0 59 (tkA 7 0 (.alt 7 [] .done .nil)) rfl (by kernel_rfl) ?_|refine co (iA hN am) ?_|apply st 1008 (F:=GR (yT N c1 _)) r [6] [505040] [] [] (_:Nat) (fun p y=>[]) (fun p y=>[(505038,.map p (List.map eMR y.x))]) ?_ ?_|(rw[dy]at h;delta w64 at h)|unfold yC at h|(rw[yD]at h;delta w64 at h)|unfold yT at h|intro _|refine Br.mk (fun _=>?_) fun _=>?_|refine TyG.mk fun _ h=>?_|(refine hs h ?_;intro _ _ h)|fail)
theorem Ad{N:Nat}(hN:N≤1073741824){c1:Int}{c2:Int}{c3:Int}{c4:List LadderResult}{c5:List LadderPair}{m1:List (Int×LadderResult)}{l1:List (Ar2 Int)}{bo1:Nat}{bo2:Nat}{ho1:Value}{r:Unit}(h:yQ N c1 c2 c3 c4 c5 m1 l1=some r) :
    ACalls Tryz.prog 285 [.ptr 505040 bo1 0] [(505040,.cells bo1 (cD c1 c2 c3 c4 c5 505038 bo2 1735055 ho1)),(505038,.map bo2 (List.map eMR m1)),(1735055,.arr ho1 162 2 false (List.map eA2 l1))] fun ae os=>∃y:Nat,True∧ae=.ret (.fn (.func 299) [] [.ptr 3430001 y 0])∧os=[(505040,.cells bo1 (cD c1 c2 c3 c4 c5 505038 bo2 1735055 ho1)),(505038,.map bo2 (List.map eMR m1)),(1735055,.arr ho1 162 2 false (List.map eA2 l1)),(3430001,.cells y [.ptr 505040 bo1 0])]:=by
  refine aJ (fresh:=false) al ap ⟨[],[],[],[],[],3430000,[]⟩ Tryz.func285 rfl Tryz.call285 rfl ?_
  unfold yQ at h
  repeat' ((conv=>whnf)<;>first|refine u (k:=?_)|exact v|intro _|refine Br.mk (fun _=>?_) fun _=>?_|(refine hs h ?_;intro _ _ h)|fail)
end Go.Proofs.YtdodahpkpeodfaaGreatDoor
