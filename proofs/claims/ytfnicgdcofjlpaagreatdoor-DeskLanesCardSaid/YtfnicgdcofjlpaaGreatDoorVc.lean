/-
  Walks: what the typed functions compute, the program’s functions return.
-/
import Derived.Test.YtfnicgdcofjlpaaGreatDoorWe
import Derived.Test.YtfnicgdcofjlpaaGreatDoorVa
import Derived.Test.YtfnicgdcofjlpaaGreatDoorVb
namespace Go.Proofs.YtfnicgdcofjlpaaGreatDoor
open Go Go.Abs Go.Kp
set_option maxRecDepth 100000
set_option maxHeartbeats 8000000
set_option linter.all false
def Ab (bo1:Nat):(DeskRefusal×DeskWork)⊕DeskWork→AE→List (Nat×Ob)→Prop
  | .inl r=>fun ae os=>∃y:Unit,True∧ae=.pan (.ifc 153 (.agg [I r.1.fE]))∧os=[(255003,.cells bo1 (cW r.2))]
  | .inr r=>fun ae os=>∃y:Unit,True∧ae=.ret (.d (.tup []))∧os=[(255003,.cells bo1 (cW r))]
theorem zt{N:Nat}(hN:N≤1073741824){n1:List Int}{c1:DeskWork}{bo1:Nat}{r:(DeskRefusal×DeskWork)⊕DeskWork}(h:yz N n1 c1=some r) :
    ACalls Tryz.prog 142 [.ptr 255003 bo1 0,.d (.list 1 (List.map I n1))] [(255003,.cells bo1 (cW c1))] (Ab bo1 r):=by
  refine bt (fresh:=false) al ap ⟨[],[],[44,100255003],[],[],260000,[]⟩ Tryz.func142 rfl Tryz.call142 rfl ?_
  unfold yz at h
  obtain⟨x2,hx4,h⟩:=ab h;(conv=>whnf);refine DrawG.mk (.take 0 (.take 1 (.take 2 (.take 3 (.take 4 (.take 5 (.take 6 (.take 7 (.take 8 (.alt 9 [7,6,5,4,3,1,0] (.alt 10 [7,6,5,4,3,1,0] .done .nil) .nil)))))))))) (by kernel_rfl) ?_;(conv=>whnf);refine Side.mk rfl ⟨_,aC hx4,ak _ hx4,?_⟩;refine ws ?_;(conv=>whnf);refine LnA.mk _ (List.length_map _) ?_;refine wb ?_;obtain⟨r3,hx5,h⟩:=ab h;(conv=>whnf);refine CallG.pure _ (fO hN hx5) ?_;refine ws ?_;(iterate 5 refine wl ?_);(conv=>whnf);refine Side.mk rfl ⟨_,aC hx4,ak _ hx4,?_⟩;(iterate 2 refine wl ?_);refine wb ?_;obtain⟨z2,hx6,h⟩:=ab h;rcases z2 with r4 | _
  ·(conv=>whnf);refine CallG.panic (aI hN hx6) id [(255003,.cells bo1 (cW c1))] (fun y=>[(255003,.cells bo1 (cW c1))]) (ac _) trivial rfl trivial (ai trivial) (fun _=>rfl) ?_;rintro _ _
   (conv=>whnf);refine Side.mk (by kernel_rfl) ?_;(conv=>whnf);cases h;exact⟨_,⟨(),trivial,rfl,rfl⟩,aA (ren:=id) (ai trivial)⟩
  ·(conv=>whnf)
   refine CallG.own (aI hN hx6) id [(255003,.cells bo1 (cW c1))] _ (fun y=>[(255003,.cells bo1 (cW c1))]) (ac _) trivial rfl trivial (ai trivial) (fun _=>AV.le_refl _) (fun _=>rfl) ?_;rintro _ _
   refine ws ?_;(iterate 5 refine wl ?_);(conv=>whnf);refine Side.mk rfl ⟨_,aC hx4,ak _ hx4,?_⟩;(iterate 2 refine wl ?_);(conv=>whnf);refine DrawG.mk (.take 0 (.take 1 (.take 2 (.take 3 (.take 4 (.take 5 (.take 6 (.take 7 (.alt 8 [6,5,3,2,1,0] (.take 9 (.take 10 (.take 11 (.take 12 (.take 13 .done))))) .nil))))))))) (by kernel_rfl) ?_;refine ws ?_;(conv=>whnf);refine Side.mk rfl ⟨_,aC hx4,ak _ hx4,?_⟩;refine wb ?_;obtain⟨⟨ra2,rb2⟩,hx8,h⟩:=ab h;(conv=>whnf);refine CallG.pure _ (zC hN hx8) ?_;(conv=>whnf);refine Side.mk rfl ⟨_,aC hx4,ak _ hx4,?_⟩;(iterate 3 refine wl ?_);(conv=>whnf)
   refine nl ?_;(iterate 2 refine wl ?_);obtain⟨z4,hx10,h⟩:=ab h;rcases z4 with r6 | _
   ·(conv=>whnf);refine CallG.panic (aI hN hx10) id [(255003,.cells bo1 (cW c1))] (fun y=>[(255003,.cells bo1 (cW c1))]) (ac _) trivial rfl trivial (ai trivial) (fun _=>rfl) ?_;rintro _ _
    (conv=>whnf);cases h;exact⟨_,⟨(),trivial,rfl,rfl⟩,aA (ren:=id) (ai trivial)⟩
   ·(conv=>whnf)
    refine CallG.own (aI hN hx10) id [(255003,.cells bo1 (cW c1))] _ (fun y=>[(255003,.cells bo1 (cW c1))]) (ac _) trivial rfl trivial (ai trivial) (fun _=>AV.le_refl _) (fun _=>rfl) ?_
    rintro _ _;obtain⟨r7,hx11,h⟩:=ab h;(conv=>whnf);refine DrawG.mk (.take 0 (.take 1 (.take 2 (.take 3 (.take 4 (.take 5 (.take 7 (.take 8 (.take 9 (.take 10 (.alt 6 [10,9,8,7,4,3,2,1,0] (.alt 11 [9,8,7,4,3,2,1,0] (.alt 12 [9,8,4,3,2,1,0] (.take 13 (.take 14 (.take 15 (.alt 16 [14,13] .done .nil)))) .nil) .nil) (.alt 11 [9,8,7,5,4,3,2,1,0] (.alt 6 [9,8,7,4,3,2,1,0] (.alt 12 [9,8,4,3,2,1,0] (.take 13 (.take 14 (.take 15 (.alt 16 [14,13] .done .nil)))) .nil) .nil) .nil)))))))))))) (by kernel_rfl) ?_;refine ws ?_;(conv=>whnf);refine Side.mk rfl ⟨_,aC hx4,ak _ hx4,?_⟩;(conv=>whnf);refine Both.mk ?_ ?_
    ·(conv=>whnf);refine CallG.fresh 260038 (bB hN hx11) ?_;intro hd3;refine wl ?_;(conv=>whnf);refine Side.mk rfl ⟨_,aC hx4,ak _ hx4,?_⟩;(iterate 8 refine wl ?_);refine wb ?_;(conv=>whnf);intro hd4;(conv=>whnf);refine Side.mk rfl ⟨_,aC hx4,ak _ hx4,?_⟩;(iterate 8 refine wl ?_);refine wb ?_;obtain⟨r8,hx12,h⟩:=ab h;(conv=>whnf)
     refine CallG.own (Cc (k:=260038) (k2:=260043) (ho:=hd3) (ho2:=hd4) hN hx12) id [(255003,.cells bo1 (cW c1))] _ (fun y=>[(260038,.arr y 3 1 false (List.map I r8)),(260043,.arr hd4 3 1 false (List.map I ([x2]))),(255003,.cells bo1 (cW c1))]) (ac _) (ai (ai trivial)) rfl (ai (ai trivial)) (ai trivial) (fun _=>AV.le_refl _) (fun _=>rfl) ?_
     rintro hd5 _;(conv=>whnf);refine Side.mk rfl ⟨_,aC hx4,ak _ hx4,?_⟩;(iterate 7 refine wl ?_);refine wb ?_;refine ws ?_;(iterate 2 refine wl ?_);(iterate 2 refine ws ?_);(conv=>whnf);cases h;exact⟨_,⟨(),trivial,rfl,rfl⟩,aA (ren:=id) (ai trivial)⟩
    ·refine wb ?_;(conv=>whnf);intro hd6;(conv=>whnf);refine Side.mk rfl ⟨_,aC hx4,ak _ hx4,?_⟩;(iterate 3 refine wl ?_);refine ws ?_;(iterate 6 refine wl ?_);refine wb ?_;(conv=>whnf);refine CallG.fresh 260038 (bB hN hx11) ?_;intro hd7;(conv=>whnf);refine Side.mk rfl ⟨_,aC hx4,ak _ hx4,?_⟩;(iterate 8 refine wl ?_);refine wb ?_;obtain⟨r9,hx13,h⟩:=ab h;(conv=>whnf)
     refine CallG.own (Cc (k:=260038) (k2:=260043) (ho:=hd7) (ho2:=hd6) hN hx13) id [(255003,.cells bo1 (cW c1))] _ (fun y=>[(260038,.arr y 3 1 false (List.map I r9)),(260043,.arr hd6 3 1 false (List.map I ([x2]))),(255003,.cells bo1 (cW c1))]) (ac _) (ai (ai trivial)) rfl (ai (ai trivial)) (ai trivial) (fun _=>AV.le_refl _) (fun _=>rfl) ?_
     rintro hd8 _;(conv=>whnf);refine Side.mk rfl ⟨_,aC hx4,ak _ hx4,?_⟩;(iterate 7 refine wl ?_);refine wb ?_;refine ws ?_;(iterate 2 refine wl ?_);(iterate 2 refine ws ?_);(conv=>whnf);cases h;exact⟨_,⟨(),trivial,rfl,rfl⟩,aA (ren:=id) (ai trivial)⟩
theorem qh{N:Nat}(hN:N≤1073741824){c1:DeskWork}{bo1:Nat}{r:LadderCup}(h:jB N c1=some r) :
    ACalls Tryz.prog 38 [.ptr 255003 bo1 0] [(255003,.cells bo1 (cW c1))] fun ae os=>∃y:Unit,True∧ae=.ret (.d (.agg [.int .u8 r.fForm,I r.fPlayers,I r.fGames,.list 3 (List.map LadderResult.enc r.fResults)]))∧os=[(255003,.cells bo1 (cW c1))]:=by
  refine aJ (fresh:=false) al ap ⟨[],[],[],[],[],260000,[]⟩ Tryz.func38 rfl Tryz.call38 rfl ?_
  unfold jB at h
  (conv=>whnf);intro b2;(conv=>whnf);refine DrawG.mk (.take 0 (.take 1 (.take 2 (.take 3 (.take 4 (.take 5 (.take 6 (.take 7 (.take 8 (.take 9 (.take 10 (.alt 11 [9,8,7,6,4,3,2,1,0] (.alt 12 [] .done .nil) .nil)))))))))))) (by kernel_rfl) ?_;refine ws ?_;(conv=>whnf);refine LnA.mk _ (List.length_map _) ?_;refine ws ?_;refine wb ?_;(iterate 4 refine wl ?_);refine ws ?_;(iterate 5 refine wl ?_);refine wb ?_;(iterate 2 refine ws ?_);(conv=>whnf);cases h;exact⟨(),trivial,rfl,aA (ren:=id) (ai trivial)⟩
theorem mJ{N:Nat}(hN:N≤1073741824){r1:LadderResult}{r:Bool}(h:gI N r1=some r) :
    ACalls Tryz.prog 86 [.d (.agg [I r1.fMatch,.list 1 (List.map I r1.fGames),.bool r1.fProtested])] [] fun e os=>e=.ret (.d (.bool r))∧os=[]:=by
  refine ah (fresh:=false) al ap ⟨[1],[],[],[],[],0,[]⟩ Tryz.func86 rfl Tryz.call86 rfl ?_
  unfold gI at h
  (conv=>whnf);refine LnA.mk _ (List.length_map _) ?_;(conv=>whnf);cases h;exact rfl
theorem rq{N:Nat}(hN:N≤1073741824){x1:LadderResult}{r:Bool}(h:kD N x1=some r) :
    ACalls Tryz.prog 126 [.d (.agg [I x1.fMatch,.list 1 (List.map I x1.fGames),.bool x1.fProtested]),.d (.ref (.agg [.fn (.func 86) [] []]))] [] fun e os=>e=.ret (.d (.bool r))∧os=[]:=by
  refine ah (fresh:=false) al ap ⟨[2],[],[],[],[],0,[]⟩ Tryz.func126 rfl Tryz.call126 rfl ?_
  unfold kD at h
  obtain⟨r2,hx2,h⟩:=ab h;(conv=>whnf);refine CallG.pure _ (mJ hN hx2) ?_;(conv=>whnf);cases h;exact rfl
theorem kF{N:Nat}(hN:N≤1073741824){s1:List LadderResult}{r:Int}(h:eG N s1=some r) :
    ACalls Tryz.prog 162 [.d (.list 3 (List.map LadderResult.enc s1)),.d (.fn (.func 126) [] [.ref (.agg [.fn (.func 86) [] []])])] [] fun e os=>e=.ret (.d (I r))∧os=[]:=by
  refine ah (fresh:=false) al ap ⟨[],[],[],[],[1001],0,[]⟩ Tryz.func162 rfl Tryz.call162 rfl ?_
  unfold eG at h
  (conv=>whnf);refine SeqG.mk Unit (fun y=>[]) (fun y=>[]) (fun y=>dh N=some r) ?_ ?_
  ·(conv=>whnf);refine LnA.mk _ (List.length_map _) ?_;(conv=>whnf);refine LoopG.mk (Nat×(Int×Int)) (fun y=>[(0,.d (.list 3 (List.map LadderResult.enc s1))),(1,.d (.fn (.func 126) [] [.ref (.agg [.fn (.func 86) [] []])])),(7,.d (I y.2.1)),(8,.d (I y.2.2))]) (fun y=>[]) (fun y=>aj (fun rr x=>bD N s1 rr x.1 x.2) y.1 y.2=some r) (fun y=>y.1) (N,((s1.length:Int),0)) h (Sub.eq rfl ?_ ?_) ?_
   ·(repeat ((conv=>whnf);refine nr ?_));exact trivial
   ·exact trivial
   ·rintro⟨n2,⟨v17,v18⟩⟩ hl2;obtain⟨n2,rfl,hl2⟩:=ar hl2;replace hl2:bD N s1 (aj (fun rr x=>bD N s1 rr x.1 x.2) n2) v17 v18=some r:=hl2;rw[bD]at hl2;refine wB (fun hc22=>?_) (fun hc22=>?_)
    ·replace hl2:=af hc22 hl2;obtain⟨x24,hx47,hl2⟩:=ab hl2;(conv=>whnf);refine Side.mk rfl ⟨_,aC hx47,ak _ hx47,?_⟩;obtain⟨r24,hx48,hl2⟩:=ab hl2;(conv=>whnf);refine CallG.pure _ (rq hN hx48) ?_;refine wB (fun hc24=>?_) (fun hc24=>?_)
     ·replace hl2:=af hc24 hl2;(conv=>whnf);cases hl2;exact rfl
     ·replace hl2:=ag hc24 hl2;(conv=>whnf);exact⟨(n2,(v17,w64 (v18+1))),hl2,kW,Nat.lt_succ_self _⟩
    ·replace hl2:=ag hc22 hl2;(conv=>whnf);exact⟨(),hl2,kW⟩
  ·clear h;rintro _ h;unfold dh at h;(conv=>whnf);cases h;exact rfl
theorem jp{N:Nat}(hN:N≤1073741824){s1:List LadderResult}{r:Bool}(h:dk N s1=some r) :
    ACalls Tryz.prog 125 [.d (.list 3 (List.map LadderResult.enc s1)),.d (.fn (.func 126) [] [.ref (.agg [.fn (.func 86) [] []])])] [] fun e os=>e=.ret (.d (.bool r))∧os=[]:=by
  refine ah (fresh:=false) al ap ⟨[],[],[],[],[],0,[]⟩ Tryz.func125 rfl Tryz.call125 rfl ?_
  unfold dk at h
  obtain⟨r2,hx2,h⟩:=ab h;(conv=>whnf);refine CallG.pure _ (kF hN hx2) ?_;(conv=>whnf);cases h;exact rfl
theorem ss{N:Nat}(hN:N≤1073741824){l1:List LadderResult}{r:Bool}(h:lM N l1=some r) :
    ACalls Tryz.prog 89 [.d (.list 3 (List.map LadderResult.enc l1)),.d (.fn (.func 86) [] [])] [] fun e os=>e=.ret (.d (.bool r))∧os=[]:=by
  refine ah (fresh:=false) al ap ⟨[3],[],[],[],[],0,[]⟩ Tryz.func89 rfl Tryz.call89 rfl ?_
  unfold lM at h
  obtain⟨r2,hx2,h⟩:=ab h;(conv=>whnf);refine CallG.pure _ (jp hN hx2) ?_;(conv=>whnf);cases h;exact rfl
theorem im{N:Nat}(hN:N≤1073741824){n1:Int}{low1:Int}{high1:Int}{r:Bool}(h:eH N n1 low1 high1=some r) :
    ACalls Tryz.prog 88 [.d (I n1),.d (I low1),.d (I high1)] [] fun e os=>e=.ret (.d (.bool r))∧os=[]:=by
  refine ah (fresh:=false) al ap ⟨[],[],[],[],[1],0,[]⟩ Tryz.func88 rfl Tryz.call88 rfl ?_
  unfold eH at h
  obtain⟨v2,hx1,h⟩:=ab h;(conv=>whnf);refine SeqG.mk Unit (fun y=>[(6,.d (.bool v2))]) (fun y=>[]) (fun _=>True) ?_ ?_
  ·refine wB (fun hc2=>?_) (fun hc2=>?_)
   ·replace hx1:=af hc2 hx1;cases hx1;(conv=>whnf);exact⟨(),trivial,kW⟩
   ·replace hx1:=ag hc2 hx1;cases hx1;(conv=>whnf);exact⟨(),trivial,kW⟩
  ·rintro _ _;(conv=>whnf);cases h;exact rfl
theorem mK{N:Nat}(hN:N≤1073741824){c1:LadderCup}{r:Int}(h:gJ N c1=some r) :
    ACalls Tryz.prog 90 [.d (.agg [.int .u8 c1.fForm,I c1.fPlayers,I c1.fGames,.list 3 (List.map LadderResult.enc c1.fResults)])] [] fun e os=>e=.ret (.d (I r))∧os=[]:=by
  refine ah (fresh:=false) al ap ⟨[1],[],[],[],[1],0,[]⟩ Tryz.func90 rfl Tryz.call90 rfl ?_
  unfold gJ at h
  obtain⟨v4,hx8,h⟩:=ab h;(conv=>whnf);refine SeqG.mk Unit (fun y=>[(23,.d (.bool v4))]) (fun y=>[]) (fun _=>True) ?_ ?_
  ·refine wB (fun hc11=>?_) (fun hc11=>?_)
   ·replace hx8:=ag hc11 hx8;obtain⟨r7,hx9,hx8⟩:=ab hx8;(conv=>whnf);refine CallG.pure _ (im hN hx9) ?_;refine wB (fun hc12=>?_) (fun hc12=>?_)
    ·replace hx8:=ag hc12 hx8;obtain⟨r8,hx10,hx8⟩:=ab hx8;(conv=>whnf);refine CallG.pure _ (im hN hx10) ?_;refine wB (fun hc13=>?_) (fun hc13=>?_)
     ·replace hx8:=ag hc13 hx8;(conv=>whnf);refine Need.mk (by decide) ?_;cases hx8;(conv=>whnf);exact⟨(),trivial,kW⟩
     ·replace hx8:=af hc13 hx8;cases hx8;(conv=>whnf);exact⟨(),trivial,kW⟩
    ·replace hx8:=af hc12 hx8;cases hx8;(conv=>whnf);exact⟨(),trivial,kW⟩
   ·replace hx8:=af hc11 hx8;cases hx8;(conv=>whnf);exact⟨(),trivial,kW⟩
  ·rintro _ _;refine wB (fun hc14=>?_) (fun hc14=>?_)
   ·replace h:=af hc14 h;(conv=>whnf);cases h;exact rfl
   ·replace h:=ag hc14 h;(conv=>whnf);cases h;exact rfl
theorem mL{N:Nat}(hN:N≤1073741824){r1:LadderResult}{a1:LadderCup}{r:Bool}(h:gK N r1 a1=some r) :
    ACalls Tryz.prog 87 [.d (.agg [I r1.fMatch,.list 1 (List.map I r1.fGames),.bool r1.fProtested]),.d (.ref (.agg [.int .u8 a1.fForm,I a1.fPlayers,I a1.fGames,.list 3 (List.map LadderResult.enc a1.fResults)]))] [] fun e os=>e=.ret (.d (.bool r))∧os=[]:=by
  refine ah (fresh:=false) al ap ⟨[2],[],[],[],[1],0,[]⟩ Tryz.func87 rfl Tryz.call87 rfl ?_
  unfold gK at h
  obtain⟨v2,hx2,h⟩:=ab h;(conv=>whnf);refine SeqG.mk Unit (fun y=>[(3,.d (.bool v2))]) (fun y=>[]) (fun _=>True) ?_ ?_
  ·obtain⟨r3,hx3,hx2⟩:=ab hx2;(conv=>whnf);refine CallG.pure _ (im hN hx3) ?_;refine wB (fun hc2=>?_) (fun hc2=>?_)
   ·replace hx2:=af hc2 hx2;(conv=>whnf);refine LnA.mk _ (List.length_map _) ?_;cases hx2;(conv=>whnf);exact⟨(),trivial,kW⟩
   ·replace hx2:=ag hc2 hx2;cases hx2;(conv=>whnf);exact⟨(),trivial,kW⟩
  ·rintro _ _;(conv=>whnf);cases h;exact rfl
theorem qi{N:Nat}(hN:N≤1073741824){x1:LadderResult}{a1:LadderCup}{r:Bool}(h:jC N x1 a1=some r) :
    ACalls Tryz.prog 126 [.d (.agg [I x1.fMatch,.list 1 (List.map I x1.fGames),.bool x1.fProtested]),.d (.ref (.agg [.fn (.func 87) [] [.ref (.agg [.int .u8 a1.fForm,I a1.fPlayers,I a1.fGames,.list 3 (List.map LadderResult.enc a1.fResults)])]]))] [] fun e os=>e=.ret (.d (.bool r))∧os=[]:=by
  refine ah (fresh:=false) al ap ⟨[2],[],[],[],[],0,[]⟩ Tryz.func126 rfl Tryz.call126 rfl ?_
  unfold jC at h
  obtain⟨r2,hx2,h⟩:=ab h;(conv=>whnf);refine CallG.pure _ (mL hN hx2) ?_;(conv=>whnf);cases h;exact rfl
theorem j6{N:Nat}(hN:N≤1073741824){s1:List LadderResult}{f1:LadderCup}{r:Int}(h:d4 N s1 f1=some r) :
    ACalls Tryz.prog 162 [.d (.list 3 (List.map LadderResult.enc s1)),.d (.fn (.func 126) [] [.ref (.agg [.fn (.func 87) [] [.ref (.agg [.int .u8 f1.fForm,I f1.fPlayers,I f1.fGames,.list 3 (List.map LadderResult.enc f1.fResults)])]])])] [] fun e os=>e=.ret (.d (I r))∧os=[]:=by
  refine ah (fresh:=false) al ap ⟨[],[],[],[],[1001],0,[]⟩ Tryz.func162 rfl Tryz.call162 rfl ?_
  unfold d4 at h
  (conv=>whnf);refine SeqG.mk Unit (fun y=>[]) (fun y=>[]) (fun y=>yx N=some r) ?_ ?_
  ·(conv=>whnf);refine LnA.mk _ (List.length_map _) ?_;(conv=>whnf);refine LoopG.mk (Nat×(Int×Int)) (fun y=>[(0,.d (.list 3 (List.map LadderResult.enc s1))),(1,.d (.fn (.func 126) [] [.ref (.agg [.fn (.func 87) [] [.ref (.agg [.int .u8 f1.fForm,I f1.fPlayers,I f1.fGames,.list 3 (List.map LadderResult.enc f1.fResults)])]])])),(7,.d (I y.2.1)),(8,.d (I y.2.2))]) (fun y=>[]) (fun y=>aj (fun rr x=>xW N s1 f1 rr x.1 x.2) y.1 y.2=some r) (fun y=>y.1) (N,((s1.length:Int),0)) h (Sub.eq rfl ?_ ?_) ?_
   ·(repeat ((conv=>whnf);refine nr ?_));exact trivial
   ·exact trivial
   ·rintro⟨n2,⟨v17,v18⟩⟩ hl2;obtain⟨n2,rfl,hl2⟩:=ar hl2;replace hl2:xW N s1 f1 (aj (fun rr x=>xW N s1 f1 rr x.1 x.2) n2) v17 v18=some r:=hl2;rw[xW]at hl2;refine wB (fun hc22=>?_) (fun hc22=>?_)
    ·replace hl2:=af hc22 hl2;obtain⟨x24,hx47,hl2⟩:=ab hl2;(conv=>whnf);refine Side.mk rfl ⟨_,aC hx47,ak _ hx47,?_⟩;obtain⟨r24,hx48,hl2⟩:=ab hl2;(conv=>whnf);refine CallG.pure _ (qi hN hx48) ?_;refine wB (fun hc24=>?_) (fun hc24=>?_)
     ·replace hl2:=af hc24 hl2;(conv=>whnf);cases hl2;exact rfl
     ·replace hl2:=ag hc24 hl2;(conv=>whnf);exact⟨(n2,(v17,w64 (v18+1))),hl2,kW,Nat.lt_succ_self _⟩
    ·replace hl2:=ag hc22 hl2;(conv=>whnf);exact⟨(),hl2,kW⟩
  ·clear h;rintro _ h;unfold yx at h;(conv=>whnf);cases h;exact rfl
theorem jb{N:Nat}(hN:N≤1073741824){s1:List LadderResult}{f1:LadderCup}{r:Bool}(h:cU N s1 f1=some r) :
    ACalls Tryz.prog 125 [.d (.list 3 (List.map LadderResult.enc s1)),.d (.fn (.func 126) [] [.ref (.agg [.fn (.func 87) [] [.ref (.agg [.int .u8 f1.fForm,I f1.fPlayers,I f1.fGames,.list 3 (List.map LadderResult.enc f1.fResults)])]])])] [] fun e os=>e=.ret (.d (.bool r))∧os=[]:=by
  refine ah (fresh:=false) al ap ⟨[],[],[],[],[],0,[]⟩ Tryz.func125 rfl Tryz.call125 rfl ?_
  unfold cU at h
  obtain⟨r2,hx2,h⟩:=ab h;(conv=>whnf);refine CallG.pure _ (j6 hN hx2) ?_;(conv=>whnf);cases h;exact rfl
theorem rt{N:Nat}(hN:N≤1073741824){l1:List LadderResult}{right1:LadderCup}{r:Bool}(h:kE N l1 right1=some r) :
    ACalls Tryz.prog 89 [.d (.list 3 (List.map LadderResult.enc l1)),.d (.fn (.func 87) [] [.ref (.agg [.int .u8 right1.fForm,I right1.fPlayers,I right1.fGames,.list 3 (List.map LadderResult.enc right1.fResults)])])] [] fun e os=>e=.ret (.d (.bool r))∧os=[]:=by
  refine ah (fresh:=false) al ap ⟨[3],[],[],[],[],0,[]⟩ Tryz.func89 rfl Tryz.call89 rfl ?_
  unfold kE at h
  obtain⟨r2,hx2,h⟩:=ab h;(conv=>whnf);refine CallG.pure _ (jb hN hx2) ?_;(conv=>whnf);cases h;exact rfl
theorem kf{N:Nat}(hN:N≤1073741824){n1:Int}{r:LadderSide}(h:gi N n1=some r) :
    ACalls Tryz.prog 163 [.d (I n1)] [] fun e os=>e=.ret (.d (.agg [I r.fPlayer,I r.fMatch]))∧os=[]:=by
  refine ah (fresh:=false) al ap ⟨[],[],[],[],[],0,[]⟩ Tryz.func163 rfl Tryz.call163 rfl ?_
  unfold gi at h
  (conv=>whnf);intro b2;(iterate 2 refine ws ?_);(conv=>whnf);cases h;exact rfl
theorem Ax{N:Nat}(hN:N≤1073741824){n1:Int}{r:LadderSide}(h:y8 N n1=some r) :
    ACalls Tryz.prog 164 [.d (I n1)] [] fun e os=>e=.ret (.d (.agg [I r.fPlayer,I r.fMatch]))∧os=[]:=by
  refine ah (fresh:=false) al ap ⟨[],[],[],[],[],0,[]⟩ Tryz.func164 rfl Tryz.call164 rfl ?_
  unfold y8 at h
  (conv=>whnf);intro b2;(iterate 2 refine ws ?_);(conv=>whnf);cases h;exact rfl
theorem l0{N:Nat}(hN:N≤1073741824){c1:LadderCup}{r:(List LadderPair)}(h:fX N c1=some r) :
    ACalls Tryz.prog 127 [.d (.agg [.int .u8 c1.fForm,I c1.fPlayers,I c1.fGames,.list 3 (List.map LadderResult.enc c1.fResults)])] [] fun e os=>e=.ret (.d (.list 4 (List.map LadderPair.enc r)))∧os=[]:=by
  refine ah (fresh:=false) al ap ⟨[1],[],[],[],[1003],0,[]⟩ Tryz.func127 rfl Tryz.call127 rfl ?_
  unfold fX at h
  obtain⟨r3,hx3,h⟩:=ab h;(conv=>whnf);refine CallG.pure _ (kf hN hx3) ?_;obtain⟨r4,hx4,h⟩:=ab h;(conv=>whnf);refine CallG.pure _ (kf hN hx4) ?_;(conv=>whnf);intro hd2;obtain⟨l12,hx23,h⟩:=ab h;(conv=>whnf);refine SeqG.mk Value (fun y=>[(4,.sl 15 y)]) (fun y=>[(15,.arr y 221 4 false (List.map LadderPair.enc l12))]) (fun _=>True) ?_ ?_
  ·(conv=>whnf);refine LoopG.mk (Nat×(Int×Int×(List LadderPair))×Value) (fun y=>[(3,.d (I y.2.1.1)),(4,.sl 15 y.2.2),(5,.d (I y.2.1.2.1))]) (fun y=>[(15,.arr y.2.2 221 4 false (List.map LadderPair.enc y.2.1.2.2))]) (fun y=>aj (fun rr x=>bV N rr x.1 x.2.1 x.2.2) y.1 y.2.1=some l12) (fun y=>y.1) (N,(w64 (c1.fPlayers-1),1,[(LadderPair.mk r3 r4)]),hd2) hx23 (Sub.eq rfl ?_ ?_) ?_
   ·(repeat ((conv=>whnf);refine nr ?_));exact trivial
   ·(conv=>whnf);refine no ?_;exact trivial
   ·rintro⟨n10,⟨last10,n9,l21⟩,hd31⟩ hl2;obtain⟨n10,rfl,hl2⟩:=ar hl2;replace hl2:bV N (aj (fun rr x=>bV N rr x.1 x.2.1 x.2.2) n10) last10 n9 l21=some l12:=hl2;rw[bV]at hl2;refine wB (fun hc12=>?_) (fun hc12=>?_)
    ·replace hl2:=af hc12 hl2;obtain⟨r27,hx39,hl2⟩:=ab hl2;(conv=>whnf);refine CallG.pure _ (kf hN hx39) ?_;obtain⟨r28,hx40,hl2⟩:=ab hl2;(conv=>whnf);refine CallG.pure _ (Ax hN hx40) ?_;(conv=>whnf);intro hd34;obtain⟨l23,hx41,hl2⟩:=ab hl2;(conv=>whnf);refine Side.mk ⟨rfl,rfl⟩ ?_;(conv=>whnf);refine Side.mk ⟨rfl,rfl,rfl⟩ (Need.mk (aD hN hx41 (by decide)) (Eqv.mk (List.map LadderPair.enc l23) (aH _ hx41) ?_));(conv=>whnf);intro hd35;(conv=>whnf);refine⟨(n10,(last10,w64 (n9+1),l23),hd35),hl2,Sub.eq rfl ?_ ?_,Nat.lt_succ_self _⟩
     ·(repeat ((conv=>whnf);refine nr ?_));exact trivial
     ·(conv=>whnf);refine no ?_;exact trivial
    ·replace hl2:=ag hc12 hl2;cases hl2;(conv=>whnf);refine⟨hd31,trivial,Sub.eq rfl ?_ ?_⟩
     ·(repeat ((conv=>whnf);refine nr ?_));exact trivial
     ·(conv=>whnf);refine no ?_;exact trivial
  ·rintro hd19 _;refine ws ?_;(conv=>whnf);cases h;exact rfl
theorem jQ{N:Nat}(hN:N≤1073741824){c1:LadderCup}{r:(List LadderPair)}(h:ie N c1=some r) :
    ACalls Tryz.prog 91 [.d (.agg [.int .u8 c1.fForm,I c1.fPlayers,I c1.fGames,.list 3 (List.map LadderResult.enc c1.fResults)])] [] fun e os=>e=.ret (.d (.list 4 (List.map LadderPair.enc r)))∧os=[]:=by
  refine ah (fresh:=false) al ap ⟨[1],[],[],[],[],0,[]⟩ Tryz.func91 rfl Tryz.call91 rfl ?_
  unfold ie at h
  refine wB (fun hc2=>?_) (fun hc2=>?_)
  ·replace h:=af hc2 h;obtain⟨r4,hx4,h⟩:=ab h;(conv=>whnf);refine CallG.pure _ (l0 hN hx4) ?_;(conv=>whnf);cases h;exact rfl
  ·replace h:=ag hc2 h;cases h
theorem qj{N:Nat}(hN:N≤1073741824) {r:Unit}(h:jD N=some r) :
    ACalls Tryz.prog 130 [] [] fun e os=>e=.ret (.d (.agg [.fn (.func 168) [] [],.fn (.func 169) [] []]))∧os=[]:=by
  refine ah (fresh:=false) al ap ⟨[],[],[],[],[],0,[]⟩ Tryz.func130 rfl Tryz.call130 rfl ?_
  unfold jD at h
  (conv=>whnf);intro b2;(iterate 2 refine ws ?_);(conv=>whnf)
  all_goals cases h
  all_goals exact rfl
theorem l7{N:Nat}(hN:N≤1073741824){p1:LadderPair}{r:LadderSide}(h:fY N p1=some r) :
    ACalls Tryz.prog 168 [.d (.agg [I p1.fFirst.fPlayer,I p1.fFirst.fMatch,I p1.fSecond.fPlayer,I p1.fSecond.fMatch])] [] fun e os=>e=.ret (.d (.agg [I r.fPlayer,I r.fMatch]))∧os=[]:=by
  refine ah (fresh:=false) al ap ⟨[1],[],[],[],[],0,[]⟩ Tryz.func168 rfl Tryz.call168 rfl ?_
  unfold fY at h
  (conv=>whnf);intro b2;(iterate 2 refine ws ?_);(conv=>whnf);cases h;exact rfl
theorem je{N:Nat}(hN:N≤1073741824){l1:List Int}{r:Int}(h:gq N l1=some r) :
    ACalls Tryz.prog 134 [.d (.list 1 (List.map I l1))] [] fun e os=>e=.ret (.d (I r))∧os=[]:=by
  refine ah (fresh:=false) al ap ⟨[],[],[],[],[1001],0,[]⟩ Tryz.func134 rfl Tryz.call134 rfl ?_
  unfold gq at h
  obtain⟨n6,hx13,h⟩:=ab h;(conv=>whnf);refine SeqG.mk Unit (fun y=>[(2,.d (I n6))]) (fun y=>[]) (fun _=>True) ?_ ?_
  ·(conv=>whnf);refine LnA.mk _ (List.length_map _) ?_;(conv=>whnf);refine LoopG.mk (Nat×(Int×Int×Int)) (fun y=>[(2,.d (I y.2.1)),(5,.d (.list 1 (List.map I l1))),(6,.d (I y.2.2.1)),(7,.d (I y.2.2.2))]) (fun y=>[]) (fun y=>aj (fun rr x=>eJ N l1 rr x.1 x.2.1 x.2.2) y.1 y.2=some n6) (fun y=>y.1) (N,(0,(l1.length:Int),0)) hx13 (Sub.eq rfl ?_ ?_) ?_
   ·(repeat ((conv=>whnf);refine nr ?_));exact trivial
   ·exact trivial
   ·rintro⟨n11,⟨n10,v17,v18⟩⟩ hl2;obtain⟨n11,rfl,hl2⟩:=ar hl2;replace hl2:eJ N l1 (aj (fun rr x=>eJ N l1 rr x.1 x.2.1 x.2.2) n11) n10 v17 v18=some n6:=hl2;rw[eJ]at hl2;refine wB (fun hc12=>?_) (fun hc12=>?_)
    ·replace hl2:=af hc12 hl2;obtain⟨x24,hx25,hl2⟩:=ab hl2;(conv=>whnf);refine Side.mk rfl ⟨_,aC hx25,ak _ hx25,?_⟩;(conv=>whnf);exact⟨(n11,(w64 (n10+x24),v17,w64 (v18+1))),hl2,kW,Nat.lt_succ_self _⟩
    ·replace hl2:=ag hc12 hl2;cases hl2;(conv=>whnf);exact⟨(),trivial,kW⟩
  ·rintro _ _;(conv=>whnf);cases h;exact rfl
theorem lh{N:Nat}(hN:N≤1073741824){p1:LadderPair}{r:LadderSide}(h:e8 N p1=some r) :
    ACalls Tryz.prog 169 [.d (.agg [I p1.fFirst.fPlayer,I p1.fFirst.fMatch,I p1.fSecond.fPlayer,I p1.fSecond.fMatch])] [] fun e os=>e=.ret (.d (.agg [I r.fPlayer,I r.fMatch]))∧os=[]:=by
  refine ah (fresh:=false) al ap ⟨[1],[],[],[],[],0,[]⟩ Tryz.func169 rfl Tryz.call169 rfl ?_
  unfold e8 at h
  (conv=>whnf);intro b2;(iterate 2 refine ws ?_);(conv=>whnf);cases h;exact rfl
theorem AX{N:Nat}(hN:N≤1073741824){s1:List Int}{v1:Int}{r:Int}(h:zx N s1 v1=some r) :
    ACalls Tryz.prog 113 [.d (.list 1 (List.map I s1)),.d (I v1)] [] fun e os=>e=.ret (.d (I r))∧os=[]:=by
  refine ah (fresh:=false) al ap ⟨[],[],[],[],[1001],0,[]⟩ Tryz.func113 rfl Tryz.call113 rfl ?_
  unfold zx at h
  (conv=>whnf);refine SeqG.mk Unit (fun y=>[]) (fun y=>[]) (fun y=>zf N=some r) ?_ ?_
  ·(conv=>whnf);refine LnA.mk _ (List.length_map _) ?_;(conv=>whnf);refine LoopG.mk (Nat×(Int×Int)) (fun y=>[(0,.d (.list 1 (List.map I s1))),(1,.d (I v1)),(7,.d (I y.2.1)),(8,.d (I y.2.2))]) (fun y=>[]) (fun y=>aj (fun rr x=>yA N s1 v1 rr x.1 x.2) y.1 y.2=some r) (fun y=>y.1) (N,((s1.length:Int),0)) h (Sub.eq rfl ?_ ?_) ?_
   ·(repeat ((conv=>whnf);refine nr ?_));exact trivial
   ·exact trivial
   ·rintro⟨n2,⟨v18,v19⟩⟩ hl2;obtain⟨n2,rfl,hl2⟩:=ar hl2;replace hl2:yA N s1 v1 (aj (fun rr x=>yA N s1 v1 rr x.1 x.2) n2) v18 v19=some r:=hl2;rw[yA]at hl2;refine wB (fun hc22=>?_) (fun hc22=>?_)
    ·replace hl2:=af hc22 hl2;obtain⟨x24,hx24,hl2⟩:=ab hl2;(conv=>whnf);refine Side.mk rfl ⟨_,aC hx24,ak _ hx24,?_⟩;refine wB (fun hc24=>?_) (fun hc24=>?_)
     ·replace hl2:=af hc24 hl2;(conv=>whnf);cases hl2;exact rfl
     ·replace hl2:=ag hc24 hl2;(conv=>whnf);exact⟨(n2,(v18,w64 (v19+1))),hl2,kW,Nat.lt_succ_self _⟩
    ·replace hl2:=ag hc22 hl2;(conv=>whnf);exact⟨(),hl2,kW⟩
  ·clear h;rintro _ h;unfold zf at h;(conv=>whnf);cases h;exact rfl
theorem Ac{N:Nat}(hN:N≤1073741824){s1:List Int}{v1:Int}{r:Bool}(h:yP N s1 v1=some r) :
    ACalls Tryz.prog 83 [.d (.list 1 (List.map I s1)),.d (I v1)] [] fun e os=>e=.ret (.d (.bool r))∧os=[]:=by
  refine ah (fresh:=false) al ap ⟨[],[],[],[],[],0,[]⟩ Tryz.func83 rfl Tryz.call83 rfl ?_
  unfold yP at h
  obtain⟨r2,hx2,h⟩:=ab h;(conv=>whnf);refine CallG.pure _ (AX hN hx2) ?_;(conv=>whnf);cases h;exact rfl
theorem yj{N:Nat}(hN:N≤1073741824){match1:Int}{games1:List Int}{c1:Int}{c2:Int}{c3:Int}{c4:List LadderResult}{c5:List LadderPair}{m1:List (Int×LadderResult)}{l1:List (Ar2 Int)}{bo1:Nat}{bo2:Nat}{ho1:Value}{r:(Ar2 Int)}(h:xS N match1 games1 c1 c2 c3 c4 c5 m1 l1=some r) :
    ACalls Tryz.prog 200 [.ptr 320040 bo1 0,.d (I match1),.d (.list 1 (List.map I games1))] [(320040,.cells bo1 (cD c1 c2 c3 c4 c5 320038 bo2 1465055 ho1)),(320038,.map bo2 (List.map eMR m1)),(1465055,.arr ho1 64 2 false (List.map eA2 l1))] fun ae os=>∃y:Unit,True∧ae=.ret (.d (.agg [I r.a0,I r.a1]))∧os=[(320040,.cells bo1 (cD c1 c2 c3 c4 c5 320038 bo2 1465055 ho1)),(320038,.map bo2 (List.map eMR m1)),(1465055,.arr ho1 64 2 false (List.map eA2 l1))]:=by
  refine aJ (fresh:=false) al ap ⟨[],[],[],[],[1003,1006],1470000,[]⟩ Tryz.func200 rfl Tryz.call200 rfl ?_
  unfold xS at h
  (conv=>whnf);intro b2;refine ws ?_;obtain⟨x52,hx90,h⟩:=ab h;(conv=>whnf);refine Side.mk ⟨rfl,rfl⟩ (Need.mk (aL _ hx90) ?_);(conv=>whnf);refine Side.mk ⟨rfl,rfl⟩ ⟨_,Int.natCast_nonneg _,bX _ hx90,?_⟩;(conv=>whnf);refine LoopG.unr 3 ?_;obtain⟨c58,hx112,h⟩:=ab h;(conv=>whnf)
  refine SeqG.mk Unit (fun y=>[(2,.d (.list 1 (List.map I games1))),(6,.ptr 1470006 b2 0),(17,.d (.agg [I x52.a0,I x52.a1])),(18,.i .i64 0)]) (fun y=>[(1470006,.cells b2 [.d (I c58.a0),.d (I c58.a1)]),(320040,.cells bo1 (cD c1 c2 c3 c4 c5 320038 bo2 1465055 ho1)),(320038,.map bo2 (List.map eMR m1)),(1465055,.arr ho1 64 2 false (List.map eA2 l1))]) (fun _=>True) ?_ ?_
  ·(conv=>whnf);refine IxG.mk 0 rfl (by decide) ?_;(conv=>whnf);refine LnA.mk _ (List.length_map _) ?_;(conv=>whnf)
   refine LoopG.mk (Nat×(Int×Int×(Ar2 Int))) (fun y=>[(2,.d (.list 1 (List.map I games1))),(6,.ptr 1470006 b2 0),(7,.i .i64 0),(8,.d (I x52.a0)),(17,.d (.agg [I x52.a0,I x52.a1])),(18,.i .i64 0),(22,.d (.list 1 (List.map I games1))),(23,.d (I y.2.1)),(24,.d (I y.2.2.1))]) (fun y=>[(1470006,.cells b2 [.d (I y.2.2.2.a0),.d (I y.2.2.2.a1)]),(320040,.cells bo1 (cD c1 c2 c3 c4 c5 320038 bo2 1465055 ho1)),(320038,.map bo2 (List.map eMR m1)),(1465055,.arr ho1 64 2 false (List.map eA2 l1))]) (fun y=>aj (fun rr x=>eE N games1 x52 rr x.1 x.2.1 x.2.2) y.1 y.2=some c58) (fun y=>y.1) (N,((games1.length:Int),0,(Ar2.mk 0 0))) hx112 (Sub.eq rfl ?_ ?_) ?_
   ·(repeat ((conv=>whnf);refine nr ?_));exact trivial
   ·(iterate 4 ((conv=>whnf);refine no ?_));exact trivial
   ·rintro⟨n6,⟨v53,v54,c66⟩⟩ hl6;obtain⟨n6,rfl,hl6⟩:=ar hl6;replace hl6:eE N games1 x52 (aj (fun rr x=>eE N games1 x52 rr x.1 x.2.1 x.2.2) n6) v53 v54 c66=some c58:=hl6;rw[eE]at hl6;refine wB (fun hc70=>?_) (fun hc70=>?_)
    ·replace hl6:=af hc70 hl6;obtain⟨c68,hx130,hl6⟩:=ab hl6;(conv=>whnf);refine SeqG.mk Unit (fun y=>[(2,.d (.list 1 (List.map I games1))),(6,.ptr 1470006 b2 0),(7,.i .i64 0),(8,.d (I x52.a0)),(17,.d (.agg [I x52.a0,I x52.a1])),(18,.i .i64 0),(22,.d (.list 1 (List.map I games1))),(23,.d (I v53)),(24,.d (I v54))]) (fun y=>[(1470006,.cells b2 [.d (I c68.a0),.d (I c68.a1)]),(320040,.cells bo1 (cD c1 c2 c3 c4 c5 320038 bo2 1465055 ho1)),(320038,.map bo2 (List.map eMR m1)),(1465055,.arr ho1 64 2 false (List.map eA2 l1))]) (fun _=>True) ?_ ?_
     ·obtain⟨x76,hx132,hx130⟩:=ab hx130;(conv=>whnf);refine Side.mk rfl ⟨_,aC hx132,ak _ hx132,?_⟩;refine wB (fun hc72=>?_) (fun hc72=>?_)
      ·replace hx130:=af hc72 hx130;(conv=>whnf);refine IxG.mk 0 rfl (by decide) ?_;refine ws ?_;(conv=>whnf);intro hd36;obtain⟨r36,hx133,hx130⟩:=ab hx130;refine ws ?_;(conv=>whnf);refine CallG.pure _ (je hN hx133) ?_;(conv=>whnf);refine IxG.mk 0 rfl (by decide) ?_;refine ws ?_;cases hx130;(conv=>whnf);exact⟨(),trivial,kW⟩
      ·replace hx130:=ag hc72 hx130;cases hx130;(conv=>whnf);exact⟨(),trivial,kW⟩
     ·rintro _ _;(conv=>whnf);exact⟨(n6,(v53,w64 (v54+1),c68)),hl6,kW,Nat.lt_succ_self _⟩
    ·replace hl6:=ag hc70 hl6;cases hl6;(conv=>whnf);exact⟨(),trivial,kW⟩
  ·rintro _ _;obtain⟨c79,hx155,h⟩:=ab h;(conv=>whnf);refine SeqG.mk Unit (fun y=>[(2,.d (.list 1 (List.map I games1))),(6,.ptr 1470006 b2 0),(17,.d (.agg [I x52.a0,I x52.a1])),(18,.i .i64 1)]) (fun y=>[(1470006,.cells b2 [.d (I c79.a0),.d (I c79.a1)]),(320040,.cells bo1 (cD c1 c2 c3 c4 c5 320038 bo2 1465055 ho1)),(320038,.map bo2 (List.map eMR m1)),(1465055,.arr ho1 64 2 false (List.map eA2 l1))]) (fun _=>True) ?_ ?_
   ·(conv=>whnf);refine IxG.mk 1 rfl (by decide) ?_;(conv=>whnf);refine LnA.mk _ (List.length_map _) ?_;(conv=>whnf)
    refine LoopG.mk (Nat×(Int×Int×(Ar2 Int))) (fun y=>[(2,.d (.list 1 (List.map I games1))),(6,.ptr 1470006 b2 0),(7,.i .i64 1),(8,.d (I x52.a1)),(17,.d (.agg [I x52.a0,I x52.a1])),(18,.i .i64 1),(22,.d (.list 1 (List.map I games1))),(23,.d (I y.2.1)),(24,.d (I y.2.2.1))]) (fun y=>[(1470006,.cells b2 [.d (I y.2.2.2.a0),.d (I y.2.2.2.a1)]),(320040,.cells bo1 (cD c1 c2 c3 c4 c5 320038 bo2 1465055 ho1)),(320038,.map bo2 (List.map eMR m1)),(1465055,.arr ho1 64 2 false (List.map eA2 l1))]) (fun y=>aj (fun rr x=>eS N games1 x52 rr x.1 x.2.1 x.2.2) y.1 y.2=some c79) (fun y=>y.1) (N,((games1.length:Int),0,c58)) hx155 (Sub.eq rfl ?_ ?_) ?_
    ·(repeat ((conv=>whnf);refine nr ?_));exact trivial
    ·(iterate 4 ((conv=>whnf);refine no ?_));exact trivial
    ·rintro⟨n8,⟨v71,v72,c87⟩⟩ hl8;obtain⟨n8,rfl,hl8⟩:=ar hl8;replace hl8:eS N games1 x52 (aj (fun rr x=>eS N games1 x52 rr x.1 x.2.1 x.2.2) n8) v71 v72 c87=some c79:=hl8;rw[eS]at hl8;refine wB (fun hc94=>?_) (fun hc94=>?_)
     ·replace hl8:=af hc94 hl8;obtain⟨c89,hx173,hl8⟩:=ab hl8;(conv=>whnf);refine SeqG.mk Unit (fun y=>[(2,.d (.list 1 (List.map I games1))),(6,.ptr 1470006 b2 0),(7,.i .i64 1),(8,.d (I x52.a1)),(17,.d (.agg [I x52.a0,I x52.a1])),(18,.i .i64 1),(22,.d (.list 1 (List.map I games1))),(23,.d (I v71)),(24,.d (I v72))]) (fun y=>[(1470006,.cells b2 [.d (I c89.a0),.d (I c89.a1)]),(320040,.cells bo1 (cD c1 c2 c3 c4 c5 320038 bo2 1465055 ho1)),(320038,.map bo2 (List.map eMR m1)),(1465055,.arr ho1 64 2 false (List.map eA2 l1))]) (fun _=>True) ?_ ?_
      ·obtain⟨x100,hx175,hx173⟩:=ab hx173;(conv=>whnf);refine Side.mk rfl ⟨_,aC hx175,ak _ hx175,?_⟩;refine wB (fun hc96=>?_) (fun hc96=>?_)
       ·replace hx173:=af hc96 hx173;(conv=>whnf);refine IxG.mk 1 rfl (by decide) ?_;refine ws ?_;(conv=>whnf);intro hd48;obtain⟨r48,hx176,hx173⟩:=ab hx173;refine ws ?_;(conv=>whnf);refine CallG.pure _ (je hN hx176) ?_;(conv=>whnf);refine IxG.mk 1 rfl (by decide) ?_;refine ws ?_;cases hx173;(conv=>whnf);exact⟨(),trivial,kW⟩
       ·replace hx173:=ag hc96 hx173;cases hx173;(conv=>whnf);exact⟨(),trivial,kW⟩
      ·rintro _ _;(conv=>whnf);exact⟨(n8,(v71,w64 (v72+1),c89)),hl8,kW,Nat.lt_succ_self _⟩
     ·replace hl8:=ag hc94 hl8;cases hl8;(conv=>whnf);exact⟨(),trivial,kW⟩
   ·rintro _ _;(iterate 3 refine ws ?_);(conv=>whnf);cases h;exact⟨(),trivial,rfl,aA (ren:=id) (ai (ai (ai trivial)))⟩
theorem yL{N:Nat}(hN:N≤1073741824){match1:Int}{games1:List Int}{c1:Int}{c2:Int}{c3:Int}{c4:List LadderResult}{c5:List LadderPair}{m1:List (Int×LadderResult)}{l1:List (Ar2 Int)}{bo1:Nat}{bo2:Nat}{ho1:Value}{r:Int}(h:xP N match1 games1 c1 c2 c3 c4 c5 m1 l1=some r) :
    ACalls Tryz.prog 167 [.ptr 320040 bo1 0,.d (I match1),.d (.list 1 (List.map I games1))] [(320040,.cells bo1 (cD c1 c2 c3 c4 c5 320038 bo2 1465055 ho1)),(320038,.map bo2 (List.map eMR m1)),(1465055,.arr ho1 64 2 false (List.map eA2 l1))] fun ae os=>∃y:Unit,True∧ae=.ret (.d (I r))∧os=[(320040,.cells bo1 (cD c1 c2 c3 c4 c5 320038 bo2 1465055 ho1)),(320038,.map bo2 (List.map eMR m1)),(1465055,.arr ho1 64 2 false (List.map eA2 l1))]:=by
  refine aJ (fresh:=false) al ap ⟨[],[],[],[],[],1470000,[]⟩ Tryz.func167 rfl Tryz.call167 rfl ?_
  unfold xP at h
  obtain⟨r4,hx12,h⟩:=ab h;(conv=>whnf);refine CallG.own (yj (bo1:=bo1) (bo2:=bo2) (ho1:=ho1) hN hx12) id [] _ (fun y=>[(320040,.cells bo1 (cD c1 c2 c3 c4 c5 320038 bo2 1465055 ho1)),(320038,.map bo2 (List.map eMR m1)),(1465055,.arr ho1 64 2 false (List.map eA2 l1))]) (ac _) (ai (ai (ai trivial))) rfl (ai (ai (ai trivial))) trivial (fun _=>AV.le_refl _) (fun _=>rfl) ?_;rintro _ _;(conv=>whnf);refine LoopG.unr 3 ?_;(conv=>whnf);refine IxG.mk 0 rfl (by decide) ?_;refine ws ?_;(conv=>whnf)
  refine Br.mk (fun hc6=>?_) (fun hc6=>?_)
  ·replace h:=af hc6 h;refine ws ?_;obtain⟨x12,hx16,h⟩:=ab h;(conv=>whnf);refine Side.mk ⟨rfl,rfl⟩ (Need.mk (aL _ hx16) ?_);(conv=>whnf);refine IxG.mk 0 rfl (by decide) ?_;(conv=>whnf);refine Side.mk ⟨rfl,rfl⟩ ⟨_,Int.natCast_nonneg _,bX _ hx16,?_⟩;(conv=>whnf);cases h;exact⟨(),trivial,rfl,aA (ren:=id) (ai (ai (ai trivial)))⟩
  ·replace h:=ag hc6 h;(conv=>whnf);refine IxG.mk 1 rfl (by decide) ?_;refine ws ?_;refine wB (fun hc8=>?_) (fun hc8=>?_)
   ·replace h:=af hc8 h;refine ws ?_;obtain⟨x16,hx20,h⟩:=ab h;(conv=>whnf);refine Side.mk ⟨rfl,rfl⟩ (Need.mk (aL _ hx20) ?_);(conv=>whnf);refine IxG.mk 1 rfl (by decide) ?_;(conv=>whnf);refine Side.mk ⟨rfl,rfl⟩ ⟨_,Int.natCast_nonneg _,bX _ hx20,?_⟩;(conv=>whnf);cases h;exact⟨(),trivial,rfl,aA (ren:=id) (ai (ai (ai trivial)))⟩
   ·replace h:=ag hc8 h;(conv=>whnf);cases h;exact⟨(),trivial,rfl,aA (ren:=id) (ai (ai (ai trivial)))⟩
theorem zz{N:Nat}(hN:N≤1073741824){r1:LadderResult}{c1:Int}{c2:Int}{c3:Int}{c4:List LadderResult}{c5:List LadderPair}{m1:List (Int×LadderResult)}{l1:List (Ar2 Int)}{bo1:Nat}{bo2:Nat}{ho1:Value}{r:Bool}(h:yg N r1 c1 c2 c3 c4 c5 m1 l1=some r) :
    ACalls Tryz.prog 129 [.ptr 320040 bo1 0,.d (.agg [I r1.fMatch,.list 1 (List.map I r1.fGames),.bool r1.fProtested])] [(320040,.cells bo1 (cD c1 c2 c3 c4 c5 320038 bo2 1465055 ho1)),(320038,.map bo2 (List.map eMR m1)),(1465055,.arr ho1 64 2 false (List.map eA2 l1))] fun ae os=>∃y:Unit,True∧ae=.ret (.d (.bool r))∧os=[(320040,.cells bo1 (cD c1 c2 c3 c4 c5 320038 bo2 1465055 ho1)),(320038,.map bo2 (List.map eMR m1)),(1465055,.arr ho1 64 2 false (List.map eA2 l1))]:=by
  refine aJ (fresh:=false) al ap ⟨[3],[],[],[],[2,8,1005],1470000,[5]⟩ Tryz.func129 rfl Tryz.call129 rfl ?_
  unfold yg at h
  obtain⟨x2,hx2,h⟩:=ab h;(conv=>whnf);refine DrawG.mk (.take 0 (.take 1 (.take 2 (.take 3 (.take 4 (.take 5 (.take 6 (.take 7 (.alt 8 [7,6,5,4,3,2,1,0] (.alt 9 [] .done .nil) .nil))))))))) (by kernel_rfl) ?_;refine ws ?_;(conv=>whnf);refine Side.mk ⟨rfl,rfl⟩ (Need.mk (aL _ hx2) ?_);(conv=>whnf);refine Side.mk ⟨rfl,rfl⟩ ⟨_,Int.natCast_nonneg _,bX _ hx2,?_⟩;refine wb ?_;(conv=>whnf);intro b4;(conv=>whnf);refine Side.mk ⟨rfl,rfl⟩ ⟨_,Int.natCast_nonneg _,bX _ hx2,?_⟩;refine wl ?_;(conv=>whnf);refine Side.mk ⟨rfl,rfl⟩ (Need.mk (aL _ hx2) ?_);(iterate 3 refine wl ?_);refine ws ?_;(iterate 4 refine wl ?_);refine wb ?_;(conv=>whnf)
  refine sr ?_;refine ws ?_;obtain⟨v4,hx4,h⟩:=ab h;(conv=>whnf);refine SeqG.mk Unit (fun y=>[(0,.ptr 320040 bo1 0),(3,.d (.ref (.agg [I r1.fMatch,.list 1 (List.map I r1.fGames),.bool r1.fProtested]))),(5,.d (.ref (.agg [I x2.a0,I x2.a1]))),(24,.d (.bool v4))]) (fun y=>[(320040,.cells bo1 (cD c1 c2 c3 c4 c5 320038 bo2 1465055 ho1)),(320038,.map bo2 (List.map eMR m1)),(1465055,.arr ho1 64 2 false (List.map eA2 l1))]) (fun _=>True) ?_ ?_
  ·(conv=>whnf);refine IxG.mk 0 rfl (by decide) ?_;refine wB (fun hc5=>?_) (fun hc5=>?_)
   ·replace hx4:=ag hc5 hx4;(conv=>whnf);refine IxG.mk 1 rfl (by decide) ?_;cases hx4;(conv=>whnf);exact⟨(),trivial,kW⟩
   ·replace hx4:=af hc5 hx4;cases hx4;(conv=>whnf);exact⟨(),trivial,kW⟩
  ·rintro _ _;refine wB (fun hc6=>?_) (fun hc6=>?_)
   ·replace h:=af hc6 h;(conv=>whnf);cases h;exact⟨(),trivial,rfl,aA (ren:=id) (ai (ai (ai trivial)))⟩
   ·replace h:=ag hc6 h;obtain⟨fair2,hx59,h⟩:=ab h;(conv=>whnf);refine SeqG.mk Unit (fun y=>[(6,.d (.bool fair2))]) (fun y=>[(320040,.cells bo1 (cD c1 c2 c3 c4 c5 320038 bo2 1465055 ho1)),(320038,.map bo2 (List.map eMR m1)),(1465055,.arr ho1 64 2 false (List.map eA2 l1))]) (fun _=>True) ?_ ?_
    ·(conv=>whnf);refine LnA.mk _ (List.length_map _) ?_;(conv=>whnf)
     refine LoopG.mk (Nat×(Int×Int)) (fun y=>[(0,.ptr 320040 bo1 0),(3,.d (.ref (.agg [I r1.fMatch,.list 1 (List.map I r1.fGames),.bool r1.fProtested]))),(5,.d (.ref (.agg [I x2.a0,I x2.a1]))),(6,.b true),(26,.d (.list 1 (List.map I r1.fGames))),(27,.d (I y.2.1)),(28,.d (I y.2.2))]) (fun y=>[(320040,.cells bo1 (cD c1 c2 c3 c4 c5 320038 bo2 1465055 ho1)),(320038,.map bo2 (List.map eMR m1)),(1465055,.arr ho1 64 2 false (List.map eA2 l1))]) (fun y=>aj (fun rr x=>fw N r1 c1 c2 c3 c4 c5 m1 l1 x2 rr x.1 x.2) y.1 y.2=some fair2) (fun y=>y.1) (N,((r1.fGames.length:Int),0)) hx59 (Sub.eq rfl ?_ ?_) ?_
     ·(repeat ((conv=>whnf);refine nr ?_));exact trivial
     ·(iterate 3 ((conv=>whnf);refine no ?_));exact trivial
     ·rintro⟨n2,⟨v41,v42⟩⟩ hl2;obtain⟨n2,rfl,hl2⟩:=ar hl2;replace hl2:fw N r1 c1 c2 c3 c4 c5 m1 l1 x2 (aj (fun rr x=>fw N r1 c1 c2 c3 c4 c5 m1 l1 x2 rr x.1 x.2) n2) v41 v42=some fair2:=hl2;rw[fw]at hl2;refine wB (fun hc48=>?_) (fun hc48=>?_)
      ·replace hl2:=af hc48 hl2;obtain⟨x26,hx106,hl2⟩:=ab hl2;(conv=>whnf);refine Side.mk rfl ⟨_,aC hx106,ak _ hx106,?_⟩;obtain⟨v46,hx110,hl2⟩:=ab hl2;(conv=>whnf)
       refine SeqG.mk Unit (fun y=>[(0,.ptr 320040 bo1 0),(3,.d (.ref (.agg [I r1.fMatch,.list 1 (List.map I r1.fGames),.bool r1.fProtested]))),(5,.d (.ref (.agg [I x2.a0,I x2.a1]))),(6,.b true),(26,.d (.list 1 (List.map I r1.fGames))),(27,.d (I v41)),(28,.d (I v42)),(47,.d (.bool v46))]) (fun y=>[(320040,.cells bo1 (cD c1 c2 c3 c4 c5 320038 bo2 1465055 ho1)),(320038,.map bo2 (List.map eMR m1)),(1465055,.arr ho1 64 2 false (List.map eA2 l1))]) (fun _=>True) ?_ ?_
       ·obtain⟨r48,hx111,hx110⟩:=ab hx110;(conv=>whnf);refine DrawG.mk (.take 1 (.alt 0 [1] (.alt 2 [] (.take 3 (.take 4 (.spl 37 (.take 5 (.take 6 (.take 7 (.take 8 (.take 9 (.take 10 (.alt 11 [8,7,6,5,3] (.alt 12 [8,6,3] (.take 13 (.take 14 .done)) .nil) .nil)))))))))) .nil) .nil)) (by kernel_rfl) ?_;refine wb ?_;(conv=>whnf);refine ArrS.mk (List.map I [x2.a0,x2.a1]) rfl rfl (tP _ fun _=>rfl) ?_;refine wl ?_;refine wb ?_;(conv=>whnf);refine CallG.pure _ (Ac hN hx111) ?_;refine wB (fun hc53=>?_) (fun hc53=>?_)
        ·replace hx110:=af hc53 hx110;refine wb ?_;(iterate 4 ((conv=>whnf);refine nr ?_));refine wl ?_;refine wb ?_;(iterate 2 ((conv=>whnf);refine nr ?_));refine wl ?_;cases hx110;(conv=>whnf);exact⟨(),trivial,kW⟩
        ·replace hx110:=ag hc53 hx110;obtain⟨l25,hx112,hx110⟩:=ab hx110;obtain⟨r49,hx113,hx110⟩:=ab hx110;refine wb ?_;(conv=>whnf);refine Need.mk (dt _ hx112) (Eqv.mk (List.map I l25) (dA _ hx112) ?_);(iterate 5 refine wl ?_);refine wb ?_;(conv=>whnf)
         refine CallG.own (yL (bo1:=bo1) (bo2:=bo2) (ho1:=ho1) hN hx113) id [] _ (fun y=>[(320040,.cells bo1 (cD c1 c2 c3 c4 c5 320038 bo2 1465055 ho1)),(320038,.map bo2 (List.map eMR m1)),(1465055,.arr ho1 64 2 false (List.map eA2 l1))]) (ac _) (ai (ai (ai trivial))) rfl (ai (ai (ai trivial))) trivial (fun _=>AV.le_refl _) (fun _=>rfl) ?_;rintro _ _;(iterate 3 refine wl ?_);cases hx110;(conv=>whnf);exact⟨(),trivial,kW⟩
       ·rintro _ _;refine wB (fun hc54=>?_) (fun hc54=>?_)
        ·replace hl2:=af hc54 hl2;cases hl2;(conv=>whnf);exact⟨(),trivial,kW⟩
        ·replace hl2:=ag hc54 hl2;(conv=>whnf);exact⟨(n2,(v41,w64 (v42+1))),hl2,kW,Nat.lt_succ_self _⟩
      ·replace hl2:=ag hc48 hl2;cases hl2;(conv=>whnf);exact⟨(),trivial,kW⟩
    ·rintro _ _;(conv=>whnf);cases h;exact⟨(),trivial,rfl,aA (ren:=id) (ai (ai (ai trivial)))⟩
theorem ym{N:Nat}(hN:N≤1073741824){match1:Int}{c1:Int}{c2:Int}{c3:Int}{c4:List LadderResult}{c5:List LadderPair}{m1:List (Int×LadderResult)}{l1:List (Ar2 Int)}{bo1:Nat}{bo2:Nat}{ho1:Value}{r:Int}(h:dq N match1 c1 c2 c3 c4 c5 m1 l1=some r) :
    ACalls Tryz.prog 131 [.ptr 320040 bo1 0,.d (I match1)] [(320040,.cells bo1 (cD c1 c2 c3 c4 c5 320038 bo2 1465055 ho1)),(320038,.map bo2 (List.map eMR m1)),(1465055,.arr ho1 64 2 false (List.map eA2 l1))] fun ae os=>∃y:Unit,True∧ae=.ret (.d (I r))∧os=[(320040,.cells bo1 (cD c1 c2 c3 c4 c5 320038 bo2 1465055 ho1)),(320038,.map bo2 (List.map eMR m1)),(1465055,.arr ho1 64 2 false (List.map eA2 l1))]:=by
  refine aJ (fresh:=false) al ap ⟨[],[],[],[],[],1470000,[]⟩ Tryz.func131 rfl Tryz.call131 rfl ?_
  unfold dq at h
  refine ws ?_;obtain⟨⟨v2,is2⟩,hx2,h⟩:=ab h;(conv=>whnf);refine Side.mk rfl (Need.mk rfl (Need.mk (bd (m:=m1) (fun x:Int=>I x) (fun x:LadderResult=>.agg [I x.fMatch,.list 1 (List.map I x.fGames),.bool x.fProtested]) fun _=>rfl) (LkG.mk (.agg [I v2.fMatch,.list 1 (List.map I v2.fGames),.bool v2.fProtested]) is2 (ji (eK:=(fun x:Int=>I x)) (eV:=(fun x:LadderResult=>.agg [I x.fMatch,.list 1 (List.map I x.fGames),.bool x.fProtested])) jg hx2) (jj (eK:=(fun x:Int=>I x)) (eV:=(fun x:LadderResult=>.agg [I x.fMatch,.list 1 (List.map I x.fGames),.bool x.fProtested])) jg hx2) ?_)));(conv=>whnf);intro b2;refine ws ?_;refine wB (fun hc2=>?_) (fun hc2=>?_)
  ·replace h:=af hc2 h;(conv=>whnf);cases h;exact⟨(),trivial,rfl,aA (ren:=id) (ai (ai (ai trivial)))⟩
  ·replace h:=ag hc2 h;refine ws ?_;obtain⟨r2,hx4,h⟩:=ab h;(conv=>whnf)
   refine CallG.own (yL (bo1:=bo1) (bo2:=bo2) (ho1:=ho1) hN hx4) id [(1470005,.cells b2 [.d (I v2.fMatch),.d (.list 1 (List.map I v2.fGames)),.d (.bool v2.fProtested)])] _ (fun y=>[(320040,.cells bo1 (cD c1 c2 c3 c4 c5 320038 bo2 1465055 ho1)),(320038,.map bo2 (List.map eMR m1)),(1465055,.arr ho1 64 2 false (List.map eA2 l1)),(1470005,.cells b2 [.d (I v2.fMatch),.d (.list 1 (List.map I v2.fGames)),.d (.bool v2.fProtested)])]) (ac _) (ai (ai (ai trivial))) rfl (ai (ai (ai trivial))) (ai trivial) (fun _=>AV.le_refl _) (fun _=>rfl) ?_
   rintro _ _;(conv=>whnf);cases h;exact⟨(),trivial,rfl,aA (ren:=id) (ai (ai (ai trivial)))⟩
theorem iA{N:Nat}(hN:N≤1073741824){c1:Int}{c2:Int}{c3:Int}{c4:List LadderResult}{c5:List LadderPair}{m1:List (Int×LadderResult)}{bo1:Nat}{bo2:Nat}{r:Bool×Int×Int×Int×(List LadderResult)×(List LadderPair)×(List (Ar2 Int))}(h:fZ N c1 c2 c3 c4 c5 m1=some r) :
    ACalls Tryz.prog 92 [.ptr 320040 bo1 0] [(320040,.cells bo1 [.d (.int .u8 c1),.d (I c2),.d (I c3),.d (.list 3 (List.map LadderResult.enc c4)),.d (.list 4 (List.map LadderPair.enc c5)),.mp 320038 bo2,.nils 2]),(320038,.map bo2 (List.map eMR m1))] fun ae os=>∃y:Value,True∧ae=.ret (.d (.bool r.1))∧os=[(320040,.cells bo1 (cD r.2.1 r.2.2.1 r.2.2.2.1 r.2.2.2.2.1 r.2.2.2.2.2.1 320038 bo2 1465055 y)),(320038,.map bo2 (List.map eMR m1)),(1465055,.arr y 64 2 false (List.map eA2 r.2.2.2.2.2.2))]:=by
  refine aJ (fresh:=false) al ap ⟨[],[],[],[],[16,1002,1008],1465000,[]⟩ Tryz.func92 rfl Tryz.call92 rfl ?_
  unfold fZ at h
  (conv=>whnf);refine SeqG.mk ((List (Ar2 Int))×Value) (fun y=>[]) (fun y=>[(320040,.cells bo1 (cD c1 c2 c3 c4 c5 320038 bo2 1465055 y.2)),(320038,.map bo2 (List.map eMR m1)),(1465055,.arr y.2 64 2 false (List.map eA2 y.1))]) (fun y=>yJ N c1 c2 c3 c4 c5 y.1=some r) ?_ ?_
  ·refine ws ?_;(conv=>whnf);refine LnA.mk _ (List.length_map _) ?_;(conv=>whnf)
   refine LoopG.mk (Nat×(Int×Int×(List (Ar2 Int)))×Value) (fun y=>[(0,.ptr 320040 bo1 0),(3,.fn (.func 129) [.ptr 320040 bo1 0] []),(17,.d (.list 4 (List.map LadderPair.enc c5))),(18,.d (I y.2.1.1)),(19,.d (I y.2.1.2.1))]) (fun y=>[(320040,.cells bo1 (cD c1 c2 c3 c4 c5 320038 bo2 1465055 y.2.2)),(320038,.map bo2 (List.map eMR m1)),(1465055,.arr y.2.2 64 2 false (List.map eA2 y.2.1.2.2))]) (fun y=>aj (fun rr x=>nz N c1 c2 c3 c4 c5 m1 rr x.1 x.2.1 x.2.2) y.1 y.2.1=some r) (fun y=>y.1) (N,((c5.length:Int),0,[]),(.slice none 0 0)) h (Sub.eq rfl ?_ ?_) ?_
   ·(repeat ((conv=>whnf);refine nr ?_));exact trivial
   ·(conv=>whnf);refine Need.mk (OLe.cells _ _ _ (by repeat (first | exact trivial | ((conv=>whnf);refine Need.mk rfl ?_)))) ?_;(conv=>whnf);refine no ?_;(conv=>whnf);refine Need.mk (OLe.nil _ _ _ _) ?_;exact trivial
   ·rintro⟨n2,⟨v57,v58,l29⟩,hd89⟩ hl2;obtain⟨n2,rfl,hl2⟩:=ar hl2;replace hl2:nz N c1 c2 c3 c4 c5 m1 (aj (fun rr x=>nz N c1 c2 c3 c4 c5 m1 rr x.1 x.2.1 x.2.2) n2) v57 v58 l29=some r:=hl2;rw[nz]at hl2;refine wB (fun hc122=>?_) (fun hc122=>?_)
    ·replace hl2:=af hc122 hl2;obtain⟨x24,hx453,hl2⟩:=ab hl2;(conv=>whnf);refine Side.mk rfl ⟨_,aC hx453,ak _ hx453,?_⟩;(conv=>whnf);intro b420;refine ws ?_;(conv=>whnf);intro b422;refine ws ?_;obtain⟨_,hx471,hl2⟩:=ab hl2;(conv=>whnf);refine CallG.pure _ (qj hN hx471) ?_;(conv=>whnf);refine LoopG.unr 3 ?_;obtain⟨c99,hx475,hl2⟩:=ab hl2;(conv=>whnf)
     refine SeqG.mk Unit (fun y=>[(0,.ptr 320040 bo1 0),(3,.fn (.func 129) [.ptr 320040 bo1 0] []),(4,.d (I v58)),(5,.ptr 1465005 b420 0),(6,.ptr 1465006 b422 0),(17,.d (.list 4 (List.map LadderPair.enc c5))),(18,.d (I v57)),(19,.d (I v58)),(25,.d (.agg [.fn (.func 168) [] [],.fn (.func 169) [] []])),(26,.i .i64 0)]) (fun y=>[(320040,.cells bo1 (cD c1 c2 c3 c4 c5 320038 bo2 1465055 hd89)),(1465005,.cells b420 [.d (I x24.fFirst.fPlayer),.d (I x24.fFirst.fMatch),.d (I x24.fSecond.fPlayer),.d (I x24.fSecond.fMatch)]),(1465006,.cells b422 [.d (I c99.a0),.d (I c99.a1)]),(320038,.map bo2 (List.map eMR m1)),(1465055,.arr hd89 64 2 false (List.map eA2 l29))]) (fun _=>True) ?_ ?_
     ·(conv=>whnf);refine IxG.mk 0 rfl (by decide) ?_;(conv=>whnf);intro b444;(iterate 3 refine ws ?_);obtain⟨r303,hx477,hx475⟩:=ab hx475;(conv=>whnf);refine CallG.pure _ (l7 hN hx477) ?_;(conv=>whnf);intro b446;(iterate 2 refine ws ?_);refine wB (fun hc139=>?_) (fun hc139=>?_)
      ·replace hx475:=af hc139 hx475;refine ws ?_;(conv=>whnf);refine IxG.mk 0 rfl (by decide) ?_;refine ws ?_;cases hx475;(conv=>whnf);exact⟨(),trivial,kW⟩
      ·replace hx475:=ag hc139 hx475;refine ws ?_;obtain⟨r304,hx478,hx475⟩:=ab hx475;(conv=>whnf)
       refine CallG.own (ym (bo1:=bo1) (bo2:=bo2) (ho1:=hd89) hN hx478) id [(1465005,.cells b420 [.d (I x24.fFirst.fPlayer),.d (I x24.fFirst.fMatch),.d (I x24.fSecond.fPlayer),.d (I x24.fSecond.fMatch)]),(1465006,.cells b422 [.d (I (-1)),.d (I (-1))]),(1465008,.cells b444 [.d (.fn (.func 168) [] [])]),(1465009,.cells b446 [.d (I r303.fPlayer),.d (I r303.fMatch)])] _ (fun y=>[(320040,.cells bo1 (cD c1 c2 c3 c4 c5 320038 bo2 1465055 hd89)),(320038,.map bo2 (List.map eMR m1)),(1465055,.arr hd89 64 2 false (List.map eA2 l29)),(1465005,.cells b420 [.d (I x24.fFirst.fPlayer),.d (I x24.fFirst.fMatch),.d (I x24.fSecond.fPlayer),.d (I x24.fSecond.fMatch)]),(1465006,.cells b422 [.d (I (-1)),.d (I (-1))]),(1465008,.cells b444 [.d (.fn (.func 168) [] [])]),(1465009,.cells b446 [.d (I r303.fPlayer),.d (I r303.fMatch)])]) (ac _) (ai (ai (ai trivial))) rfl (ai (ai (ai trivial))) (ai (ai (ai (ai trivial)))) (fun _=>AV.le_refl _) (fun _=>rfl) ?_
       rintro _ _;(conv=>whnf);refine IxG.mk 0 rfl (by decide) ?_;refine ws ?_;cases hx475;(conv=>whnf);exact⟨(),trivial,kW⟩
     ·rintro _ _;obtain⟨c101,hx482,hl2⟩:=ab hl2;(conv=>whnf)
      refine SeqG.mk Unit (fun y=>[(0,.ptr 320040 bo1 0),(3,.fn (.func 129) [.ptr 320040 bo1 0] []),(4,.d (I v58)),(5,.ptr 1465005 b420 0),(6,.ptr 1465006 b422 0),(17,.d (.list 4 (List.map LadderPair.enc c5))),(18,.d (I v57)),(19,.d (I v58)),(25,.d (.agg [.fn (.func 168) [] [],.fn (.func 169) [] []])),(26,.i .i64 1)]) (fun y=>[(320040,.cells bo1 (cD c1 c2 c3 c4 c5 320038 bo2 1465055 hd89)),(1465005,.cells b420 [.d (I x24.fFirst.fPlayer),.d (I x24.fFirst.fMatch),.d (I x24.fSecond.fPlayer),.d (I x24.fSecond.fMatch)]),(1465006,.cells b422 [.d (I c101.a0),.d (I c101.a1)]),(320038,.map bo2 (List.map eMR m1)),(1465055,.arr hd89 64 2 false (List.map eA2 l29))]) (fun _=>True) ?_ ?_
      ·(conv=>whnf);refine IxG.mk 1 rfl (by decide) ?_;(conv=>whnf);intro b452;(iterate 3 refine ws ?_);obtain⟨r309,hx484,hx482⟩:=ab hx482;(conv=>whnf);refine CallG.pure _ (lh hN hx484) ?_;(conv=>whnf);intro b454;(iterate 2 refine ws ?_);refine wB (fun hc141=>?_) (fun hc141=>?_)
       ·replace hx482:=af hc141 hx482;refine ws ?_;(conv=>whnf);refine IxG.mk 1 rfl (by decide) ?_;refine ws ?_;cases hx482;(conv=>whnf);exact⟨(),trivial,kW⟩
       ·replace hx482:=ag hc141 hx482;refine ws ?_;obtain⟨r310,hx485,hx482⟩:=ab hx482;(conv=>whnf)
        refine CallG.own (ym (bo1:=bo1) (bo2:=bo2) (ho1:=hd89) hN hx485) id [(1465005,.cells b420 [.d (I x24.fFirst.fPlayer),.d (I x24.fFirst.fMatch),.d (I x24.fSecond.fPlayer),.d (I x24.fSecond.fMatch)]),(1465006,.cells b422 [.d (I c99.a0),.d (I c99.a1)]),(1465008,.cells b452 [.d (.fn (.func 169) [] [])]),(1465009,.cells b454 [.d (I r309.fPlayer),.d (I r309.fMatch)])] _ (fun y=>[(320040,.cells bo1 (cD c1 c2 c3 c4 c5 320038 bo2 1465055 hd89)),(320038,.map bo2 (List.map eMR m1)),(1465055,.arr hd89 64 2 false (List.map eA2 l29)),(1465005,.cells b420 [.d (I x24.fFirst.fPlayer),.d (I x24.fFirst.fMatch),.d (I x24.fSecond.fPlayer),.d (I x24.fSecond.fMatch)]),(1465006,.cells b422 [.d (I c99.a0),.d (I c99.a1)]),(1465008,.cells b452 [.d (.fn (.func 169) [] [])]),(1465009,.cells b454 [.d (I r309.fPlayer),.d (I r309.fMatch)])]) (ac _) (ai (ai (ai trivial))) rfl (ai (ai (ai trivial))) (ai (ai (ai (ai trivial)))) (fun _=>AV.le_refl _) (fun _=>rfl) ?_
        rintro _ _;(conv=>whnf);refine IxG.mk 1 rfl (by decide) ?_;refine ws ?_;cases hx482;(conv=>whnf);exact⟨(),trivial,kW⟩
      ·rintro _ _;obtain⟨l33,hx487,hl2⟩:=ab hl2;(conv=>whnf);refine DrawG.mk (.take 0 (.take 1 (.take 2 (.take 3 (.take 4 (.take 5 (.alt 6 [4,3,2,1,0] (.alt 7 [3,2,1,0] (.take 8 (.take 9 (.alt 10 [8] .done .nil))) .nil) .nil))))))) (by kernel_rfl) ?_;(iterate 2 refine ws ?_);refine wb ?_;(conv=>whnf);intro hd104;refine ws ?_;(iterate 5 refine wl ?_);refine wb ?_;(conv=>whnf);refine Side.mk ⟨rfl,rfl⟩ ?_;(conv=>whnf);refine Side.mk ⟨rfl,rfl,rfl⟩ (Need.mk (aD hN hx487 (by decide)) (Eqv.mk (List.map eA2 l33) (aH _ hx487) ?_));(conv=>whnf);intro hd105;(iterate 3 refine wl ?_);(conv=>whnf)
       refine nl ?_;refine wb ?_;refine ws ?_;refine wl ?_;refine ws ?_;obtain⟨⟨v64,is24⟩,hx489,hl2⟩:=ab hl2;(conv=>whnf);refine Side.mk rfl (Need.mk rfl (Need.mk (bd (m:=m1) (fun x:Int=>I x) (fun x:LadderResult=>.agg [I x.fMatch,.list 1 (List.map I x.fGames),.bool x.fProtested]) fun _=>rfl) (LkG.mk (.agg [I v64.fMatch,.list 1 (List.map I v64.fGames),.bool v64.fProtested]) is24 (ji (eK:=(fun x:Int=>I x)) (eV:=(fun x:LadderResult=>.agg [I x.fMatch,.list 1 (List.map I x.fGames),.bool x.fProtested])) jg hx489) (jj (eK:=(fun x:Int=>I x)) (eV:=(fun x:LadderResult=>.agg [I x.fMatch,.list 1 (List.map I x.fGames),.bool x.fProtested])) jg hx489) ?_)));(conv=>whnf);intro b456;refine ws ?_;obtain⟨v66,hx491,hl2⟩:=ab hl2;(conv=>whnf)
       refine SeqG.mk Unit (fun y=>[(0,.ptr 320040 bo1 0),(3,.fn (.func 129) [.ptr 320040 bo1 0] []),(17,.d (.list 4 (List.map LadderPair.enc c5))),(18,.d (I v57)),(19,.d (I v58)),(73,.d (.bool v66))]) (fun y=>[(320040,.cells bo1 (cD c1 c2 c3 c4 c5 320038 bo2 1465055 hd105)),(320038,.map bo2 (List.map eMR m1)),(1465055,.arr hd105 64 2 false (List.map eA2 l33))]) (fun _=>True) ?_ ?_
       ·refine wB (fun hc143=>?_) (fun hc143=>?_)
        ·replace hx491:=af hc143 hx491;refine ws ?_;obtain⟨r312,hx492,hx491⟩:=ab hx491;(conv=>whnf)
         refine CallG.own (zz (bo1:=bo1) (bo2:=bo2) (ho1:=hd105) hN hx492) id [(1465005,.cells b420 [.d (I x24.fFirst.fPlayer),.d (I x24.fFirst.fMatch),.d (I x24.fSecond.fPlayer),.d (I x24.fSecond.fMatch)]),(1465006,.cells b422 [.d (I c101.a0),.d (I c101.a1)]),(1465054,.arr hd104 64 2 false (List.map eA2 ([c101]))),(1465010,.cells b456 [.d (I v64.fMatch),.d (.list 1 (List.map I v64.fGames)),.d (.bool v64.fProtested)])] _ (fun y=>[(320040,.cells bo1 (cD c1 c2 c3 c4 c5 320038 bo2 1465055 hd105)),(320038,.map bo2 (List.map eMR m1)),(1465055,.arr hd105 64 2 false (List.map eA2 l33)),(1465005,.cells b420 [.d (I x24.fFirst.fPlayer),.d (I x24.fFirst.fMatch),.d (I x24.fSecond.fPlayer),.d (I x24.fSecond.fMatch)]),(1465006,.cells b422 [.d (I c101.a0),.d (I c101.a1)]),(1465054,.arr hd104 64 2 false (List.map eA2 ([c101]))),(1465010,.cells b456 [.d (I v64.fMatch),.d (.list 1 (List.map I v64.fGames)),.d (.bool v64.fProtested)])]) (ac _) (ai (ai (ai trivial))) rfl (ai (ai (ai trivial))) (ai (ai (ai (ai trivial)))) (fun _=>AV.le_refl _) (fun _=>rfl) ?_
         rintro _ _;cases hx491;(conv=>whnf);exact⟨(),trivial,kW⟩
        ·replace hx491:=ag hc143 hx491;cases hx491;(conv=>whnf);exact⟨(),trivial,kW⟩
       ·rintro _ _;refine wB (fun hc144=>?_) (fun hc144=>?_)
        ·replace hl2:=af hc144 hl2;(conv=>whnf);cases hl2;exact⟨hd105,trivial,rfl,aA (ren:=id) (ai (ai (ai trivial)))⟩
        ·replace hl2:=ag hc144 hl2;(conv=>whnf);exact⟨(n2,(v57,w64 (v58+1),l33),hd105),hl2,kW,Nat.lt_succ_self _⟩
    ·replace hl2:=ag hc122 hl2;(conv=>whnf);exact⟨(l29,hd89),hl2,kW⟩
  ·clear h;rintro⟨l17,hd53⟩ h;unfold yJ at h;(conv=>whnf);cases h;exact⟨hd53,trivial,rfl,aA (ren:=id) (ai (ai (ai trivial)))⟩
def At  : Int⊕(Int×Int×Int×Int×(List LadderResult)×(List LadderPair)×(List (Int×LadderResult))×(List (Ar2 Int)))→AE→List (Nat×Ob)→Prop
  | .inl r=>fun ae os=>∃y:Unit,True∧ae=.ret (.d (.tup [.nilptr,I r]))∧os=[]
  | .inr r=>fun ae os=>∃y:Nat×Nat×Value,True∧ae=.ret (.tup [.ptr 320040 y.1 0,.d (I r.1)])∧os=[(320040,.cells y.1 (cD r.2.1 r.2.2.1 r.2.2.2.1 r.2.2.2.2.1 r.2.2.2.2.2.1 320038 y.2.1 1465055 y.2.2)),(320038,.map y.2.1 (List.map eMR r.2.2.2.2.2.2.1)),(1465055,.arr y.2.2 64 2 false (List.map eA2 r.2.2.2.2.2.2.2))]
theorem oe{N:Nat}(hN:N≤1073741824){c1:LadderCup}{r:Int⊕(Int×Int×Int×Int×(List LadderResult)×(List LadderPair)×(List (Int×LadderResult))×(List (Ar2 Int)))}(h:ig N c1=some r) :
    ACalls Tryz.prog 63 [.d (.agg [.int .u8 c1.fForm,I c1.fPlayers,I c1.fGames,.list 3 (List.map LadderResult.enc c1.fResults)])] [] (At  r):=by
  refine bt (fresh:=false) al ap ⟨[1],[],[],[],[3,5,11,1008],320000,[]⟩ Tryz.func63 rfl Tryz.call63 rfl ?_
  unfold ig at h
  obtain⟨v6,hx10,h⟩:=ab h;(conv=>whnf);refine SeqG.mk Unit (fun y=>[(1,.d (.ref (.agg [.int .u8 c1.fForm,I c1.fPlayers,I c1.fGames,.list 3 (List.map LadderResult.enc c1.fResults)]))),(5,.d (.fn (.func 87) [] [.ref (.agg [.int .u8 c1.fForm,I c1.fPlayers,I c1.fGames,.list 3 (List.map LadderResult.enc c1.fResults)])])),(12,.d (.bool v6))]) (fun y=>[]) (fun _=>True) ?_ ?_
  ·(conv=>whnf);refine LnA.mk _ (List.length_map _) ?_;refine wB (fun hc8=>?_) (fun hc8=>?_)
   ·replace hx10:=ag hc8 hx10;obtain⟨r8,hx11,hx10⟩:=ab hx10;(conv=>whnf);refine CallG.pure _ (ss hN hx11) ?_;cases hx10;(conv=>whnf);exact⟨(),trivial,kW⟩
   ·replace hx10:=af hc8 hx10;cases hx10;(conv=>whnf);exact⟨(),trivial,kW⟩
  ·rintro _ _;refine wB (fun hc9=>?_) (fun hc9=>?_)
   ·replace h:=af hc9 h;(conv=>whnf);cases h;exact⟨_,⟨(),trivial,rfl,rfl⟩,aA (ren:=id) trivial⟩
   ·replace h:=ag hc9 h;obtain⟨v8,hx14,h⟩:=ab h;(conv=>whnf);refine SeqG.mk Unit (fun y=>[(1,.d (.ref (.agg [.int .u8 c1.fForm,I c1.fPlayers,I c1.fGames,.list 3 (List.map LadderResult.enc c1.fResults)]))),(24,.d (.bool v8))]) (fun y=>[]) (fun _=>True) ?_ ?_
    ·obtain⟨r11,hx15,hx14⟩:=ab hx14;(conv=>whnf);refine CallG.pure _ (mK hN hx15) ?_;refine wB (fun hc11=>?_) (fun hc11=>?_)
     ·replace hx14:=ag hc11 hx14;obtain⟨r12,hx16,hx14⟩:=ab hx14;(conv=>whnf);refine CallG.pure _ (rt hN hx16) ?_;cases hx14;(conv=>whnf);exact⟨(),trivial,kW⟩
     ·replace hx14:=af hc11 hx14;cases hx14;(conv=>whnf);exact⟨(),trivial,kW⟩
    ·rintro _ _;refine wB (fun hc12=>?_) (fun hc12=>?_)
     ·replace h:=af hc12 h;(conv=>whnf);cases h;exact⟨_,⟨(),trivial,rfl,rfl⟩,aA (ren:=id) trivial⟩
     ·replace h:=ag hc12 h;obtain⟨r14,hx18,h⟩:=ab h;(conv=>whnf);refine DrawG.mk (.take 0 (.take 1 (.alt 2 [0] (.alt 3 [0] (.alt 4 [] (.alt 5 [] (.take 6 .done) .nil) .nil) .nil) (.alt 3 [1,0] (.alt 2 [0] (.alt 4 [] (.alt 5 [] (.take 6 .done) .nil) .nil) .nil) .nil)))) (by kernel_rfl) ?_;(conv=>whnf);refine Both.mk ?_ ?_
      ·(conv=>whnf);refine CallG.pure _ (jQ hN hx18) ?_;refine wl ?_;refine wb ?_;(conv=>whnf);intro b9;refine wl ?_;refine wb ?_;refine wb ?_;(conv=>whnf);intro b10;(conv=>whnf);refine SeqG.mk ((List (Int×LadderResult))) (fun y=>[(6,.ptr 320040 b10 0)]) (fun y=>[(320040,.cells b10 [.d (.int .u8 c1.fForm),.d (I c1.fPlayers),.d (I c1.fGames),.d (.list 3 (List.map LadderResult.enc c1.fResults)),.d (.list 4 (List.map LadderPair.enc r14)),.mp 320038 b9,.nils 2]),(320038,.map b9 (List.map eMR y))]) (fun y=>yC N c1 r14 y=some r) ?_ ?_
       ·(conv=>whnf);refine LnA.mk _ (List.length_map _) ?_;(conv=>whnf);refine LoopG.mk (Nat×(Int×Int×(List (Int×LadderResult)))) (fun y=>[(6,.ptr 320040 b10 0),(42,.d (.list 3 (List.map LadderResult.enc c1.fResults))),(43,.d (I y.2.1)),(44,.d (I y.2.2.1))]) (fun y=>[(320040,.cells b10 [.d (.int .u8 c1.fForm),.d (I c1.fPlayers),.d (I c1.fGames),.d (.list 3 (List.map LadderResult.enc c1.fResults)),.d (.list 4 (List.map LadderPair.enc r14)),.mp 320038 b9,.nils 2]),(320038,.map b9 (List.map eMR y.2.2.2))]) (fun y=>aj (fun rr x=>dy N c1 r14 rr x.1 x.2.1 x.2.2) y.1 y.2=some r) (fun y=>y.1) (N,((c1.fResults.length:Int),0,([]:List (Int×LadderResult)))) h (Sub.eq rfl ?_ ?_) ?_
        ·(repeat ((conv=>whnf);refine nr ?_));exact trivial
        ·(iterate 2 ((conv=>whnf);refine no ?_));exact trivial
        ·rintro⟨n2,⟨v65,v66,m9⟩⟩ hl2;obtain⟨n2,rfl,hl2⟩:=ar hl2;replace hl2:dy N c1 r14 (aj (fun rr x=>dy N c1 r14 rr x.1 x.2.1 x.2.2) n2) v65 v66 m9=some r:=hl2;rw[dy]at hl2;refine wB (fun hc46=>?_) (fun hc46=>?_)
         ·replace hl2:=af hc46 hl2;obtain⟨x24,hx112,hl2⟩:=ab hl2;(conv=>whnf);refine Side.mk rfl ⟨_,aC hx112,ak _ hx112,?_⟩;(conv=>whnf);intro b166;refine ws ?_;obtain⟨is95,hx117,hl2⟩:=ab hl2;(conv=>whnf)
          refine SeqG.mk Unit (fun y=>[(6,.ptr 320040 b10 0),(8,.ptr 320008 b166 0),(10,.d (.bool is95)),(42,.d (.list 3 (List.map LadderResult.enc c1.fResults))),(43,.d (I v65)),(44,.d (I v66))]) (fun y=>[(320040,.cells b10 [.d (.int .u8 c1.fForm),.d (I c1.fPlayers),.d (I c1.fGames),.d (.list 3 (List.map LadderResult.enc c1.fResults)),.d (.list 4 (List.map LadderPair.enc r14)),.mp 320038 b9,.nils 2]),(320008,.cells b166 [.d (I x24.fMatch),.d (.list 1 (List.map I x24.fGames)),.d (.bool x24.fProtested)]),(320038,.map b9 (List.map eMR m9))]) (fun _=>True) ?_ ?_
          ·obtain⟨⟨v74,is96⟩,hx118,hx117⟩:=ab hx117;(conv=>whnf);refine DrawG.mk (.take 0 (.take 1 (.take 2 (.take 3 (.take 4 (.take 5 (.alt 6 [4,2,1,0] (.take 7 (.take 8 (.take 9 (.alt 10 [9,8,7,4,2,1,0] (.alt 11 [9] (.take 12 .done) .nil) .nil)))) (.alt 10 [5,4,3,2,1,0] (.alt 6 [4,2,1,0] (.take 7 (.take 8 (.take 9 (.alt 11 [9] (.take 12 .done) .nil)))) .nil) .nil)))))))) (by kernel_rfl) ?_;(iterate 2 refine ws ?_);(conv=>whnf);refine Both.mk ?_ ?_
           ·(conv=>whnf);refine Side.mk rfl (Need.mk rfl (Need.mk (bd (m:=m9) (fun x:Int=>I x) (fun x:LadderResult=>.agg [I x.fMatch,.list 1 (List.map I x.fGames),.bool x.fProtested]) fun _=>rfl) (LkG.mk (.agg [I v74.fMatch,.list 1 (List.map I v74.fGames),.bool v74.fProtested]) is96 (ji (eK:=(fun x:Int=>I x)) (eV:=(fun x:LadderResult=>.agg [I x.fMatch,.list 1 (List.map I x.fGames),.bool x.fProtested])) jg hx118) (jj (eK:=(fun x:Int=>I x)) (eV:=(fun x:LadderResult=>.agg [I x.fMatch,.list 1 (List.map I x.fGames),.bool x.fProtested])) jg hx118) ?_)));(iterate 4 refine wl ?_);refine wb ?_;(conv=>whnf);intro b177;(iterate 3 refine wl ?_);refine wl ?_
            (iterate 3 refine wl ?_);refine wb ?_;refine ws ?_;refine wl ?_;cases hx117;(conv=>whnf);exact⟨(),trivial,kW⟩
           ·refine wb ?_;(conv=>whnf);intro b178;refine ws ?_;(iterate 2 refine wl ?_);refine ws ?_;(iterate 4 refine wl ?_);refine wb ?_;(conv=>whnf)
            refine Side.mk rfl (Need.mk rfl (Need.mk (bd (m:=m9) (fun x:Int=>I x) (fun x:LadderResult=>.agg [I x.fMatch,.list 1 (List.map I x.fGames),.bool x.fProtested]) fun _=>rfl) (LkG.mk (.agg [I v74.fMatch,.list 1 (List.map I v74.fGames),.bool v74.fProtested]) is96 (ji (eK:=(fun x:Int=>I x)) (eV:=(fun x:LadderResult=>.agg [I x.fMatch,.list 1 (List.map I x.fGames),.bool x.fProtested])) jg hx118) (jj (eK:=(fun x:Int=>I x)) (eV:=(fun x:LadderResult=>.agg [I x.fMatch,.list 1 (List.map I x.fGames),.bool x.fProtested])) jg hx118) ?_)));(iterate 4 refine wl ?_);refine wb ?_;refine ws ?_;refine wl ?_;cases hx117;(conv=>whnf);exact⟨(),trivial,kW⟩
          ·rintro _ _;refine wB (fun hc50=>?_) (fun hc50=>?_)
           ·replace hl2:=af hc50 hl2;(conv=>whnf);cases hl2;exact⟨_,⟨(),trivial,rfl,rfl⟩,aA (ren:=id) trivial⟩
           ·replace hl2:=ag hc50 hl2;(conv=>whnf);refine DrawG.mk (.take 0 (.take 1 (.take 2 (.take 3 (.take 4 (.take 5 (.take 6 (.alt 7 [] .done .nil)))))))) (by kernel_rfl) ?_;(iterate 3 refine ws ?_);refine wb ?_;(conv=>whnf);refine Side.mk rfl (Need.mk rfl (Need.mk (bd (m:=m9) (fun x:Int=>I x) (fun x:LadderResult=>.agg [I x.fMatch,.list 1 (List.map I x.fGames),.bool x.fProtested]) fun _=>rfl) (MEqv.mk (List.map (fun p:Int×LadderResult=>(I p.1,.agg [I p.2.fMatch,.list 1 (List.map I p.2.fGames),.bool p.2.fProtested])) (mput m9 x24.fMatch x24)) (fS (eK:=(fun x:Int=>I x)) (eV:=(fun x:LadderResult=>.agg [I x.fMatch,.list 1 (List.map I x.fGames),.bool x.fProtested])) jg m9 x24.fMatch x24) ?_)));(conv=>whnf)
            exact⟨(n2,(v65,w64 (v66+1),(mput m9 x24.fMatch x24))),hl2,kW,Nat.lt_succ_self _⟩
         ·replace hl2:=ag hc46 hl2;(conv=>whnf);exact⟨m9,hl2,kW⟩
       ·clear h;rintro m5 h;unfold yC at h;obtain⟨⟨ra4,rb4,rc4,rd4,re4,rf4,rg4⟩,hx70,h⟩:=ab h;(conv=>whnf);refine CallG.own (iA (bo1:=b10) (bo2:=b9) hN hx70) id [] _ (fun y=>[(320040,.cells b10 (cD rb4 rc4 rd4 re4 rf4 320038 b9 1465055 y)),(320038,.map b9 (List.map eMR m5)),(1465055,.arr y 64 2 false (List.map eA2 rg4))]) (ac _) (ai (ai trivial)) rfl (ai (ai trivial)) trivial (fun _=>AV.le_refl _) (fun _=>rfl) ?_;rintro hd4 _;refine wB (fun hc32=>?_) (fun hc32=>?_)
        ·replace h:=af hc32 h;(conv=>whnf);cases h;exact⟨_,⟨(),trivial,rfl,rfl⟩,aA (ren:=id) trivial⟩
        ·replace h:=ag hc32 h;(conv=>whnf);cases h;exact⟨_,⟨(b10,b9,hd4),trivial,rfl,rfl⟩,aA (ren:=id) (ai (ai (ai trivial)))⟩
      ·refine wb ?_;(conv=>whnf);intro b179;(iterate 2 refine wl ?_);refine wb ?_;(conv=>whnf);refine CallG.pure _ (jQ hN hx18) ?_;refine wl ?_;refine wb ?_;refine wb ?_;(conv=>whnf);intro b180;(conv=>whnf);refine SeqG.mk ((List (Int×LadderResult))) (fun y=>[(6,.ptr 320040 b180 0)]) (fun y=>[(320040,.cells b180 [.d (.int .u8 c1.fForm),.d (I c1.fPlayers),.d (I c1.fGames),.d (.list 3 (List.map LadderResult.enc c1.fResults)),.d (.list 4 (List.map LadderPair.enc r14)),.mp 320038 b179,.nils 2]),(320038,.map b179 (List.map eMR y))]) (fun y=>yT N c1 r14 y=some r) ?_ ?_
       ·(conv=>whnf);refine LnA.mk _ (List.length_map _) ?_;(conv=>whnf);refine LoopG.mk (Nat×(Int×Int×(List (Int×LadderResult)))) (fun y=>[(6,.ptr 320040 b180 0),(42,.d (.list 3 (List.map LadderResult.enc c1.fResults))),(43,.d (I y.2.1)),(44,.d (I y.2.2.1))]) (fun y=>[(320040,.cells b180 [.d (.int .u8 c1.fForm),.d (I c1.fPlayers),.d (I c1.fGames),.d (.list 3 (List.map LadderResult.enc c1.fResults)),.d (.list 4 (List.map LadderPair.enc r14)),.mp 320038 b179,.nils 2]),(320038,.map b179 (List.map eMR y.2.2.2))]) (fun y=>aj (fun rr x=>yD N c1 r14 rr x.1 x.2.1 x.2.2) y.1 y.2=some r) (fun y=>y.1) (N,((c1.fResults.length:Int),0,([]:List (Int×LadderResult)))) h (Sub.eq rfl ?_ ?_) ?_
        ·(repeat ((conv=>whnf);refine nr ?_));exact trivial
        ·(iterate 2 ((conv=>whnf);refine no ?_));exact trivial
        ·rintro⟨n4,⟨v131,v132,m18⟩⟩ hl4;obtain⟨n4,rfl,hl4⟩:=ar hl4;replace hl4:yD N c1 r14 (aj (fun rr x=>yD N c1 r14 rr x.1 x.2.1 x.2.2) n4) v131 v132 m18=some r:=hl4;rw[yD]at hl4;refine wB (fun hc84=>?_) (fun hc84=>?_)
         ·replace hl4:=af hc84 hl4;obtain⟨x48,hx212,hl4⟩:=ab hl4;(conv=>whnf);refine Side.mk rfl ⟨_,aC hx212,ak _ hx212,?_⟩;(conv=>whnf);intro b336;refine ws ?_;obtain⟨is191,hx217,hl4⟩:=ab hl4;(conv=>whnf)
          refine SeqG.mk Unit (fun y=>[(6,.ptr 320040 b180 0),(8,.ptr 320008 b336 0),(10,.d (.bool is191)),(42,.d (.list 3 (List.map LadderResult.enc c1.fResults))),(43,.d (I v131)),(44,.d (I v132))]) (fun y=>[(320040,.cells b180 [.d (.int .u8 c1.fForm),.d (I c1.fPlayers),.d (I c1.fGames),.d (.list 3 (List.map LadderResult.enc c1.fResults)),.d (.list 4 (List.map LadderPair.enc r14)),.mp 320038 b179,.nils 2]),(320008,.cells b336 [.d (I x48.fMatch),.d (.list 1 (List.map I x48.fGames)),.d (.bool x48.fProtested)]),(320038,.map b179 (List.map eMR m18))]) (fun _=>True) ?_ ?_
          ·obtain⟨⟨v140,is192⟩,hx218,hx217⟩:=ab hx217;(conv=>whnf);refine DrawG.mk (.take 0 (.take 1 (.take 2 (.take 3 (.take 4 (.take 5 (.alt 6 [4,2,1,0] (.take 7 (.take 8 (.take 9 (.alt 10 [9,8,7,4,2,1,0] (.alt 11 [9] (.take 12 .done) .nil) .nil)))) (.alt 10 [5,4,3,2,1,0] (.alt 6 [4,2,1,0] (.take 7 (.take 8 (.take 9 (.alt 11 [9] (.take 12 .done) .nil)))) .nil) .nil)))))))) (by kernel_rfl) ?_;(iterate 2 refine ws ?_);(conv=>whnf);refine Both.mk ?_ ?_
           ·(conv=>whnf);refine Side.mk rfl (Need.mk rfl (Need.mk (bd (m:=m18) (fun x:Int=>I x) (fun x:LadderResult=>.agg [I x.fMatch,.list 1 (List.map I x.fGames),.bool x.fProtested]) fun _=>rfl) (LkG.mk (.agg [I v140.fMatch,.list 1 (List.map I v140.fGames),.bool v140.fProtested]) is192 (ji (eK:=(fun x:Int=>I x)) (eV:=(fun x:LadderResult=>.agg [I x.fMatch,.list 1 (List.map I x.fGames),.bool x.fProtested])) jg hx218) (jj (eK:=(fun x:Int=>I x)) (eV:=(fun x:LadderResult=>.agg [I x.fMatch,.list 1 (List.map I x.fGames),.bool x.fProtested])) jg hx218) ?_)));(iterate 4 refine wl ?_);refine wb ?_;(conv=>whnf);intro b347;(iterate 3 refine wl ?_);refine wl ?_
            (iterate 3 refine wl ?_);refine wb ?_;refine ws ?_;refine wl ?_;cases hx217;(conv=>whnf);exact⟨(),trivial,kW⟩
           ·refine wb ?_;(conv=>whnf);intro b348;refine ws ?_;(iterate 2 refine wl ?_);refine ws ?_;(iterate 4 refine wl ?_);refine wb ?_;(conv=>whnf)
            refine Side.mk rfl (Need.mk rfl (Need.mk (bd (m:=m18) (fun x:Int=>I x) (fun x:LadderResult=>.agg [I x.fMatch,.list 1 (List.map I x.fGames),.bool x.fProtested]) fun _=>rfl) (LkG.mk (.agg [I v140.fMatch,.list 1 (List.map I v140.fGames),.bool v140.fProtested]) is192 (ji (eK:=(fun x:Int=>I x)) (eV:=(fun x:LadderResult=>.agg [I x.fMatch,.list 1 (List.map I x.fGames),.bool x.fProtested])) jg hx218) (jj (eK:=(fun x:Int=>I x)) (eV:=(fun x:LadderResult=>.agg [I x.fMatch,.list 1 (List.map I x.fGames),.bool x.fProtested])) jg hx218) ?_)));(iterate 4 refine wl ?_);refine wb ?_;refine ws ?_;refine wl ?_;cases hx217;(conv=>whnf);exact⟨(),trivial,kW⟩
          ·rintro _ _;refine wB (fun hc88=>?_) (fun hc88=>?_)
           ·replace hl4:=af hc88 hl4;(conv=>whnf);cases hl4;exact⟨_,⟨(),trivial,rfl,rfl⟩,aA (ren:=id) trivial⟩
           ·replace hl4:=ag hc88 hl4;(conv=>whnf);refine DrawG.mk (.take 0 (.take 1 (.take 2 (.take 3 (.take 4 (.take 5 (.take 6 (.alt 7 [] .done .nil)))))))) (by kernel_rfl) ?_;(iterate 3 refine ws ?_);refine wb ?_;(conv=>whnf);refine Side.mk rfl (Need.mk rfl (Need.mk (bd (m:=m18) (fun x:Int=>I x) (fun x:LadderResult=>.agg [I x.fMatch,.list 1 (List.map I x.fGames),.bool x.fProtested]) fun _=>rfl) (MEqv.mk (List.map (fun p:Int×LadderResult=>(I p.1,.agg [I p.2.fMatch,.list 1 (List.map I p.2.fGames),.bool p.2.fProtested])) (mput m18 x48.fMatch x48)) (fS (eK:=(fun x:Int=>I x)) (eV:=(fun x:LadderResult=>.agg [I x.fMatch,.list 1 (List.map I x.fGames),.bool x.fProtested])) jg m18 x48.fMatch x48) ?_)));(conv=>whnf)
            exact⟨(n4,(v131,w64 (v132+1),(mput m18 x48.fMatch x48))),hl4,kW,Nat.lt_succ_self _⟩
         ·replace hl4:=ag hc84 hl4;(conv=>whnf);exact⟨m18,hl4,kW⟩
       ·clear h;rintro m14 h;unfold yT at h;obtain⟨⟨ra8,rb8,rc8,rd8,re8,rf8,rg8⟩,hx170,h⟩:=ab h;(conv=>whnf);refine CallG.own (iA (bo1:=b180) (bo2:=b179) hN hx170) id [] _ (fun y=>[(320040,.cells b180 (cD rb8 rc8 rd8 re8 rf8 320038 b179 1465055 y)),(320038,.map b179 (List.map eMR m14)),(1465055,.arr y 64 2 false (List.map eA2 rg8))]) (ac _) (ai (ai trivial)) rfl (ai (ai trivial)) trivial (fun _=>AV.le_refl _) (fun _=>rfl) ?_;rintro hd8 _;refine wB (fun hc70=>?_) (fun hc70=>?_)
        ·replace h:=af hc70 h;(conv=>whnf);cases h;exact⟨_,⟨(),trivial,rfl,rfl⟩,aA (ren:=id) trivial⟩
        ·replace h:=ag hc70 h;(conv=>whnf);cases h;exact⟨_,⟨(b180,b179,hd8),trivial,rfl,rfl⟩,aA (ren:=id) (ai (ai (ai trivial)))⟩
theorem Ad{N:Nat}(hN:N≤1073741824){c1:Int}{c2:Int}{c3:Int}{c4:List LadderResult}{c5:List LadderPair}{m1:List (Int×LadderResult)}{l1:List (Ar2 Int)}{bo1:Nat}{bo2:Nat}{ho1:Value}{r:Unit}(h:yQ N c1 c2 c3 c4 c5 m1 l1=some r) :
    ACalls Tryz.prog 211 [.ptr 320040 bo1 0] [(320040,.cells bo1 (cD c1 c2 c3 c4 c5 320038 bo2 1465055 ho1)),(320038,.map bo2 (List.map eMR m1)),(1465055,.arr ho1 64 2 false (List.map eA2 l1))] fun ae os=>∃y:Nat,True∧ae=.ret (.fn (.func 227) [] [.ptr 3060001 y 0])∧os=[(320040,.cells bo1 (cD c1 c2 c3 c4 c5 320038 bo2 1465055 ho1)),(320038,.map bo2 (List.map eMR m1)),(1465055,.arr ho1 64 2 false (List.map eA2 l1)),(3060001,.cells y [.ptr 320040 bo1 0])]:=by
  refine aJ (fresh:=false) al ap ⟨[],[],[],[],[],3060000,[]⟩ Tryz.func211 rfl Tryz.call211 rfl ?_
  unfold yQ at h
  (conv=>whnf);intro b2;(conv=>whnf)
  all_goals cases h
  all_goals exact⟨b2,trivial,rfl,aA (ren:=id) (ai (ai (ai (ai trivial))))⟩
end Go.Proofs.YtfnicgdcofjlpaaGreatDoor
