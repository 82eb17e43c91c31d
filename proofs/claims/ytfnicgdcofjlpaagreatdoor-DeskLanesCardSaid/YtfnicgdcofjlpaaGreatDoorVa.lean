/-
  Walks: what the typed functions compute, the program’s functions return.
-/
import Derived.Test.YtfnicgdcofjlpaaGreatDoorWe
namespace Go.Proofs.YtfnicgdcofjlpaaGreatDoor
open Go Go.Abs Go.Kp
set_option maxRecDepth 100000
set_option maxHeartbeats 8000000
set_option linter.all false
theorem sf{N:Nat}(hN:N≤1073741824){lines1:List (List UInt8)}{r:Bool}(h:j0 N lines1=some r) :
    ACalls Tryz.prog 4 [.d (.list 1 (List.map D.str lines1))] [] fun e os=>e=.ret (.d (.bool r))∧os=[]:=by
  refine ah (fresh:=false) al ap ⟨[],[],[],[],[2,1001],0,[]⟩ Tryz.func4 rfl Tryz.call4 rfl ?_
  unfold j0 at h
  (conv=>whnf);refine SeqG.mk Unit (fun y=>[(0,.d (.list 1 (List.map D.str lines1)))]) (fun y=>[]) (fun y=>iN N lines1=some r) ?_ ?_
  ·(conv=>whnf);refine LoopG.mk (Nat×Int) (fun y=>[(0,.d (.list 1 (List.map D.str lines1))),(3,.d (I y.2))]) (fun y=>[]) (fun y=>aj (fun rr x=>bK N lines1 rr x) y.1 y.2=some r) (fun y=>y.1) (N,0) h (Sub.eq rfl ?_ ?_) ?_
   ·(repeat ((conv=>whnf);refine nr ?_));exact trivial
   ·exact trivial
   ·rintro⟨n2,i8⟩ hl2;obtain⟨n2,rfl,hl2⟩:=ar hl2;replace hl2:bK N lines1 (aj (fun rr x=>bK N lines1 rr x) n2) i8=some r:=hl2;rw[bK]at hl2;obtain⟨v24,hx32,hl2⟩:=ab hl2;(conv=>whnf);refine SeqG.mk Unit (fun y=>[(0,.d (.list 1 (List.map D.str lines1))),(3,.d (I i8)),(11,.d (.bool v24))]) (fun y=>[]) (fun _=>True) ?_ ?_
    ·(conv=>whnf);refine LnA.mk _ (List.length_map _) ?_;refine wB (fun hc45=>?_) (fun hc45=>?_)
     ·replace hx32:=af hc45 hx32;cases hx32;(conv=>whnf);exact⟨(),trivial,kW⟩
     ·replace hx32:=ag hc45 hx32;cases hx32;(conv=>whnf);exact⟨(),trivial,kW⟩
    ·rintro _ _;refine wB (fun hc46=>?_) (fun hc46=>?_)
     ·replace hl2:=af hc46 hl2;obtain⟨x24,hx36,hl2⟩:=ab hl2;(conv=>whnf);refine Side.mk rfl ⟨_,aC hx36,ak _ hx36,?_⟩;refine wB (fun hc48=>?_) (fun hc48=>?_)
      ·replace hl2:=af hc48 hl2;(conv=>whnf);cases hl2;exact rfl
      ·replace hl2:=ag hc48 hl2;(conv=>whnf);exact⟨(n2,w64 (i8+1)),hl2,kW,Nat.lt_succ_self _⟩
     ·replace hl2:=ag hc46 hl2;(conv=>whnf);exact⟨(),hl2,kW⟩
  ·clear h;rintro _ h;unfold iN at h;(conv=>whnf);refine LnA.mk _ (List.length_map _) ?_;(conv=>whnf);cases h;exact rfl
theorem rm{N:Nat}(hN:N≤1073741824){lines1:List (List UInt8)}{r:Bool}(h:gz N lines1=some r) :
    ACalls Tryz.prog 5 [.d (.list 1 (List.map D.str lines1))] [] fun e os=>e=.ret (.d (.bool r))∧os=[]:=by
  refine ah (fresh:=false) al ap ⟨[],[],[],[],[1001],0,[]⟩ Tryz.func5 rfl Tryz.call5 rfl ?_
  unfold gz at h
  (conv=>whnf);refine SeqG.mk Unit (fun y=>[(0,.d (.list 1 (List.map D.str lines1)))]) (fun y=>[]) (fun y=>fc N lines1=some r) ?_ ?_
  ·(conv=>whnf);refine LoopG.mk (Nat×Int) (fun y=>[(0,.d (.list 1 (List.map D.str lines1))),(3,.d (I y.2))]) (fun y=>[]) (fun y=>aj (fun rr x=>bf N lines1 rr x) y.1 y.2=some r) (fun y=>y.1) (N,0) h (Sub.eq rfl ?_ ?_) ?_
   ·(repeat ((conv=>whnf);refine nr ?_));exact trivial
   ·exact trivial
   ·rintro⟨n2,i8⟩ hl2;obtain⟨n2,rfl,hl2⟩:=ar hl2;replace hl2:bf N lines1 (aj (fun rr x=>bf N lines1 rr x) n2) i8=some r:=hl2;rw[bf]at hl2;(conv=>whnf);refine LnA.mk _ (List.length_map _) ?_;refine wB (fun hc22=>?_) (fun hc22=>?_)
    ·replace hl2:=af hc22 hl2;obtain⟨x24,hx24,hl2⟩:=ab hl2;(conv=>whnf);refine Side.mk rfl ⟨_,aC hx24,ak _ hx24,?_⟩;refine wB (fun hc24=>?_) (fun hc24=>?_)
     ·replace hl2:=af hc24 hl2;(conv=>whnf);cases hl2;exact rfl
     ·replace hl2:=ag hc24 hl2;(conv=>whnf);exact⟨(n2,w64 (i8+1)),hl2,kW,Nat.lt_succ_self _⟩
    ·replace hl2:=ag hc22 hl2;(conv=>whnf);exact⟨(),hl2,kW⟩
  ·clear h;rintro _ h;unfold fc at h;(conv=>whnf);refine LnA.mk _ (List.length_map _) ?_;(conv=>whnf);cases h;exact rfl
theorem i6{N:Nat}(hN:N≤1073741824) {r:(List (List UInt8))}(h:gl N=some r) :
    ACalls Tryz.prog 11 [] [] fun e os=>∃hd,e=.ret (.sl 0 hd)∧os=[(0,.arr hd 9 1 false (List.map D.str r))]:=by
  refine gk al ap ⟨[],[],[],[],[],0,[]⟩ Tryz.func11 rfl Tryz.call11 rfl ?_
  unfold gl at h
  (conv=>whnf);intro hd2;(conv=>whnf);cases h;exact⟨_,_,rfl,rfl⟩
theorem mD{N:Nat}(hN:N≤1073741824){l1:Int}{s1:List UInt8}{r:Bool}(h:gA N l1 s1=some r) :
    ACalls Tryz.prog 48 [.d (I l1),.d (.str s1)] [] fun e os=>e=.ret (.d (.bool r))∧os=[]:=by
  refine ah (fresh:=false) al ap ⟨[],[],[],[],[],0,[]⟩ Tryz.func48 rfl Tryz.call48 rfl ?_
  unfold gA at h
  (conv=>whnf);cases h;exact rfl
theorem uj{N:Nat}(hN:N≤1073741824){x1:List UInt8}{a1:Int}{r:Bool}(h:kV N x1 a1=some r) :
    ACalls Tryz.prog 69 [.d (.str x1),.d (.ref (.agg [.fn (.func 48) [I a1] []]))] [] fun e os=>e=.ret (.d (.bool r))∧os=[]:=by
  refine ah (fresh:=false) al ap ⟨[],[],[],[],[],0,[]⟩ Tryz.func69 rfl Tryz.call69 rfl ?_
  unfold kV at h
  obtain⟨r2,hx2,h⟩:=ab h;(conv=>whnf);refine CallG.pure _ (mD hN hx2) ?_;(conv=>whnf);cases h;exact rfl
theorem lV{N:Nat}(hN:N≤1073741824){s1:List (List UInt8)}{f1:Int}{r:Int}(h:fU N s1 f1=some r) :
    ACalls Tryz.prog 96 [.d (.list 1 (List.map D.str s1)),.d (.fn (.func 69) [] [.ref (.agg [.fn (.func 48) [I f1] []])])] [] fun e os=>e=.ret (.d (I r))∧os=[]:=by
  refine ah (fresh:=false) al ap ⟨[],[],[],[],[1001],0,[]⟩ Tryz.func96 rfl Tryz.call96 rfl ?_
  unfold fU at h
  (conv=>whnf);refine SeqG.mk Unit (fun y=>[]) (fun y=>[]) (fun y=>dX N=some r) ?_ ?_
  ·(conv=>whnf);refine LnA.mk _ (List.length_map _) ?_;(conv=>whnf);refine LoopG.mk (Nat×(Int×Int)) (fun y=>[(0,.d (.list 1 (List.map D.str s1))),(1,.d (.fn (.func 69) [] [.ref (.agg [.fn (.func 48) [I f1] []])])),(7,.d (I y.2.1)),(8,.d (I y.2.2))]) (fun y=>[]) (fun y=>aj (fun rr x=>bQ N s1 f1 rr x.1 x.2) y.1 y.2=some r) (fun y=>y.1) (N,((s1.length:Int),0)) h (Sub.eq rfl ?_ ?_) ?_
   ·(repeat ((conv=>whnf);refine nr ?_));exact trivial
   ·exact trivial
   ·rintro⟨n2,⟨v17,v18⟩⟩ hl2;obtain⟨n2,rfl,hl2⟩:=ar hl2;replace hl2:bQ N s1 f1 (aj (fun rr x=>bQ N s1 f1 rr x.1 x.2) n2) v17 v18=some r:=hl2;rw[bQ]at hl2;refine wB (fun hc22=>?_) (fun hc22=>?_)
    ·replace hl2:=af hc22 hl2;obtain⟨x24,hx47,hl2⟩:=ab hl2;(conv=>whnf);refine Side.mk rfl ⟨_,aC hx47,ak _ hx47,?_⟩;obtain⟨r24,hx48,hl2⟩:=ab hl2;(conv=>whnf);refine CallG.pure _ (uj hN hx48) ?_;refine wB (fun hc24=>?_) (fun hc24=>?_)
     ·replace hl2:=af hc24 hl2;(conv=>whnf);cases hl2;exact rfl
     ·replace hl2:=ag hc24 hl2;(conv=>whnf);exact⟨(n2,(v17,w64 (v18+1))),hl2,kW,Nat.lt_succ_self _⟩
    ·replace hl2:=ag hc22 hl2;(conv=>whnf);exact⟨(),hl2,kW⟩
  ·clear h;rintro _ h;unfold dX at h;(conv=>whnf);cases h;exact rfl
theorem j5{N:Nat}(hN:N≤1073741824){s1:List (List UInt8)}{f1:Int}{r:Bool}(h:dY N s1 f1=some r) :
    ACalls Tryz.prog 68 [.d (.list 1 (List.map D.str s1)),.d (.fn (.func 69) [] [.ref (.agg [.fn (.func 48) [I f1] []])])] [] fun e os=>e=.ret (.d (.bool r))∧os=[]:=by
  refine ah (fresh:=false) al ap ⟨[],[],[],[],[],0,[]⟩ Tryz.func68 rfl Tryz.call68 rfl ?_
  unfold dY at h
  obtain⟨r2,hx2,h⟩:=ab h;(conv=>whnf);refine CallG.pure _ (lV hN hx2) ?_;(conv=>whnf);cases h;exact rfl
theorem vK{N:Nat}(hN:N≤1073741824){l1:List (List UInt8)}{right1:Int}{r:Bool}(h:mV N l1 right1=some r) :
    ACalls Tryz.prog 49 [.d (.list 1 (List.map D.str l1)),.d (.fn (.func 48) [I right1] [])] [] fun e os=>e=.ret (.d (.bool r))∧os=[]:=by
  refine ah (fresh:=false) al ap ⟨[3],[],[],[],[],0,[]⟩ Tryz.func49 rfl Tryz.call49 rfl ?_
  unfold mV at h
  obtain⟨r2,hx2,h⟩:=ab h;(conv=>whnf);refine CallG.pure _ (j5 hN hx2) ?_;(conv=>whnf);cases h;exact rfl
theorem gP{N:Nat}(hN:N≤1073741824){lines1:List (List UInt8)}{r:Int}(h:dw N lines1=some r) :
    ACalls Tryz.prog 23 [.d (.list 1 (List.map D.str lines1))] [] fun e os=>e=.ret (.d (I r))∧os=[]:=by
  refine ah (fresh:=false) al ap ⟨[],[],[],[],[2],0,[]⟩ Tryz.func23 rfl Tryz.call23 rfl ?_
  unfold dw at h
  obtain⟨v4,hx5,h⟩:=ab h;(conv=>whnf);refine SeqG.mk Unit (fun y=>[(13,.d (.bool v4))]) (fun y=>[]) (fun _=>True) ?_ ?_
  ·(conv=>whnf);refine LnA.mk _ (List.length_map _) ?_;refine wB (fun hc5=>?_) (fun hc5=>?_)
   ·replace hx5:=ag hc5 hx5;obtain⟨r4,hx6,hx5⟩:=ab hx5;(conv=>whnf);refine CallG.pure _ (vK hN hx6) ?_;cases hx5;(conv=>whnf);exact⟨(),trivial,kW⟩
   ·replace hx5:=af hc5 hx5;cases hx5;(conv=>whnf);exact⟨(),trivial,kW⟩
  ·rintro _ _;refine wB (fun hc6=>?_) (fun hc6=>?_)
   ·replace h:=af hc6 h;(conv=>whnf);cases h;exact rfl
   ·replace h:=ag hc6 h;(conv=>whnf);cases h;exact rfl
theorem sg{N:Nat}(hN:N≤1073741824) {r:DeskWork}(h:lG N=some r) :
    ACalls Tryz.prog 50 [] [] fun ae os=>∃y:Nat,True∧ae=.ret (.ptr 255003 y 0)∧os=[(255003,.cells y (cW r))]:=by
  refine aJ (fresh:=false) al ap ⟨[],[],[100255003],[],[],255000,[]⟩ Tryz.func50 rfl Tryz.call50 rfl ?_
  unfold lG at h
  (conv=>whnf);intro b2;(conv=>whnf);refine LoopG.unr 5 ?_;refine ws ?_;(conv=>whnf);intro hd19;obtain⟨l10,hx10,h⟩:=ab h;(conv=>whnf);refine Side.mk ⟨rfl,rfl⟩ ?_;(conv=>whnf);refine Need.mk (j2 (f:=DeskLane.enc) hN hx10 (by decide)) (Eqv.mk (List.map DeskLane.enc l10) (kZ DeskLane.enc hx10) ?_);(conv=>whnf);intro hd20;(iterate 2 refine ws ?_);(conv=>whnf);intro hd23;obtain⟨l12,hx12,h⟩:=ab h;(conv=>whnf);refine Side.mk ⟨rfl,rfl⟩ ?_;(conv=>whnf);refine Side.mk ⟨rfl,rfl,rfl⟩ (Need.mk (aD hN hx12 (by decide)) (Eqv.mk (List.map DeskLane.enc l12) (aH _ hx12) ?_));(conv=>whnf);intro hd24;(iterate 2 refine ws ?_);(conv=>whnf);intro hd27;obtain⟨l14,hx14,h⟩:=ab h;(conv=>whnf);refine Side.mk ⟨rfl,rfl⟩ ?_;(conv=>whnf)
  refine Side.mk ⟨rfl,rfl,rfl⟩ (Need.mk (aD hN hx14 (by decide)) (Eqv.mk (List.map DeskLane.enc l14) (aH _ hx14) ?_));(conv=>whnf);intro hd28;(iterate 2 refine ws ?_);(conv=>whnf);intro hd31;obtain⟨l16,hx16,h⟩:=ab h;(conv=>whnf);refine Side.mk ⟨rfl,rfl⟩ ?_;(conv=>whnf);refine Side.mk ⟨rfl,rfl,rfl⟩ (Need.mk (aD hN hx16 (by decide)) (Eqv.mk (List.map DeskLane.enc l16) (aH _ hx16) ?_));(conv=>whnf);intro hd32;(iterate 3 refine ws ?_);(conv=>whnf);cases h;exact⟨b2,trivial,rfl,aA (ren:=id) (ai trivial)⟩
theorem pj{N:Nat}(hN:N≤1073741824) {r:(List (List UInt8×DeskAct))}(h:nD N=some r) :
    ACalls Tryz.prog 98 [] [] fun ae os=>∃y:Nat,True∧ae=.ret (.mp 495001 y)∧os=[(495001,.map y (List.map (fun p=>(.str p.1,.agg [I p.2.fMany,xT p.2.fDo])) r))]:=by
  refine aJ (fresh:=false) al ap ⟨[],[],[],[],[],495000,[]⟩ Tryz.func98 rfl Tryz.call98 rfl ?_
  unfold nD at h
  (conv=>whnf);intro b2;(conv=>whnf);refine Side.mk rfl (Need.mk rfl (Need.mk (bd (m:=([]:List (List UInt8×DeskAct))) (fun x:List UInt8=>.str x) (fun x:DeskAct=>.agg [I x.fMany,xT x.fDo]) fun _=>rfl) (MEqv.mk (List.map (fun p:(List UInt8)×DeskAct=>(.str p.1,.agg [I p.2.fMany,xT p.2.fDo])) aM1) (fS (eK:=(fun x:List UInt8=>.str x)) (eV:=(fun x:DeskAct=>.agg [I x.fMany,xT x.fDo])) cM (([]:List (List UInt8×DeskAct))) ([98,111,119,108,101,114]:List UInt8) (DeskAct.mk 1 0)) ?_)));(conv=>whnf)
  refine Side.mk rfl (Need.mk rfl (Need.mk (bd (m:=aM1) (fun x:List UInt8=>.str x) (fun x:DeskAct=>.agg [I x.fMany,xT x.fDo]) fun _=>rfl) (MEqv.mk (List.map (fun p:(List UInt8)×DeskAct=>(.str p.1,.agg [I p.2.fMany,xT p.2.fDo])) aM2) (fS (eK:=(fun x:List UInt8=>.str x)) (eV:=(fun x:DeskAct=>.agg [I x.fMany,xT x.fDo])) cM aM1 ([111,112,101,110]:List UInt8) (DeskAct.mk 2 1)) ?_)));(conv=>whnf)
  refine Side.mk rfl (Need.mk rfl (Need.mk (bd (m:=aM2) (fun x:List UInt8=>.str x) (fun x:DeskAct=>.agg [I x.fMany,xT x.fDo]) fun _=>rfl) (MEqv.mk (List.map (fun p:(List UInt8)×DeskAct=>(.str p.1,.agg [I p.2.fMany,xT p.2.fDo])) aM3) (fS (eK:=(fun x:List UInt8=>.str x)) (eV:=(fun x:DeskAct=>.agg [I x.fMany,xT x.fDo])) cM aM2 ([98,97,108,108]:List UInt8) (DeskAct.mk 2 2)) ?_)))
  (conv=>whnf)
  refine Side.mk rfl (Need.mk rfl (Need.mk (bd (m:=aM3) (fun x:List UInt8=>.str x) (fun x:DeskAct=>.agg [I x.fMany,xT x.fDo]) fun _=>rfl) (MEqv.mk (List.map (fun p:(List UInt8)×DeskAct=>(.str p.1,.agg [I p.2.fMany,xT p.2.fDo])) aM4) (fS (eK:=(fun x:List UInt8=>.str x)) (eV:=(fun x:DeskAct=>.agg [I x.fMany,xT x.fDo])) cM aM3 ([98,97,99,107]:List UInt8) (DeskAct.mk 1 3)) ?_)))
  (conv=>whnf)
  refine Side.mk rfl (Need.mk rfl (Need.mk (bd (m:=aM4) (fun x:List UInt8=>.str x) (fun x:DeskAct=>.agg [I x.fMany,xT x.fDo]) fun _=>rfl) (MEqv.mk (List.map (fun p:(List UInt8)×DeskAct=>(.str p.1,.agg [I p.2.fMany,xT p.2.fDo])) aM5) (fS (eK:=(fun x:List UInt8=>.str x)) (eV:=(fun x:DeskAct=>.agg [I x.fMany,xT x.fDo])) cM aM4 ([99,108,111,115,101]:List UInt8) (DeskAct.mk 1 4)) ?_)))
  (conv=>whnf)
  refine Side.mk rfl (Need.mk rfl (Need.mk (bd (m:=aM5) (fun x:List UInt8=>.str x) (fun x:DeskAct=>.agg [I x.fMany,xT x.fDo]) fun _=>rfl) (MEqv.mk (List.map (fun p:(List UInt8)×DeskAct=>(.str p.1,.agg [I p.2.fMany,xT p.2.fDo])) aM6) (fS (eK:=(fun x:List UInt8=>.str x)) (eV:=(fun x:DeskAct=>.agg [I x.fMany,xT x.fDo])) cM aM5 ([115,104,101,101,116]:List UInt8) (DeskAct.mk 2 5)) ?_)))
  (conv=>whnf)
  refine Side.mk rfl (Need.mk rfl (Need.mk (bd (m:=aM6) (fun x:List UInt8=>.str x) (fun x:DeskAct=>.agg [I x.fMany,xT x.fDo]) fun _=>rfl) (MEqv.mk (List.map (fun p:(List UInt8)×DeskAct=>(.str p.1,.agg [I p.2.fMany,xT p.2.fDo])) aM7) (fS (eK:=(fun x:List UInt8=>.str x)) (eV:=(fun x:DeskAct=>.agg [I x.fMany,xT x.fDo])) cM aM6 ([115,116,114,105,107,101]:List UInt8) (DeskAct.mk 1 6)) ?_)))
  (conv=>whnf)
  refine Side.mk rfl (Need.mk rfl (Need.mk (bd (m:=aM7) (fun x:List UInt8=>.str x) (fun x:DeskAct=>.agg [I x.fMany,xT x.fDo]) fun _=>rfl) (MEqv.mk (List.map (fun p:(List UInt8)×DeskAct=>(.str p.1,.agg [I p.2.fMany,xT p.2.fDo])) aM8) (fS (eK:=(fun x:List UInt8=>.str x)) (eV:=(fun x:DeskAct=>.agg [I x.fMany,xT x.fDo])) cM aM7 ([100,117,101,108]:List UInt8) (DeskAct.mk 1 7)) ?_)))
  (conv=>whnf)
  refine Side.mk rfl (Need.mk rfl (Need.mk (bd (m:=aM8) (fun x:List UInt8=>.str x) (fun x:DeskAct=>.agg [I x.fMany,xT x.fDo]) fun _=>rfl) (MEqv.mk (List.map (fun p:(List UInt8)×DeskAct=>(.str p.1,.agg [I p.2.fMany,xT p.2.fDo])) aM9) (fS (eK:=(fun x:List UInt8=>.str x)) (eV:=(fun x:DeskAct=>.agg [I x.fMany,xT x.fDo])) cM aM8 ([100,111,117,98,116]:List UInt8) (DeskAct.mk 1 8)) ?_)))
  (conv=>whnf);cases h;exact⟨b2,trivial,rfl,aA (ren:=id) (ai trivial)⟩
def vL  : DeskRefusal⊕Unit→AE→List (Nat×Ob)→Prop
  | .inl r=>fun ae os=>∃y:Unit,True∧ae=.pan (.ifc 153 (.agg [I r.fE]))∧os=[]
  | .inr r=>fun ae os=>∃y:Unit,True∧ae=.ret (.d (.tup []))∧os=[]
theorem aI{N:Nat}(hN:N≤1073741824){is1:Bool}{e1:Int}{r:DeskRefusal⊕Unit}(h:b7 N is1 e1=some r) :
    ACalls Tryz.prog 99 [.d (.bool is1),.d (I e1)] [] (vL  r):=by
  refine bt (fresh:=false) al ap ⟨[],[],[],[],[],0,[]⟩ Tryz.func99 rfl Tryz.call99 rfl ?_
  unfold b7 at h
  refine wB (fun hc1=>?_) (fun hc1=>?_)
  ·replace h:=af hc1 h;(conv=>whnf);cases h;exact⟨_,⟨(),trivial,rfl,rfl⟩,aA (ren:=id) trivial⟩
  ·replace h:=ag hc1 h;(conv=>whnf)
   all_goals cases h
   all_goals exact⟨_,⟨(),trivial,rfl,rfl⟩,aA (ren:=id) trivial⟩
def rn  : Int⊕DeskRefusal→AE→List (Nat×Ob)→Prop
  | .inl r=>fun ae os=>∃y:Unit,True∧ae=.ret (.d (I r))∧os=[]
  | .inr r=>fun ae os=>∃y:Unit,True∧ae=.pan (.ifc 153 (.agg [I r.fE]))∧os=[]
theorem mr{N:Nat}(hN:N≤1073741824){s1:List UInt8}{r:Int⊕DeskRefusal}(h:zH N s1=some r) :
    ACalls Tryz.prog 100 [.d (.str s1)] [] (rn  r):=by
  refine bt (fresh:=false) al ap ⟨[],[],[],[],[2],0,[]⟩ Tryz.func100 rfl Tryz.call100 rfl ?_
  unfold zH at h
  obtain⟨z2,hx2,h⟩:=ab h;rcases z2 with r3 | r4
  ·(conv=>whnf);refine CallG.own (mw hN hx2) id [] _ (fun y=>[]) (ac _) trivial rfl trivial trivial (fun _=>AV.le_refl _) (fun _=>rfl) ?_;rintro _ _;(conv=>whnf);refine SeqG.mk Unit (fun y=>[(3,.d (I r3))]) (fun y=>[]) (fun y=>fe N r3=some r) ?_ ?_
   ·obtain⟨r9,hx7,h⟩:=ab h;(conv=>whnf);refine CallG.pure _ (my hN hx7) ?_;refine wB (fun hc2=>?_) (fun hc2=>?_)
    ·replace h:=af hc2 h;obtain⟨r10,hx8,h⟩:=ab h;(conv=>whnf);refine CallG.pure _ (xn hN hx8) ?_;obtain⟨z5,hx9,h⟩:=ab h;rcases z5 with r11 | _
     ·(conv=>whnf);refine CallG.panic (aI hN hx9) id [] (fun y=>[]) (ac _) trivial rfl trivial trivial (fun _=>rfl) ?_;rintro _ _;(conv=>whnf);cases h;exact⟨_,⟨(),trivial,rfl,rfl⟩,aA (ren:=id) trivial⟩
     ·(conv=>whnf);refine CallG.own (aI hN hx9) id [] _ (fun y=>[]) (ac _) trivial rfl trivial trivial (fun _=>AV.le_refl _) (fun _=>rfl) ?_;rintro _ _;(conv=>whnf);exact⟨(),h,kW⟩
    ·replace h:=ag hc2 h;obtain⟨z6,hx10,h⟩:=ab h;rcases z6 with r12 | _
     ·(conv=>whnf);refine CallG.panic (aI hN hx10) id [] (fun y=>[]) (ac _) trivial rfl trivial trivial (fun _=>rfl) ?_;rintro _ _;(conv=>whnf);cases h;exact⟨_,⟨(),trivial,rfl,rfl⟩,aA (ren:=id) trivial⟩
     ·(conv=>whnf);refine CallG.own (aI hN hx10) id [] _ (fun y=>[]) (ac _) trivial rfl trivial trivial (fun _=>AV.le_refl _) (fun _=>rfl) ?_;rintro _ _;(conv=>whnf);exact⟨(),h,kW⟩
   ·clear h;rintro _ h;unfold fe at h;(conv=>whnf);cases h;exact⟨_,⟨(),trivial,rfl,rfl⟩,aA (ren:=id) trivial⟩
  ·(conv=>whnf);refine CallG.own (mw hN hx2) id [] _ (fun y=>[]) (ac _) trivial rfl trivial trivial (fun _=>AV.le_refl _) (fun _=>rfl) ?_;rintro _ _;(conv=>whnf);refine SeqG.mk Unit (fun y=>[(3,.d (I r4))]) (fun y=>[]) (fun y=>gY N r4=some r) ?_ ?_
   ·obtain⟨z8,hx12,h⟩:=ab h;rcases z8 with r14 | _
    ·(conv=>whnf);refine CallG.panic (aI hN hx12) id [] (fun y=>[]) (ac _) trivial rfl trivial trivial (fun _=>rfl) ?_;rintro _ _;(conv=>whnf);cases h;exact⟨_,⟨(),trivial,rfl,rfl⟩,aA (ren:=id) trivial⟩
    ·(conv=>whnf);refine CallG.own (aI hN hx12) id [] _ (fun y=>[]) (ac _) trivial rfl trivial trivial (fun _=>AV.le_refl _) (fun _=>rfl) ?_;rintro _ _;(conv=>whnf);exact⟨(),h,kW⟩
   ·clear h;rintro _ h;unfold gY at h;(conv=>whnf);cases h;exact⟨_,⟨(),trivial,rfl,rfl⟩,aA (ren:=id) trivial⟩
theorem fO{N:Nat}(hN:N≤1073741824){n1:Int}{low1:Int}{high1:Int}{r:Bool}(h:cJ N n1 low1 high1=some r) :
    ACalls Tryz.prog 26 [.d (I n1),.d (I low1),.d (I high1)] [] fun e os=>e=.ret (.d (.bool r))∧os=[]:=by
  refine ah (fresh:=false) al ap ⟨[],[],[],[],[1],0,[]⟩ Tryz.func26 rfl Tryz.call26 rfl ?_
  unfold cJ at h
  obtain⟨v2,hx1,h⟩:=ab h;(conv=>whnf);refine SeqG.mk Unit (fun y=>[(6,.d (.bool v2))]) (fun y=>[]) (fun _=>True) ?_ ?_
  ·refine wB (fun hc2=>?_) (fun hc2=>?_)
   ·replace hx1:=af hc2 hx1;cases hx1;(conv=>whnf);exact⟨(),trivial,kW⟩
   ·replace hx1:=ag hc2 hx1;cases hx1;(conv=>whnf);exact⟨(),trivial,kW⟩
  ·rintro _ _;(conv=>whnf);cases h;exact rfl
theorem oA{N:Nat}(hN:N≤1073741824) {r:Unit}(h:kX N=some r) :
    ACalls Tryz.prog 52 [.nils 1] [] fun e os=>e=.ret (.nils 1)∧os=[]:=by
  refine ah (fresh:=true) al ap ⟨[],[],[],[],[],0,[]⟩ Tryz.func52 rfl Tryz.call52 rfl ?_
  unfold kX at h
  (conv=>whnf)
  all_goals exact rfl
theorem oB{N:Nat}(hN:N≤1073741824){s1:List Int}{r:(List Int)}(h:gc N s1=some r) :
    ACalls Tryz.prog 52 [.nn 1 (List.map I s1)] [] fun e os=>∃hd,e=.ret (.sl 0 hd)∧os=[(0,.arr hd 3 1 false (List.map I r))]:=by
  refine gk al ap ⟨[],[],[],[],[],0,[]⟩ Tryz.func52 rfl Tryz.call52 rfl ?_
  unfold gc at h
  (conv=>whnf);intro hd3;obtain⟨l2,hx2,h⟩:=ab h;refine ws ?_;(conv=>whnf);refine Side.mk ⟨rfl,rfl,rfl⟩ (Need.mk (aD hN hx2 (by decide)) (Eqv.mk (List.map I l2) (aH _ hx2) ?_));(conv=>whnf);intro hd4;(conv=>whnf);cases h;exact⟨_,_,rfl,rfl⟩
theorem bB{N:Nat}(hN:N≤1073741824){l:List Int}{r:(List Int)}(h:cG N l=some r) :
    ACalls Tryz.prog 52 [.d (.list 1 (List.map I l))] [] fun e os=>∃hd,e=.ret (.sl 0 hd)∧os=[(0,.arr hd 3 1 false (List.map I r))]:=by
  unfold cG at h
  refine ACalls.nils_or (fun e=>?_) (oB hN h)
  have e2:=List.map_eq_nil_iff.1 e
  subst e2
  have e3:r=[]:=by simpa [gc,app]using h.symm
  subst e3
  exact ACalls.nil_own (oA hN (r:=()) rfl)
theorem lW{N:Nat}(hN:N≤1073741824){l1:List Int}{x1:Int}{r:(List Int)}(h:jw N l1 x1=some r) :
    ACalls Tryz.prog 173 [.d (.list 1 (List.map I l1)),.d (I x1)] [] fun e os=>e=.ret (.d (.list 1 (List.map I r)))∧os=[]:=by
  refine ah (fresh:=false) al ap ⟨[],[],[],[],[],0,[]⟩ Tryz.func173 rfl Tryz.call173 rfl ?_
  unfold jw at h
  obtain⟨r2,hx3,h⟩:=ab h;(conv=>whnf);refine CallG.fresh 6 (bB hN hx3) ?_;intro hd4;(conv=>whnf);intro hd5;obtain⟨l3,hx4,h⟩:=ab h;(conv=>whnf);refine Side.mk ⟨rfl,rfl⟩ ?_;(conv=>whnf);refine Side.mk ⟨rfl,rfl,rfl⟩ (Need.mk (aD hN hx4 (by decide)) (Eqv.mk (List.map I l3) (aH _ hx4) ?_));(conv=>whnf);intro hd6;refine ws ?_;(conv=>whnf);cases h;exact rfl
theorem nY{N:Nat}(hN:N≤1073741824) {r:Unit}(h:j8 N=some r) :
    ACalls Tryz.prog 180 [.nils 1] [] fun e os=>e=.ret (.nils 1)∧os=[]:=by
  refine ah (fresh:=true) al ap ⟨[],[],[],[],[],0,[]⟩ Tryz.func180 rfl Tryz.call180 rfl ?_
  unfold j8 at h
  (conv=>whnf)
  all_goals exact rfl
theorem nZ{N:Nat}(hN:N≤1073741824){s1:List (List Int)}{r:(List (List Int))}(h:ff N s1=some r) :
    ACalls Tryz.prog 180 [.nn 1 (List.map eL s1)] [] fun e os=>∃hd,e=.ret (.sl 0 hd)∧os=[(0,.arr hd 25 1 false (List.map eL r))]:=by
  refine gk al ap ⟨[],[],[],[],[],0,[]⟩ Tryz.func180 rfl Tryz.call180 rfl ?_
  unfold ff at h
  (conv=>whnf);intro hd3;obtain⟨l2,hx2,h⟩:=ab h;refine ws ?_;(conv=>whnf);refine Side.mk ⟨rfl,rfl,rfl⟩ (Need.mk (aD hN hx2 (by decide)) (Eqv.mk (List.map eL l2) (aH _ hx2) ?_));(conv=>whnf);intro hd4;(conv=>whnf);cases h;exact⟨_,_,rfl,rfl⟩
theorem j9{N:Nat}(hN:N≤1073741824){l:List (List Int)}{r:(List (List Int))}(h:gd N l=some r) :
    ACalls Tryz.prog 180 [.d (.list 1 (List.map eL l))] [] fun e os=>∃hd,e=.ret (.sl 0 hd)∧os=[(0,.arr hd 25 1 false (List.map eL r))]:=by
  unfold gd at h
  refine ACalls.nils_or (fun e=>?_) (nZ hN h)
  have e2:=List.map_eq_nil_iff.1 e
  subst e2
  have e3:r=[]:=by simpa [ff,app]using h.symm
  subst e3
  exact ACalls.nil_own (nY hN (r:=()) rfl)
theorem sh{N:Nat}(hN:N≤1073741824){l1:List (List Int)}{x1:List Int}{r:(List (List Int))}(h:lH N l1 x1=some r) :
    ACalls Tryz.prog 174 [.d (.list 1 (List.map eL l1)),.d (.list 1 (List.map I x1))] [] fun e os=>e=.ret (.d (.list 1 (List.map eL r)))∧os=[]:=by
  refine ah (fresh:=false) al ap ⟨[],[],[],[],[],0,[]⟩ Tryz.func174 rfl Tryz.call174 rfl ?_
  unfold lH at h
  obtain⟨r2,hx3,h⟩:=ab h;(conv=>whnf);refine CallG.fresh 6 (j9 hN hx3) ?_;intro hd4;(conv=>whnf);intro hd5;obtain⟨l3,hx4,h⟩:=ab h;(conv=>whnf);refine Side.mk ⟨rfl,rfl⟩ ?_;(conv=>whnf);refine Side.mk ⟨rfl,rfl,rfl⟩ (Need.mk (aD hN hx4 (by decide)) (Eqv.mk (List.map eL l3) (aH _ hx4) ?_));(conv=>whnf);intro hd6;refine ws ?_;(conv=>whnf);cases h;exact rfl
def mE (bo1:Nat):(DeskRefusal×DeskWork)⊕DeskWork→AE→List (Nat×Ob)→Prop
  | .inl r=>fun ae os=>∃y:Unit,True∧ae=.pan (.ifc 153 (.agg [I r.1.fE]))∧os=[(255003,.cells bo1 (cW r.2))]
  | .inr r=>fun ae os=>∃y:Unit,True∧ae=.ret (.d (.tup []))∧os=[(255003,.cells bo1 (cW r))]
theorem jm{N:Nat}(hN:N≤1073741824){n1:List Int}{c1:DeskWork}{bo1:Nat}{r:(DeskRefusal×DeskWork)⊕DeskWork}(h:gB N n1 c1=some r) :
    ACalls Tryz.prog 136 [.ptr 255003 bo1 0,.d (.list 1 (List.map I n1))] [(255003,.cells bo1 (cW c1))] (mE bo1 r):=by
  refine bt (fresh:=false) al ap ⟨[],[],[],[],[],260000,[]⟩ Tryz.func136 rfl Tryz.call136 rfl ?_
  unfold gB at h
  obtain⟨x2,hx4,h⟩:=ab h;(conv=>whnf);refine Side.mk rfl ⟨_,aC hx4,ak _ hx4,?_⟩;obtain⟨r3,hx5,h⟩:=ab h;(conv=>whnf);refine CallG.pure _ (fO hN hx5) ?_;obtain⟨z2,hx6,h⟩:=ab h;rcases z2 with r4 | _
  ·(conv=>whnf);refine CallG.panic (aI hN hx6) id [(255003,.cells bo1 (cW c1))] (fun y=>[(255003,.cells bo1 (cW c1))]) (ac _) trivial rfl trivial (ai trivial) (fun _=>rfl) ?_;rintro _ _
   (conv=>whnf);cases h;exact⟨_,⟨(),trivial,rfl,rfl⟩,aA (ren:=id) (ai trivial)⟩
  ·(conv=>whnf)
   refine CallG.own (aI hN hx6) id [(255003,.cells bo1 (cW c1))] _ (fun y=>[(255003,.cells bo1 (cW c1))]) (ac _) trivial rfl trivial (ai trivial) (fun _=>AV.le_refl _) (fun _=>rfl) ?_;rintro _ _
   refine ws ?_;(conv=>whnf);refine LnA.mk _ (List.length_map _) ?_;obtain⟨z4,hx8,h⟩:=ab h;rcases z4 with r6 | _
   ·(conv=>whnf);refine CallG.panic (aI hN hx8) id [(255003,.cells bo1 (cW c1))] (fun y=>[(255003,.cells bo1 (cW c1))]) (ac _) trivial rfl trivial (ai trivial) (fun _=>rfl) ?_;rintro _ _
    (conv=>whnf);cases h;exact⟨_,⟨(),trivial,rfl,rfl⟩,aA (ren:=id) (ai trivial)⟩
   ·(conv=>whnf)
    refine CallG.own (aI hN hx8) id [(255003,.cells bo1 (cW c1))] _ (fun y=>[(255003,.cells bo1 (cW c1))]) (ac _) trivial rfl trivial (ai trivial) (fun _=>AV.le_refl _) (fun _=>rfl) ?_;rintro _ _
    refine ws ?_;(conv=>whnf);refine LnA.mk _ (List.length_map _) ?_;obtain⟨z6,hx10,h⟩:=ab h;rcases z6 with r8 | _
    ·(conv=>whnf);refine CallG.panic (aI hN hx10) id [(255003,.cells bo1 (cW c1))] (fun y=>[(255003,.cells bo1 (cW c1))]) (ac _) trivial rfl trivial (ai trivial) (fun _=>rfl) ?_;rintro _ _
     (conv=>whnf);cases h;exact⟨_,⟨(),trivial,rfl,rfl⟩,aA (ren:=id) (ai trivial)⟩
    ·(conv=>whnf)
     refine CallG.own (aI hN hx10) id [(255003,.cells bo1 (cW c1))] _ (fun y=>[(255003,.cells bo1 (cW c1))]) (ac _) trivial rfl trivial (ai trivial) (fun _=>AV.le_refl _) (fun _=>rfl) ?_
     rintro _ _;(conv=>whnf);refine DrawG.mk (.take 0 (.take 1 (.take 2 (.take 3 (.take 4 (.take 5 (.take 6 (.take 7 (.take 8 (.take 9 (.take 11 (.take 12 (.take 13 (.take 14 (.take 15 (.alt 10 [15,14,13,12,11,8,7,5,4,3,2,1,0] (.alt 16 [14,13,12,11,8,7,5,4,3,2,1,0] (.take 17 (.take 18 (.take 19 (.alt 20 [18,17,14,13,12,11,1] (.take 21 (.take 22 (.take 23 (.alt 24 [22,21] .done .nil)))) .nil)))) .nil) .nil)))))))))))))))) (by kernel_rfl) ?_;refine ws ?_;(conv=>whnf);refine Side.mk rfl ⟨_,aC hx4,ak _ hx4,?_⟩;refine ws ?_;refine wb ?_;obtain⟨r9,hx11,h⟩:=ab h;(conv=>whnf);refine CallG.pure _ (lW hN hx11) ?_;refine ws ?_;(iterate 5 refine wl ?_);(conv=>whnf)
     refine Side.mk rfl ⟨_,aC hx4,ak _ hx4,?_⟩;(iterate 8 refine wl ?_);refine wb ?_;obtain⟨r10,hx12,h⟩:=ab h;(conv=>whnf);refine CallG.pure _ (sh hN hx12) ?_;(iterate 4 refine wl ?_);(conv=>whnf);refine Side.mk rfl ⟨_,aC hx4,ak _ hx4,?_⟩;(iterate 8 refine wl ?_);refine wb ?_;refine ws ?_;refine wl ?_;refine wl ?_
     (iterate 5 refine wl ?_);refine wb ?_;refine ws ?_;(iterate 2 refine wl ?_);(conv=>whnf);cases h;exact⟨_,⟨(),trivial,rfl,rfl⟩,aA (ren:=id) (ai trivial)⟩
def oC (bo1:Nat)(c1:DeskWork):DeskRefusal⊕DeskLane→AE→List (Nat×Ob)→Prop
  | .inl r=>fun ae os=>∃y:Unit,True∧ae=.pan (.ifc 153 (.agg [I r.fE]))∧os=[(255003,.cells bo1 (cW c1))]
  | .inr r=>fun ae os=>∃y:Unit,True∧ae=.ret (.d (.agg [I r.fBowler,.list 1 (List.map I r.fBalls)]))∧os=[(255003,.cells bo1 (cW c1))]
theorem fx{N:Nat}(hN:N≤1073741824){n1:Int}{c1:DeskWork}{bo1:Nat}{r:DeskRefusal⊕DeskLane}(h:ge N n1 c1=some r) :
    ACalls Tryz.prog 175 [.ptr 255003 bo1 0,.d (I n1)] [(255003,.cells bo1 (cW c1))] (oC bo1 c1 r):=by
  refine bt (fresh:=false) al ap ⟨[],[],[],[],[],260000,[]⟩ Tryz.func175 rfl Tryz.call175 rfl ?_
  unfold ge at h
  (conv=>whnf);intro b2;refine ws ?_;(conv=>whnf);refine LnA.mk _ (List.length_map _) ?_;obtain⟨r3,hx3,h⟩:=ab h;(conv=>whnf);refine CallG.pure _ (fO hN hx3) ?_;obtain⟨z2,hx4,h⟩:=ab h;rcases z2 with r4 | _
  ·(conv=>whnf)
   refine CallG.panic (aI hN hx4) id [(255003,.cells bo1 (cW c1)),(260004,.cells b2 [.d (I 0),.nils 1])] (fun y=>[(255003,.cells bo1 (cW c1)),(260004,.cells b2 [.d (I 0),.nils 1])]) (ac _) trivial rfl trivial (ai (ai trivial)) (fun _=>rfl) ?_
   rintro _ _;(conv=>whnf);cases h;exact⟨_,⟨(),trivial,rfl,rfl⟩,aA (ren:=id) (ai trivial)⟩
  ·(conv=>whnf)
   refine CallG.own (aI hN hx4) id [(255003,.cells bo1 (cW c1)),(260004,.cells b2 [.d (I 0),.nils 1])] _ (fun y=>[(255003,.cells bo1 (cW c1)),(260004,.cells b2 [.d (I 0),.nils 1])]) (ac _) trivial rfl trivial (ai (ai trivial)) (fun _=>AV.le_refl _) (fun _=>rfl) ?_
   rintro _ _;refine ws ?_;obtain⟨x2,hx6,h⟩:=ab h;(conv=>whnf);refine Side.mk rfl ⟨_,aC hx6,ak _ hx6,?_⟩;(iterate 2 refine ws ?_);(conv=>whnf);cases h;exact⟨_,⟨(),trivial,rfl,rfl⟩,aA (ren:=id) (ai trivial)⟩
theorem jH{N:Nat}(hN:N≤1073741824){n1:Int}{c1:DeskWork}{bo1:Nat}{r:Bool}(h:fg N n1 c1=some r) :
    ACalls Tryz.prog 29 [.ptr 255003 bo1 0,.d (I n1)] [(255003,.cells bo1 (cW c1))] fun ae os=>∃y:Unit,True∧ae=.ret (.d (.bool r))∧os=[(255003,.cells bo1 (cW c1))]:=by
  refine aJ (fresh:=false) al ap ⟨[],[],[],[],[],260000,[]⟩ Tryz.func29 rfl Tryz.call29 rfl ?_
  unfold fg at h
  refine ws ?_;(conv=>whnf);refine LnA.mk _ (List.length_map _) ?_;obtain⟨r2,hx2,h⟩:=ab h;(conv=>whnf);refine CallG.pure _ (fO hN hx2) ?_;(conv=>whnf);cases h;exact⟨(),trivial,rfl,aA (ren:=id) (ai trivial)⟩
theorem BZ{N:Nat}(hN:N≤1073741824){y1:DeskLane}{a1:List Int}{r:Bool}(h:gZ N y1 a1=some r) :
    ACalls Tryz.prog 176 [.d (.agg [I y1.fBowler,.list 1 (List.map I y1.fBalls)]),.d (.ref (.agg [.list 1 (List.map I a1)]))] [] fun e os=>e=.ret (.d (.bool r))∧os=[]:=by
  refine ah (fresh:=false) al ap ⟨[2],[],[],[],[],0,[]⟩ Tryz.func176 rfl Tryz.call176 rfl ?_
  unfold gZ at h
  obtain⟨x2,hx2,h⟩:=ab h;(conv=>whnf);refine DrawG.mk (.take 0 (.take 1 (.take 2 (.take 3 (.take 4 (.take 5 (.take 6 .done))))))) (by kernel_rfl) ?_;(conv=>whnf);refine Side.mk rfl ⟨_,aC hx2,ak _ hx2,?_⟩;(conv=>whnf);cases h;exact rfl
theorem lc{N:Nat}(hN:N≤1073741824){s1:List DeskLane}{f1:List Int}{r:Int}(h:eY N s1 f1=some r) :
    ACalls Tryz.prog 205 [.d (.list 2 (List.map DeskLane.enc s1)),.d (.fn (.func 176) [] [.ref (.agg [.list 1 (List.map I f1)])])] [] fun e os=>e=.ret (.d (I r))∧os=[]:=by
  refine ah (fresh:=false) al ap ⟨[],[],[],[],[1001],0,[]⟩ Tryz.func205 rfl Tryz.call205 rfl ?_
  unfold eY at h
  (conv=>whnf);refine SeqG.mk Unit (fun y=>[]) (fun y=>[]) (fun y=>dC N=some r) ?_ ?_
  ·(conv=>whnf);refine LnA.mk _ (List.length_map _) ?_;(conv=>whnf);refine LoopG.mk (Nat×(Int×Int)) (fun y=>[(0,.d (.list 2 (List.map DeskLane.enc s1))),(1,.d (.fn (.func 176) [] [.ref (.agg [.list 1 (List.map I f1)])])),(7,.d (I y.2.1)),(8,.d (I y.2.2))]) (fun y=>[]) (fun y=>aj (fun rr x=>bI N s1 f1 rr x.1 x.2) y.1 y.2=some r) (fun y=>y.1) (N,((s1.length:Int),0)) h (Sub.eq rfl ?_ ?_) ?_
   ·(repeat ((conv=>whnf);refine nr ?_));exact trivial
   ·exact trivial
   ·rintro⟨n2,⟨v17,v18⟩⟩ hl2;obtain⟨n2,rfl,hl2⟩:=ar hl2;replace hl2:bI N s1 f1 (aj (fun rr x=>bI N s1 f1 rr x.1 x.2) n2) v17 v18=some r:=hl2;rw[bI]at hl2;refine wB (fun hc22=>?_) (fun hc22=>?_)
    ·replace hl2:=af hc22 hl2;obtain⟨x24,hx47,hl2⟩:=ab hl2;(conv=>whnf);refine Side.mk rfl ⟨_,aC hx47,ak _ hx47,?_⟩;obtain⟨r24,hx48,hl2⟩:=ab hl2;(conv=>whnf);refine CallG.pure _ (BZ hN hx48) ?_;refine wB (fun hc24=>?_) (fun hc24=>?_)
     ·replace hl2:=af hc24 hl2;(conv=>whnf);cases hl2;exact rfl
     ·replace hl2:=ag hc24 hl2;(conv=>whnf);exact⟨(n2,(v17,w64 (v18+1))),hl2,kW,Nat.lt_succ_self _⟩
    ·replace hl2:=ag hc22 hl2;(conv=>whnf);exact⟨(),hl2,kW⟩
  ·clear h;rintro _ h;unfold dC at h;(conv=>whnf);cases h;exact rfl
theorem jI{N:Nat}(hN:N≤1073741824){s1:List DeskLane}{f1:List Int}{r:Bool}(h:dD N s1 f1=some r) :
    ACalls Tryz.prog 177 [.d (.list 2 (List.map DeskLane.enc s1)),.d (.fn (.func 176) [] [.ref (.agg [.list 1 (List.map I f1)])])] [] fun e os=>e=.ret (.d (.bool r))∧os=[]:=by
  refine ah (fresh:=false) al ap ⟨[],[],[],[],[],0,[]⟩ Tryz.func177 rfl Tryz.call177 rfl ?_
  unfold dD at h
  obtain⟨r2,hx2,h⟩:=ab h;(conv=>whnf);refine CallG.pure _ (lc hN hx2) ?_;(conv=>whnf);cases h;exact rfl
theorem mF{N:Nat}(hN:N≤1073741824) {r:Unit}(h:jx N=some r) :
    ACalls Tryz.prog 206 [.nils 2] [] fun e os=>e=.ret (.nils 2)∧os=[]:=by
  refine ah (fresh:=true) al ap ⟨[],[],[],[],[],0,[]⟩ Tryz.func206 rfl Tryz.call206 rfl ?_
  unfold jx at h
  (conv=>whnf)
  all_goals exact rfl
theorem mG{N:Nat}(hN:N≤1073741824){s1:List DeskLane}{r:(List DeskLane)}(h:eA N s1=some r) :
    ACalls Tryz.prog 206 [.nn 2 (List.map DeskLane.enc s1)] [] fun e os=>∃hd,e=.ret (.sl 0 hd)∧os=[(0,.arr hd 35 2 false (List.map DeskLane.enc r))]:=by
  refine gk al ap ⟨[],[],[],[],[],0,[]⟩ Tryz.func206 rfl Tryz.call206 rfl ?_
  unfold eA at h
  (conv=>whnf);intro hd3;obtain⟨l2,hx2,h⟩:=ab h;refine ws ?_;(conv=>whnf);refine Side.mk ⟨rfl,rfl,rfl⟩ (Need.mk (aD hN hx2 (by decide)) (Eqv.mk (List.map DeskLane.enc l2) (aH _ hx2) ?_));(conv=>whnf);intro hd4;(conv=>whnf);cases h;exact⟨_,_,rfl,rfl⟩
theorem jJ{N:Nat}(hN:N≤1073741824){l:List DeskLane}{r:(List DeskLane)}(h:fh N l=some r) :
    ACalls Tryz.prog 206 [.d (.list 2 (List.map DeskLane.enc l))] [] fun e os=>∃hd,e=.ret (.sl 0 hd)∧os=[(0,.arr hd 35 2 false (List.map DeskLane.enc r))]:=by
  unfold fh at h
  refine ACalls.nils_or (fun e=>?_) (mG hN h)
  have e2:=List.map_eq_nil_iff.1 e
  subst e2
  have e3:r=[]:=by simpa [eA,app]using h.symm
  subst e3
  exact ACalls.nil_own (mF hN (r:=()) rfl)
theorem ld{N:Nat}(hN:N≤1073741824){lane1:Int}{x1:DeskLane}{c1:DeskWork}{bo1:Nat}{r:DeskWork}(h:gU N lane1 x1 c1=some r) :
    ACalls Tryz.prog 178 [.ptr 255003 bo1 0,.d (I lane1),.d (.agg [I x1.fBowler,.list 1 (List.map I x1.fBalls)])] [(255003,.cells bo1 (cW c1))] fun ae os=>∃y:Unit,True∧ae=.ret (.d (.tup []))∧os=[(255003,.cells bo1 (cW r))]:=by
  refine aJ (fresh:=false) al ap ⟨[5],[],[100255003],[],[],260000,[]⟩ Tryz.func178 rfl Tryz.call178 rfl ?_
  unfold gU at h
  refine ws ?_;obtain⟨r2,hx2,h⟩:=ab h;(conv=>whnf);refine CallG.fresh 260012 (jJ hN hx2) ?_;intro hd2;refine ws ?_;obtain⟨x2,hx3,h⟩:=ab h;(conv=>whnf);refine DrawG.mk (.take 0 (.take 1 (.take 2 (.take 3 (.take 4 (.take 5 (.take 6 (.take 7 (.alt 8 [] .done .nil))))))))) (by kernel_rfl) ?_;refine ws ?_;(conv=>whnf);refine Side.mk ⟨rfl,rfl⟩ (Need.mk (aL _ hx3) ?_);refine wb ?_;(conv=>whnf);refine Side.mk ⟨rfl,rfl⟩ ⟨_,Int.natCast_nonneg _,bX _ hx3,?_⟩;(conv=>whnf);refine Eqv.mk (List.map DeskLane.enc (List.set r2 (Int.toNat lane1) x1)) (j1 _ _ _ _ rfl) ?_;(iterate 2 refine ws ?_);(conv=>whnf);cases h;exact⟨(),trivial,rfl,aA (ren:=id) (ai trivial)⟩
def oD (bo1:Nat):(DeskRefusal×DeskWork)⊕DeskWork→AE→List (Nat×Ob)→Prop
  | .inl r=>fun ae os=>∃y:Unit,True∧ae=.pan (.ifc 153 (.agg [I r.1.fE]))∧os=[(255003,.cells bo1 (cW r.2))]
  | .inr r=>fun ae os=>∃y:Unit,True∧ae=.ret (.d (.tup []))∧os=[(255003,.cells bo1 (cW r))]
theorem ka{N:Nat}(hN:N≤1073741824){n1:List Int}{c1:DeskWork}{bo1:Nat}{r:(DeskRefusal×DeskWork)⊕DeskWork}(h:iO N n1 c1=some r) :
    ACalls Tryz.prog 137 [.ptr 255003 bo1 0,.d (.list 1 (List.map I n1))] [(255003,.cells bo1 (cW c1))] (oD bo1 r):=by
  refine bt (fresh:=false) al ap ⟨[3],[],[],[],[4],260000,[]⟩ Tryz.func137 rfl Tryz.call137 rfl ?_
  unfold iO at h
  obtain⟨x2,hx3,h⟩:=ab h;(conv=>whnf);refine Side.mk rfl ⟨_,aC hx3,ak _ hx3,?_⟩;obtain⟨z2,hx4,h⟩:=ab h;rcases z2 with r3 | r4
  ·(conv=>whnf);refine CallG.panic (fx (bo1:=bo1) hN hx4) id [] (fun y=>[(255003,.cells bo1 (cW c1))]) (ac _) (ai trivial) rfl (ai trivial) trivial (fun _=>rfl) ?_;rintro _ _;(conv=>whnf);cases h;exact⟨_,⟨(),trivial,rfl,rfl⟩,aA (ren:=id) (ai trivial)⟩
  ·(conv=>whnf);refine CallG.own (fx (bo1:=bo1) hN hx4) id [] _ (fun y=>[(255003,.cells bo1 (cW c1))]) (ac _) (ai trivial) rfl (ai trivial) trivial (fun _=>AV.le_refl _) (fun _=>rfl) ?_;rintro _ _;(conv=>whnf);intro b2;refine ws ?_;obtain⟨x4,hx8,h⟩:=ab h;(conv=>whnf);refine Side.mk rfl ⟨_,aC hx8,ak _ hx8,?_⟩;obtain⟨r7,hx9,h⟩:=ab h;(conv=>whnf)
   refine CallG.own (jH (bo1:=bo1) hN hx9) id [(260004,.cells b2 [.d (I r4.fBowler),.d (.list 1 (List.map I r4.fBalls))])] _ (fun y=>[(255003,.cells bo1 (cW c1)),(260004,.cells b2 [.d (I r4.fBowler),.d (.list 1 (List.map I r4.fBalls))])]) (ac _) (ai trivial) rfl (ai trivial) (ai trivial) (fun _=>AV.le_refl _) (fun _=>rfl) ?_;rintro _ _;obtain⟨z4,hx10,h⟩:=ab h;rcases z4 with r8 | _
   ·(conv=>whnf)
    refine CallG.panic (aI hN hx10) id [(255003,.cells bo1 (cW c1)),(260004,.cells b2 [.d (I r4.fBowler),.d (.list 1 (List.map I r4.fBalls))])] (fun y=>[(255003,.cells bo1 (cW c1)),(260004,.cells b2 [.d (I r4.fBowler),.d (.list 1 (List.map I r4.fBalls))])]) (ac _) trivial rfl trivial (ai (ai trivial)) (fun _=>rfl) ?_
    rintro _ _;(conv=>whnf);cases h;exact⟨_,⟨(),trivial,rfl,rfl⟩,aA (ren:=id) (ai trivial)⟩
   ·(conv=>whnf)
    refine CallG.own (aI hN hx10) id [(255003,.cells bo1 (cW c1)),(260004,.cells b2 [.d (I r4.fBowler),.d (.list 1 (List.map I r4.fBalls))])] _ (fun y=>[(255003,.cells bo1 (cW c1)),(260004,.cells b2 [.d (I r4.fBowler),.d (.list 1 (List.map I r4.fBalls))])]) (ac _) trivial rfl trivial (ai (ai trivial)) (fun _=>AV.le_refl _) (fun _=>rfl) ?_
    rintro _ _;(conv=>whnf);refine SeqG.mk Unit (fun y=>[(0,.ptr 255003 bo1 0),(3,.d (.ref (.agg [.list 1 (List.map I n1)])))]) (fun y=>[(255003,.cells bo1 (cW c1))]) (fun y=>dP N n1 c1=some r) ?_ ?_
    ·refine ws ?_;refine wB (fun hc2=>?_) (fun hc2=>?_)
     ·replace h:=af hc2 h;refine ws ?_;obtain⟨r13,hx17,h⟩:=ab h;(conv=>whnf);refine CallG.pure _ (jI hN hx17) ?_;obtain⟨z7,hx18,h⟩:=ab h;rcases z7 with r14 | _
      ·(conv=>whnf)
       refine CallG.panic (aI hN hx18) id [(255003,.cells bo1 (cW c1)),(260004,.cells b2 [.d (I r4.fBowler),.d (.list 1 (List.map I r4.fBalls))])] (fun y=>[(255003,.cells bo1 (cW c1)),(260004,.cells b2 [.d (I r4.fBowler),.d (.list 1 (List.map I r4.fBalls))])]) (ac _) trivial rfl trivial (ai (ai trivial)) (fun _=>rfl) ?_
       rintro _ _;(conv=>whnf);cases h;exact⟨_,⟨(),trivial,rfl,rfl⟩,aA (ren:=id) (ai trivial)⟩
      ·(conv=>whnf)
       refine CallG.own (aI hN hx18) id [(255003,.cells bo1 (cW c1)),(260004,.cells b2 [.d (I r4.fBowler),.d (.list 1 (List.map I r4.fBalls))])] _ (fun y=>[(255003,.cells bo1 (cW c1)),(260004,.cells b2 [.d (I r4.fBowler),.d (.list 1 (List.map I r4.fBalls))])]) (ac _) trivial rfl trivial (ai (ai trivial)) (fun _=>AV.le_refl _) (fun _=>rfl) ?_
       rintro _ _;(conv=>whnf);refine⟨(),h,Sub.eq rfl ?_ ?_⟩
       ·(repeat ((conv=>whnf);refine nr ?_));exact trivial
       ·(conv=>whnf);refine no ?_;exact trivial
     ·replace h:=ag hc2 h;obtain⟨z8,hx19,h⟩:=ab h;rcases z8 with r15 | _
      ·(conv=>whnf)
       refine CallG.panic (aI hN hx19) id [(255003,.cells bo1 (cW c1)),(260004,.cells b2 [.d (I r4.fBowler),.d (.list 1 (List.map I r4.fBalls))])] (fun y=>[(255003,.cells bo1 (cW c1)),(260004,.cells b2 [.d (I r4.fBowler),.d (.list 1 (List.map I r4.fBalls))])]) (ac _) trivial rfl trivial (ai (ai trivial)) (fun _=>rfl) ?_
       rintro _ _;(conv=>whnf);cases h;exact⟨_,⟨(),trivial,rfl,rfl⟩,aA (ren:=id) (ai trivial)⟩
      ·(conv=>whnf)
       refine CallG.own (aI hN hx19) id [(255003,.cells bo1 (cW c1)),(260004,.cells b2 [.d (I r4.fBowler),.d (.list 1 (List.map I r4.fBalls))])] _ (fun y=>[(255003,.cells bo1 (cW c1)),(260004,.cells b2 [.d (I r4.fBowler),.d (.list 1 (List.map I r4.fBalls))])]) (ac _) trivial rfl trivial (ai (ai trivial)) (fun _=>AV.le_refl _) (fun _=>rfl) ?_
       rintro _ _;(conv=>whnf);refine⟨(),h,Sub.eq rfl ?_ ?_⟩
       ·(repeat ((conv=>whnf);refine nr ?_));exact trivial
       ·(conv=>whnf);refine no ?_;exact trivial
    ·clear h;rintro _ h;unfold dP at h;obtain⟨x5,hx14,h⟩:=ab h;obtain⟨x6,hx15,h⟩:=ab h;(conv=>whnf);refine DrawG.mk (.take 0 (.take 1 (.take 2 (.take 3 (.take 4 (.take 5 (.take 6 (.alt 7 [5,4,3,2,1,0] (.alt 8 [5,4,2,1] .done .nil) .nil)))))))) (by kernel_rfl) ?_;(conv=>whnf);refine Side.mk rfl ⟨_,aC hx14,ak _ hx14,?_⟩;(conv=>whnf);refine Side.mk rfl ⟨_,aC hx15,ak _ hx15,?_⟩;refine wb ?_;(conv=>whnf);refine Side.mk rfl ⟨_,aC hx15,ak _ hx15,?_⟩;(iterate 3 refine wl ?_);(conv=>whnf);refine Side.mk rfl ⟨_,aC hx14,ak _ hx14,?_⟩;(iterate 3 refine wl ?_);refine wb ?_;obtain⟨r12,hx16,h⟩:=ab h;(conv=>whnf)
     refine CallG.own (ld (bo1:=bo1) hN hx16) id [] _ (fun y=>[(255003,.cells bo1 (cW r12))]) (ac _) (ai trivial) rfl (ai trivial) trivial (fun _=>AV.le_refl _) (fun _=>rfl) ?_;rintro _ _;(conv=>whnf);refine Side.mk rfl ⟨_,aC hx15,ak _ hx15,?_⟩;(iterate 2 refine wl ?_);(conv=>whnf);refine Side.mk rfl ⟨_,aC hx14,ak _ hx14,?_⟩;(iterate 2 refine wl ?_);(conv=>whnf);cases h;exact⟨_,⟨(),trivial,rfl,rfl⟩,aA (ren:=id) (ai trivial)⟩
def oE (bo1:Nat)(c1:DeskWork):DeskRefusal⊕DeskLane→AE→List (Nat×Ob)→Prop
  | .inl r=>fun ae os=>∃y:Unit,True∧ae=.pan (.ifc 153 (.agg [I r.fE]))∧os=[(255003,.cells bo1 (cW c1))]
  | .inr r=>fun ae os=>∃y:Unit,True∧ae=.ret (.d (.agg [I r.fBowler,.list 1 (List.map I r.fBalls)]))∧os=[(255003,.cells bo1 (cW c1))]
theorem fy{N:Nat}(hN:N≤1073741824){n1:Int}{c1:DeskWork}{bo1:Nat}{r:DeskRefusal⊕DeskLane}(h:gf N n1 c1=some r) :
    ACalls Tryz.prog 179 [.ptr 255003 bo1 0,.d (I n1)] [(255003,.cells bo1 (cW c1))] (oE bo1 c1 r):=by
  refine bt (fresh:=false) al ap ⟨[],[],[],[],[],260000,[]⟩ Tryz.func179 rfl Tryz.call179 rfl ?_
  unfold gf at h
  (conv=>whnf);intro b2;obtain⟨z2,hx2,h⟩:=ab h;rcases z2 with r3 | r4
  ·(conv=>whnf);refine CallG.panic (fx (bo1:=bo1) hN hx2) id [(260004,.cells b2 [.d (I 0),.nils 1])] (fun y=>[(255003,.cells bo1 (cW c1)),(260004,.cells b2 [.d (I 0),.nils 1])]) (ac _) (ai trivial) rfl (ai trivial) (ai trivial) (fun _=>rfl) ?_;rintro _ _;(conv=>whnf);cases h;exact⟨_,⟨(),trivial,rfl,rfl⟩,aA (ren:=id) (ai trivial)⟩
  ·(conv=>whnf);refine CallG.own (fx (bo1:=bo1) hN hx2) id [(260004,.cells b2 [.d (I 0),.nils 1])] _ (fun y=>[(255003,.cells bo1 (cW c1)),(260004,.cells b2 [.d (I 0),.nils 1])]) (ac _) (ai trivial) rfl (ai trivial) (ai trivial) (fun _=>AV.le_refl _) (fun _=>rfl) ?_;rintro _ _;(conv=>whnf);intro b4;(iterate 2 refine ws ?_);obtain⟨z4,hx4,h⟩:=ab h;rcases z4 with r6 | _
   ·(conv=>whnf)
    refine CallG.panic (aI hN hx4) id [(255003,.cells bo1 (cW c1)),(260004,.cells b2 [.d (I 0),.nils 1]),(260005,.cells b4 [.d (I r4.fBowler),.d (.list 1 (List.map I r4.fBalls))])] (fun y=>[(255003,.cells bo1 (cW c1)),(260004,.cells b2 [.d (I 0),.nils 1]),(260005,.cells b4 [.d (I r4.fBowler),.d (.list 1 (List.map I r4.fBalls))])]) (ac _) trivial rfl trivial (ai (ai (ai trivial))) (fun _=>rfl) ?_
    rintro _ _;(conv=>whnf);cases h;exact⟨_,⟨(),trivial,rfl,rfl⟩,aA (ren:=id) (ai trivial)⟩
   ·(conv=>whnf)
    refine CallG.own (aI hN hx4) id [(255003,.cells bo1 (cW c1)),(260004,.cells b2 [.d (I 0),.nils 1]),(260005,.cells b4 [.d (I r4.fBowler),.d (.list 1 (List.map I r4.fBalls))])] _ (fun y=>[(255003,.cells bo1 (cW c1)),(260004,.cells b2 [.d (I 0),.nils 1]),(260005,.cells b4 [.d (I r4.fBowler),.d (.list 1 (List.map I r4.fBalls))])]) (ac _) trivial rfl trivial (ai (ai (ai trivial))) (fun _=>AV.le_refl _) (fun _=>rfl) ?_
    rintro _ _;(iterate 3 refine ws ?_);(conv=>whnf);cases h;exact⟨_,⟨(),trivial,rfl,rfl⟩,aA (ren:=id) (ai trivial)⟩
theorem fP{N:Nat}(hN:N≤1073741824) {r:FrameLaw}(h:iP N=some r) :
    ACalls Tryz.prog 27 [] [] fun e os=>e=.ret (.d (.agg [I r.fFrames,I r.fPins,I r.fBalls,I r.fTap]))∧os=[]:=by
  refine ah (fresh:=false) al ap ⟨[],[],[],[],[],0,[]⟩ Tryz.func27 rfl Tryz.call27 rfl ?_
  unfold iP at h
  (conv=>whnf);intro b2;(iterate 2 refine ws ?_);(conv=>whnf);cases h;exact rfl
theorem eQ{N:Nat}(hN:N≤1073741824){n1:Int}{low1:Int}{high1:Int}{r:Bool}(h:db N n1 low1 high1=some r) :
    ACalls Tryz.prog 67 [.d (I n1),.d (I low1),.d (I high1)] [] fun e os=>e=.ret (.d (.bool r))∧os=[]:=by
  refine ah (fresh:=false) al ap ⟨[],[],[],[],[1],0,[]⟩ Tryz.func67 rfl Tryz.call67 rfl ?_
  unfold db at h
  obtain⟨v2,hx1,h⟩:=ab h;(conv=>whnf);refine SeqG.mk Unit (fun y=>[(6,.d (.bool v2))]) (fun y=>[]) (fun _=>True) ?_ ?_
  ·refine wB (fun hc2=>?_) (fun hc2=>?_)
   ·replace hx1:=af hc2 hx1;cases hx1;(conv=>whnf);exact⟨(),trivial,kW⟩
   ·replace hx1:=ag hc2 hx1;cases hx1;(conv=>whnf);exact⟨(),trivial,kW⟩
  ·rintro _ _;(conv=>whnf);cases h;exact rfl
theorem Cl{N:Nat}(hN:N≤1073741824){l1:FrameLaw}{r:Int}(h:yU N l1=some r) :
    ACalls Tryz.prog 41 [.d (.agg [I l1.fFrames,I l1.fPins,I l1.fBalls,I l1.fTap])] [] fun e os=>e=.ret (.d (I r))∧os=[]:=by
  refine ah (fresh:=false) al ap ⟨[1],[],[],[],[1],0,[]⟩ Tryz.func41 rfl Tryz.call41 rfl ?_
  unfold yU at h
  obtain⟨v4,hx14,h⟩:=ab h;(conv=>whnf);refine SeqG.mk Unit (fun y=>[(26,.d (.bool v4))]) (fun y=>[]) (fun _=>True) ?_ ?_
  ·obtain⟨r13,hx15,hx14⟩:=ab hx14;(conv=>whnf);refine CallG.pure _ (eQ hN hx15) ?_;refine wB (fun hc11=>?_) (fun hc11=>?_)
   ·replace hx14:=ag hc11 hx14;obtain⟨r14,hx16,hx14⟩:=ab hx14;(conv=>whnf);refine CallG.pure _ (eQ hN hx16) ?_;refine wB (fun hc12=>?_) (fun hc12=>?_)
    ·replace hx14:=ag hc12 hx14;obtain⟨r15,hx17,hx14⟩:=ab hx14;(conv=>whnf);refine CallG.pure _ (eQ hN hx17) ?_;refine wB (fun hc13=>?_) (fun hc13=>?_)
     ·replace hx14:=ag hc13 hx14;obtain⟨r16,hx18,hx14⟩:=ab hx14;(conv=>whnf);refine CallG.pure _ (eQ hN hx18) ?_;cases hx14;(conv=>whnf);exact⟨(),trivial,kW⟩
     ·replace hx14:=af hc13 hx14;cases hx14;(conv=>whnf);exact⟨(),trivial,kW⟩
    ·replace hx14:=af hc12 hx14;cases hx14;(conv=>whnf);exact⟨(),trivial,kW⟩
   ·replace hx14:=af hc11 hx14;cases hx14;(conv=>whnf);exact⟨(),trivial,kW⟩
  ·rintro _ _;refine wB (fun hc14=>?_) (fun hc14=>?_)
   ·replace h:=af hc14 h;(conv=>whnf);cases h;exact rfl
   ·replace h:=ag hc14 h;(conv=>whnf);cases h;exact rfl
theorem eR{N:Nat}(hN:N≤1073741824){l1:FrameLaw}{sheet1:List Int}{r:FrameLaw×(List Int)}(h:cS N l1 sheet1=some r) :
    ACalls Tryz.prog 20 [.d (.agg [I l1.fFrames,I l1.fPins,I l1.fBalls,I l1.fTap]),.d (.list 1 (List.map I sheet1))] [] fun e os=>e=.ret (.d (.fn (.func 44) [] [.ref (.agg [I r.1.fFrames,I r.1.fPins,I r.1.fBalls,I r.1.fTap]),.ref (.agg [.list 1 (List.map I r.2)])]))∧os=[]:=by
  refine ah (fresh:=false) al ap ⟨[2,3],[],[],[],[],0,[]⟩ Tryz.func20 rfl Tryz.call20 rfl ?_
  unfold cS at h
  (conv=>whnf);cases h;exact rfl
theorem cE{N:Nat}(hN:N≤1073741824){l1:FrameLaw}{r:FramePlay}(h:bL N l1=some r) :
    ACalls Tryz.prog 45 [.d (.agg [I l1.fFrames,I l1.fPins,I l1.fBalls,I l1.fTap])] [] fun e os=>e=.ret (.d (.agg [I r.fLaw.fFrames,I r.fLaw.fPins,I r.fLaw.fBalls,I r.fLaw.fTap,I r.fAt.fFrame,I r.fAt.fThrown,I r.fAt.fStanding,.bool r.fAt.fFresh,I r.fAt.fNeed,I r.fAt.fAfter.a0,I r.fAt.fAfter.a1]))∧os=[]:=by
  refine ah (fresh:=false) al ap ⟨[1],[],[],[],[],0,[]⟩ Tryz.func45 rfl Tryz.call45 rfl ?_
  unfold bL at h
  (conv=>whnf);intro b2;(iterate 2 refine ws ?_);(conv=>whnf);cases h;exact rfl
theorem eT{N:Nat}(hN:N≤1073741824){p1:FramePlay}{r:Bool}(h:cT N p1=some r) :
    ACalls Tryz.prog 22 [.d (.agg [I p1.fLaw.fFrames,I p1.fLaw.fPins,I p1.fLaw.fBalls,I p1.fLaw.fTap,I p1.fAt.fFrame,I p1.fAt.fThrown,I p1.fAt.fStanding,.bool p1.fAt.fFresh,I p1.fAt.fNeed,I p1.fAt.fAfter.a0,I p1.fAt.fAfter.a1])] [] fun e os=>e=.ret (.d (.bool r))∧os=[]:=by
  refine ah (fresh:=false) al ap ⟨[1],[],[],[],[],0,[]⟩ Tryz.func22 rfl Tryz.call22 rfl ?_
  unfold cT at h
  (conv=>whnf);cases h;exact rfl
theorem fA{N:Nat}(hN:N≤1073741824){p1:FramePlay}{ball1:Int}{r:Bool}(h:dx N p1 ball1=some r) :
    ACalls Tryz.prog 46 [.d (.agg [I p1.fLaw.fFrames,I p1.fLaw.fPins,I p1.fLaw.fBalls,I p1.fLaw.fTap,I p1.fAt.fFrame,I p1.fAt.fThrown,I p1.fAt.fStanding,.bool p1.fAt.fFresh,I p1.fAt.fNeed,I p1.fAt.fAfter.a0,I p1.fAt.fAfter.a1]),.d (I ball1)] [] fun e os=>e=.ret (.d (.bool r))∧os=[]:=by
  refine ah (fresh:=false) al ap ⟨[2],[],[],[],[1],0,[]⟩ Tryz.func46 rfl Tryz.call46 rfl ?_
  unfold dx at h
  obtain⟨v2,hx3,h⟩:=ab h;(conv=>whnf);refine SeqG.mk Unit (fun y=>[(4,.d (.bool v2))]) (fun y=>[]) (fun _=>True) ?_ ?_
  ·obtain⟨r3,hx4,hx3⟩:=ab hx3;(conv=>whnf);refine CallG.pure _ (eT hN hx4) ?_;refine wB (fun hc2=>?_) (fun hc2=>?_)
   ·replace hx3:=af hc2 hx3;obtain⟨r4,hx5,hx3⟩:=ab hx3;(conv=>whnf);refine CallG.pure _ (eQ hN hx5) ?_;cases hx3;(conv=>whnf);exact⟨(),trivial,kW⟩
   ·replace hx3:=ag hc2 hx3;cases hx3;(conv=>whnf);exact⟨(),trivial,kW⟩
  ·rintro _ _;(conv=>whnf);cases h;exact rfl
theorem aS{N:Nat}(hN:N≤1073741824){p1:FramePlay}{ball1:Int}{r:FramePlay×Int×Int}(h:bA N p1 ball1=some r) :
    ACalls Tryz.prog 47 [.d (.agg [I p1.fLaw.fFrames,I p1.fLaw.fPins,I p1.fLaw.fBalls,I p1.fLaw.fTap,I p1.fAt.fFrame,I p1.fAt.fThrown,I p1.fAt.fStanding,.bool p1.fAt.fFresh,I p1.fAt.fNeed,I p1.fAt.fAfter.a0,I p1.fAt.fAfter.a1]),.d (I ball1)] [] fun e os=>e=.ret (.d (.tup [.agg [I r.1.fLaw.fFrames,I r.1.fLaw.fPins,I r.1.fLaw.fBalls,I r.1.fLaw.fTap,I r.1.fAt.fFrame,I r.1.fAt.fThrown,I r.1.fAt.fStanding,.bool r.1.fAt.fFresh,I r.1.fAt.fNeed,I r.1.fAt.fAfter.a0,I r.1.fAt.fAfter.a1],I r.2.1,I r.2.2]))∧os=[]:=by
  refine ah (fresh:=false) al ap ⟨[],[],[],[],[2,10,13,15,17,1002,1010,1017],0,[]⟩ Tryz.func47 rfl Tryz.call47 rfl ?_
  unfold bA at h
  (conv=>whnf);intro b3;(conv=>whnf);intro b4;obtain⟨n4,hx2,h⟩:=ab h;(conv=>whnf);refine SeqG.mk Unit (fun y=>[(2,.ptr 2 b3 0),(4,.ptr 4 b4 0),(7,.d (I n4))]) (fun y=>[(2,.cells b3 [.d (I p1.fLaw.fFrames),.d (I p1.fLaw.fPins),.d (I p1.fLaw.fBalls),.d (I p1.fLaw.fTap),.d (I p1.fAt.fFrame),.d (I p1.fAt.fThrown),.d (I p1.fAt.fStanding),.d (.bool p1.fAt.fFresh),.d (I p1.fAt.fNeed),.d (I p1.fAt.fAfter.a0),.d (I p1.fAt.fAfter.a1)]),(4,.cells b4 [.d (I 0),.d (I 0),.d (I 0),.d (I 0),.d (I 0),.d (I 0),.d (I 0),.d (.bool false),.d (I 0),.d (I 0),.d (I 0)])]) (fun _=>True) ?_ ?_
  ·obtain⟨⟨n6,v4⟩,hx3,hx2⟩:=ab hx2;(conv=>whnf);refine SeqG.mk Unit (fun y=>[(2,.ptr 2 b3 0),(4,.ptr 4 b4 0),(7,.d (I n6)),(22,.d (.bool v4))]) (fun y=>[(2,.cells b3 [.d (I p1.fLaw.fFrames),.d (I p1.fLaw.fPins),.d (I p1.fLaw.fBalls),.d (I p1.fLaw.fTap),.d (I p1.fAt.fFrame),.d (I p1.fAt.fThrown),.d (I p1.fAt.fStanding),.d (.bool p1.fAt.fFresh),.d (I p1.fAt.fNeed),.d (I p1.fAt.fAfter.a0),.d (I p1.fAt.fAfter.a1)]),(4,.cells b4 [.d (I 0),.d (I 0),.d (I 0),.d (I 0),.d (I 0),.d (I 0),.d (I 0),.d (.bool false),.d (I 0),.d (I 0),.d (I 0)])]) (fun _=>True) ?_ ?_
   ·refine ws ?_;refine wB (fun hc5=>?_) (fun hc5=>?_)
    ·replace hx3:=af hc5 hx3;refine ws ?_;cases hx3;(conv=>whnf);exact⟨(),trivial,kW⟩
    ·replace hx3:=ag hc5 hx3;cases hx3;(conv=>whnf);exact⟨(),trivial,kW⟩
   ·rintro _ _;refine wB (fun hc6=>?_) (fun hc6=>?_)
    ·replace hx2:=af hc6 hx2;refine ws ?_;cases hx2;(conv=>whnf);exact⟨(),trivial,kW⟩
    ·replace hx2:=ag hc6 hx2;cases hx2;(conv=>whnf);exact⟨(),trivial,kW⟩
  ·rintro _ _;(conv=>whnf);refine IxG.mk 0 rfl (by decide) ?_;refine ws ?_;(conv=>whnf);refine IxG.mk 1 rfl (by decide) ?_;(iterate 10 refine ws ?_);obtain⟨⟨worth4,down4,last4,p5⟩,hx7,h⟩:=ab h;(conv=>whnf)
   refine SeqG.mk Unit (fun y=>[(2,.ptr 2 b3 0),(4,.ptr 4 b4 0),(7,.d (I n4)),(8,.d (I worth4)),(9,.d (.bool down4)),(10,.d (.bool last4))]) (fun y=>[(2,.cells b3 [.d (I p5.fLaw.fFrames),.d (I p5.fLaw.fPins),.d (I p5.fLaw.fBalls),.d (I p5.fLaw.fTap),.d (I p5.fAt.fFrame),.d (I p5.fAt.fThrown),.d (I p5.fAt.fStanding),.d (.bool p5.fAt.fFresh),.d (I p5.fAt.fNeed),.d (I p5.fAt.fAfter.a0),.d (I p5.fAt.fAfter.a1)]),(4,.cells b4 [.d (I 0),.d (I 0),.d (I 0),.d (I 0),.d (I 0),.d (I 0),.d (I 0),.d (.bool false),.d (I 0),.d (I 0),.d (I 0)])]) (fun _=>True) ?_ ?_
   ·obtain⟨⟨worth6,down6,last6,v12,p7⟩,hx8,hx7⟩:=ab hx7;(conv=>whnf);refine SeqG.mk Unit (fun y=>[(2,.ptr 2 b3 0),(4,.ptr 4 b4 0),(7,.d (I n4)),(8,.d (I worth6)),(9,.d (.bool down6)),(10,.d (.bool last6)),(67,.d (.bool v12))]) (fun y=>[(2,.cells b3 [.d (I p7.fLaw.fFrames),.d (I p7.fLaw.fPins),.d (I p7.fLaw.fBalls),.d (I p7.fLaw.fTap),.d (I p7.fAt.fFrame),.d (I p7.fAt.fThrown),.d (I p7.fAt.fStanding),.d (.bool p7.fAt.fFresh),.d (I p7.fAt.fNeed),.d (I p7.fAt.fAfter.a0),.d (I p7.fAt.fAfter.a1)]),(4,.cells b4 [.d (I 0),.d (I 0),.d (I 0),.d (I 0),.d (I 0),.d (I 0),.d (I 0),.d (.bool false),.d (I 0),.d (I 0),.d (I 0)])]) (fun _=>True) ?_ ?_
    ·refine wB (fun hc24=>?_) (fun hc24=>?_)
     ·replace hx8:=af hc24 hx8;refine wB (fun hc25=>?_) (fun hc25=>?_)
      ·replace hx8:=af hc25 hx8;refine ws ?_;cases hx8;(conv=>whnf);exact⟨(),trivial,kW⟩
      ·replace hx8:=ag hc25 hx8;cases hx8;(conv=>whnf);exact⟨(),trivial,kW⟩
     ·replace hx8:=ag hc24 hx8;cases hx8;(conv=>whnf);exact⟨(),trivial,kW⟩
    ·rintro _ _;refine wB (fun hc26=>?_) (fun hc26=>?_)
     ·replace hx7:=af hc26 hx7;(iterate 4 refine ws ?_);cases hx7;(conv=>whnf);exact⟨(),trivial,kW⟩
     ·replace hx7:=ag hc26 hx7;obtain⟨v14,hx9,hx7⟩:=ab hx7;(conv=>whnf);refine SeqG.mk Unit (fun y=>[(2,.ptr 2 b3 0),(4,.ptr 4 b4 0),(7,.d (I n4)),(8,.d (I worth6)),(9,.d (.bool down6)),(10,.d (.bool last6)),(87,.d (.bool v14))]) (fun y=>[(2,.cells b3 [.d (I p7.fLaw.fFrames),.d (I p7.fLaw.fPins),.d (I p7.fLaw.fBalls),.d (I p7.fLaw.fTap),.d (I p7.fAt.fFrame),.d (I p7.fAt.fThrown),.d (I p7.fAt.fStanding),.d (.bool p7.fAt.fFresh),.d (I p7.fAt.fNeed),.d (I p7.fAt.fAfter.a0),.d (I p7.fAt.fAfter.a1)]),(4,.cells b4 [.d (I 0),.d (I 0),.d (I 0),.d (I 0),.d (I 0),.d (I 0),.d (I 0),.d (.bool false),.d (I 0),.d (I 0),.d (I 0)])]) (fun _=>True) ?_ ?_
      ·refine wB (fun hc29=>?_) (fun hc29=>?_)
       ·replace hx9:=af hc29 hx9;refine wB (fun hc30=>?_) (fun hc30=>?_)
        ·replace hx9:=af hc30 hx9;refine ws ?_;cases hx9;(conv=>whnf);exact⟨(),trivial,kW⟩
        ·replace hx9:=ag hc30 hx9;cases hx9;(conv=>whnf);exact⟨(),trivial,kW⟩
       ·replace hx9:=ag hc29 hx9;cases hx9;(conv=>whnf);exact⟨(),trivial,kW⟩
      ·rintro _ _;refine wB (fun hc31=>?_) (fun hc31=>?_)
       ·replace hx7:=af hc31 hx7;(conv=>whnf);refine IxG.mk 0 rfl (by decide) ?_;refine ws ?_;(conv=>whnf);refine IxG.mk 1 rfl (by decide) ?_;(iterate 2 refine ws ?_);cases hx7;(conv=>whnf);exact⟨(),trivial,kW⟩
       ·replace hx7:=ag hc31 hx7;obtain⟨v16,hx10,hx7⟩:=ab hx7;(conv=>whnf);refine SeqG.mk Unit (fun y=>[(2,.ptr 2 b3 0),(4,.ptr 4 b4 0),(7,.d (I n4)),(8,.d (I worth6)),(9,.d (.bool down6)),(10,.d (.bool last6)),(112,.d (.bool v16))]) (fun y=>[(2,.cells b3 [.d (I p7.fLaw.fFrames),.d (I p7.fLaw.fPins),.d (I p7.fLaw.fBalls),.d (I p7.fLaw.fTap),.d (I p7.fAt.fFrame),.d (I p7.fAt.fThrown),.d (I p7.fAt.fStanding),.d (.bool p7.fAt.fFresh),.d (I p7.fAt.fNeed),.d (I p7.fAt.fAfter.a0),.d (I p7.fAt.fAfter.a1)]),(4,.cells b4 [.d (I 0),.d (I 0),.d (I 0),.d (I 0),.d (I 0),.d (I 0),.d (I 0),.d (.bool false),.d (I 0),.d (I 0),.d (I 0)])]) (fun _=>True) ?_ ?_
        ·refine wB (fun hc34=>?_) (fun hc34=>?_)
         ·replace hx10:=af hc34 hx10;refine wB (fun hc35=>?_) (fun hc35=>?_)
          ·replace hx10:=af hc35 hx10;refine ws ?_;cases hx10;(conv=>whnf);exact⟨(),trivial,kW⟩
          ·replace hx10:=ag hc35 hx10;cases hx10;(conv=>whnf);exact⟨(),trivial,kW⟩
         ·replace hx10:=ag hc34 hx10;cases hx10;(conv=>whnf);exact⟨(),trivial,kW⟩
        ·rintro _ _;refine wB (fun hc36=>?_) (fun hc36=>?_)
         ·replace hx7:=af hc36 hx7;(conv=>whnf);refine IxG.mk 0 rfl (by decide) ?_;refine ws ?_;(conv=>whnf);refine IxG.mk 0 rfl (by decide) ?_;refine ws ?_;cases hx7;(conv=>whnf);exact⟨(),trivial,kW⟩
         ·replace hx7:=ag hc36 hx7;cases hx7;(conv=>whnf);exact⟨(),trivial,kW⟩
   ·rintro _ _;obtain⟨p9,hx12,h⟩:=ab h;(conv=>whnf);refine SeqG.mk Unit (fun y=>[(2,.ptr 2 b3 0),(4,.ptr 4 b4 0),(7,.d (I n4)),(8,.d (I worth4))]) (fun y=>[(2,.cells b3 [.d (I p9.fLaw.fFrames),.d (I p9.fLaw.fPins),.d (I p9.fLaw.fBalls),.d (I p9.fLaw.fTap),.d (I p9.fAt.fFrame),.d (I p9.fAt.fThrown),.d (I p9.fAt.fStanding),.d (.bool p9.fAt.fFresh),.d (I p9.fAt.fNeed),.d (I p9.fAt.fAfter.a0),.d (I p9.fAt.fAfter.a1)]),(4,.cells b4 [.d (I 0),.d (I 0),.d (I 0),.d (I 0),.d (I 0),.d (I 0),.d (I 0),.d (.bool false),.d (I 0),.d (I 0),.d (I 0)])]) (fun _=>True) ?_ ?_
    ·obtain⟨v20,hx13,hx12⟩:=ab hx12;(conv=>whnf);refine SeqG.mk Unit (fun y=>[(2,.ptr 2 b3 0),(4,.ptr 4 b4 0),(7,.d (I n4)),(8,.d (I worth4)),(145,.d (.bool v20))]) (fun y=>[(2,.cells b3 [.d (I p5.fLaw.fFrames),.d (I p5.fLaw.fPins),.d (I p5.fLaw.fBalls),.d (I p5.fLaw.fTap),.d (I p5.fAt.fFrame),.d (I p5.fAt.fThrown),.d (I p5.fAt.fStanding),.d (.bool p5.fAt.fFresh),.d (I p5.fAt.fNeed),.d (I p5.fAt.fAfter.a0),.d (I p5.fAt.fAfter.a1)]),(4,.cells b4 [.d (I 0),.d (I 0),.d (I 0),.d (I 0),.d (I 0),.d (I 0),.d (I 0),.d (.bool false),.d (I 0),.d (I 0),.d (I 0)])]) (fun _=>True) ?_ ?_
     ·(iterate 2 refine ws ?_);refine wB (fun hc44=>?_) (fun hc44=>?_)
      ·replace hx13:=ag hc44 hx13;refine wB (fun hc45=>?_) (fun hc45=>?_)
       ·replace hx13:=af hc45 hx13;cases hx13;(conv=>whnf);exact⟨(),trivial,kW⟩
       ·replace hx13:=ag hc45 hx13;cases hx13;(conv=>whnf);exact⟨(),trivial,kW⟩
      ·replace hx13:=af hc44 hx13;cases hx13;(conv=>whnf);exact⟨(),trivial,kW⟩
     ·rintro _ _;refine wB (fun hc46=>?_) (fun hc46=>?_)
      ·replace hx12:=af hc46 hx12;(iterate 5 refine ws ?_);cases hx12;(conv=>whnf);exact⟨(),trivial,kW⟩
      ·replace hx12:=ag hc46 hx12;cases hx12;(conv=>whnf);exact⟨(),trivial,kW⟩
    ·rintro _ _;(iterate 3 refine ws ?_);(conv=>whnf);cases h;exact rfl
theorem qe{N:Nat}(hN:N≤1073741824){l1:FrameLaw}{sheet1:List Int}{r:Int}(h:jy N l1 sheet1=some r) :
    ACalls Tryz.prog 42 [.d (.agg [I l1.fFrames,I l1.fPins,I l1.fBalls,I l1.fTap]),.d (.list 1 (List.map I sheet1))] [] fun e os=>e=.ret (.d (I r))∧os=[]:=by
  refine ah (fresh:=false) al ap ⟨[2],[],[],[],[1002],0,[]⟩ Tryz.func42 rfl Tryz.call42 rfl ?_
  unfold jy at h
  (conv=>whnf);intro b2;refine ws ?_;obtain⟨c10,hx53,h⟩:=ab h;(conv=>whnf);refine SeqG.mk Unit (fun y=>[(5,.ptr 5 b2 0)]) (fun y=>[(5,.cells b2 [.d (I c10)])]) (fun _=>True) ?_ ?_
  ·obtain⟨⟨ra16,rb16⟩,hx55,hx53⟩:=ab hx53;(conv=>whnf);refine CallG.pure _ (eR hN hx55) ?_;(conv=>whnf);intro lp2 rc14;refine IterG.mk _ _ ⟨[],[],[],[],[],2000,[]⟩ Tryz.func44 rfl Tryz.call44 rfl rfl ?_;obtain⟨r28,hx57,hx53⟩:=ab hx53;(conv=>whnf);refine CallG.pure _ (cE hN hx57) ?_;(conv=>whnf);intro b18;refine ws ?_;(conv=>whnf);refine LnA.mk _ (List.length_map _) ?_;(conv=>whnf)
   refine LoopG.mk (Nat×(Int×Int×FramePlay×Int)) (fun y=>[(0,.fn (.yield lp2) [] []),(4,.ptr 2004 b18 0),(13,.d (.list 1 (List.map I rb16))),(14,.d (I y.2.1)),(15,.d (I y.2.2.1))]) (fun y=>[(2004,.cells b18 [.d (I y.2.2.2.1.fLaw.fFrames),.d (I y.2.2.2.1.fLaw.fPins),.d (I y.2.2.2.1.fLaw.fBalls),.d (I y.2.2.2.1.fLaw.fTap),.d (I y.2.2.2.1.fAt.fFrame),.d (I y.2.2.2.1.fAt.fThrown),.d (I y.2.2.2.1.fAt.fStanding),.d (.bool y.2.2.2.1.fAt.fFresh),.d (I y.2.2.2.1.fAt.fNeed),.d (I y.2.2.2.1.fAt.fAfter.a0),.d (I y.2.2.2.1.fAt.fAfter.a1)]),(5,.cells b2 [.d (I y.2.2.2.2)]),(1000,.loop lp2 rc14 none)]) (fun y=>aj (fun rr x=>de N rb16 rr x.1 x.2.1 x.2.2.1 x.2.2.2) y.1 y.2=some c10) (fun y=>y.1) (N,((rb16.length:Int),0,r28,0)) hx53 (Sub.eq rfl ?_ ?_) ?_
   ·(repeat ((conv=>whnf);refine nr ?_));exact trivial
   ·(iterate 3 ((conv=>whnf);refine no ?_));exact trivial
   ·rintro⟨n2,⟨v17,v18,c17,c18⟩⟩ hl2;obtain⟨n2,rfl,hl2⟩:=ar hl2;replace hl2:de N rb16 (aj (fun rr x=>de N rb16 rr x.1 x.2.1 x.2.2.1 x.2.2.2) n2) v17 v18 c17 c18=some c10:=hl2;rw[de]at hl2;refine wB (fun hc32=>?_) (fun hc32=>?_)
    ·replace hl2:=af hc32 hl2;obtain⟨x24,hx99,hl2⟩:=ab hl2;(conv=>whnf);refine Side.mk rfl ⟨_,aC hx99,ak _ hx99,?_⟩;refine ws ?_;obtain⟨r52,hx103,hl2⟩:=ab hl2;(conv=>whnf);refine CallG.pure _ (fA hN hx103) ?_;refine wB (fun hc36=>?_) (fun hc36=>?_)
     ·replace hl2:=af hc36 hl2;(conv=>whnf);refine Side.mk ⟨rfl,rfl⟩ ?_;cases hl2;(conv=>whnf);refine⟨(),trivial,Sub.eq rfl ?_ ?_⟩
      ·(repeat ((conv=>whnf);refine nr ?_));exact trivial
      ·(conv=>whnf);refine no ?_;exact trivial
     ·replace hl2:=ag hc36 hl2;refine ws ?_;obtain⟨⟨ra28,rb28,rc26⟩,hx105,hl2⟩:=ab hl2;(conv=>whnf);refine CallG.pure _ (aS hN hx105) ?_;(conv=>whnf);intro b30;(iterate 3 refine ws ?_);(conv=>whnf);refine Side.mk ⟨rfl,rfl,rfl⟩ ?_;(iterate 3 refine ws ?_);(conv=>whnf);exact⟨(n2,(v17,w64 (v18+1),ra28,w64 (v18+1))),hl2,kW,Nat.lt_succ_self _⟩
    ·replace hl2:=ag hc32 hl2;(conv=>whnf);refine Side.mk ⟨rfl,rfl⟩ ?_;cases hl2;(conv=>whnf);refine⟨(),trivial,Sub.eq rfl ?_ ?_⟩
     ·(repeat ((conv=>whnf);refine nr ?_));exact trivial
     ·(conv=>whnf);refine no ?_;exact trivial
  ·rintro _ _;refine ws ?_;(conv=>whnf);cases h;exact rfl
theorem jK{N:Nat}(hN:N≤1073741824){l1:FrameLaw}{sheet1:List Int}{r:Int}(h:fj N l1 sheet1=some r) :
    ACalls Tryz.prog 18 [.d (.agg [I l1.fFrames,I l1.fPins,I l1.fBalls,I l1.fTap]),.d (.list 1 (List.map I sheet1))] [] fun e os=>e=.ret (.d (I r))∧os=[]:=by
  refine ah (fresh:=false) al ap ⟨[2],[],[],[],[],0,[]⟩ Tryz.func18 rfl Tryz.call18 rfl ?_
  unfold fj at h
  obtain⟨r6,hx6,h⟩:=ab h;(conv=>whnf);refine CallG.pure _ (Cl hN hx6) ?_;refine wB (fun hc4=>?_) (fun hc4=>?_)
  ·replace h:=af hc4 h;(conv=>whnf);cases h;exact rfl
  ·replace h:=ag hc4 h;(conv=>whnf);refine LnA.mk _ (List.length_map _) ?_;refine wB (fun hc5=>?_) (fun hc5=>?_)
   ·replace h:=af hc5 h;(conv=>whnf);cases h;exact rfl
   ·replace h:=ag hc5 h;obtain⟨r8,hx8,h⟩:=ab h;(conv=>whnf);refine CallG.pure _ (qe hN hx8) ?_;(conv=>whnf);refine LnA.mk _ (List.length_map _) ?_;refine wB (fun hc6=>?_) (fun hc6=>?_)
    ·replace h:=af hc6 h;(conv=>whnf);cases h;exact rfl
    ·replace h:=ag hc6 h;(conv=>whnf);cases h;exact rfl
theorem gv{N:Nat}(hN:N≤1073741824){l1:List Int}{r:Int}(h:fL N l1=some r) :
    ACalls Tryz.prog 43 [.d (.list 1 (List.map I l1))] [] fun e os=>e=.ret (.d (I r))∧os=[]:=by
  refine ah (fresh:=false) al ap ⟨[],[],[],[],[1001],0,[]⟩ Tryz.func43 rfl Tryz.call43 rfl ?_
  unfold fL at h
  obtain⟨n6,hx13,h⟩:=ab h;(conv=>whnf);refine SeqG.mk Unit (fun y=>[(2,.d (I n6))]) (fun y=>[]) (fun _=>True) ?_ ?_
  ·(conv=>whnf);refine LnA.mk _ (List.length_map _) ?_;(conv=>whnf);refine LoopG.mk (Nat×(Int×Int×Int)) (fun y=>[(2,.d (I y.2.1)),(5,.d (.list 1 (List.map I l1))),(6,.d (I y.2.2.1)),(7,.d (I y.2.2.2))]) (fun y=>[]) (fun y=>aj (fun rr x=>fK N l1 rr x.1 x.2.1 x.2.2) y.1 y.2=some n6) (fun y=>y.1) (N,(0,(l1.length:Int),0)) hx13 (Sub.eq rfl ?_ ?_) ?_
   ·(repeat ((conv=>whnf);refine nr ?_));exact trivial
   ·exact trivial
   ·rintro⟨n11,⟨n10,v17,v18⟩⟩ hl2;obtain⟨n11,rfl,hl2⟩:=ar hl2;replace hl2:fK N l1 (aj (fun rr x=>fK N l1 rr x.1 x.2.1 x.2.2) n11) n10 v17 v18=some n6:=hl2;rw[fK]at hl2;refine wB (fun hc12=>?_) (fun hc12=>?_)
    ·replace hl2:=af hc12 hl2;obtain⟨x24,hx25,hl2⟩:=ab hl2;(conv=>whnf);refine Side.mk rfl ⟨_,aC hx25,ak _ hx25,?_⟩;(conv=>whnf);exact⟨(n11,(w64 (n10+x24),v17,w64 (v18+1))),hl2,kW,Nat.lt_succ_self _⟩
    ·replace hl2:=ag hc12 hl2;cases hl2;(conv=>whnf);exact⟨(),trivial,kW⟩
  ·rintro _ _;(conv=>whnf);cases h;exact rfl
end Go.Proofs.YtfnicgdcofjlpaaGreatDoor
