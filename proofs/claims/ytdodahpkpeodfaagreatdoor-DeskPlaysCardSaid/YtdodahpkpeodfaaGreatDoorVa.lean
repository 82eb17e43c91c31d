/-
  Walks: what the typed functions compute, the program’s functions return.
-/
import Derived.Test.YtdodahpkpeodfaaGreatDoorWe
namespace Go.Proofs.YtdodahpkpeodfaaGreatDoor
open Go Go.Abs Go.Kp
set_option maxRecDepth 100000
set_option maxHeartbeats 8000000
set_option linter.all false
theorem sf{N:Nat}(hN:N≤1073741824){lines1:List (List UInt8)}{r:Bool}(h:j0 N lines1=some r) :
    ACalls Tryz.prog 8 [.d (.list 1 (List.map D.str lines1))] [] fun e os=>e=.ret (.d (.bool r))∧os=[]:=by
  refine ah (fresh:=false) al ap ⟨[],[],[],[],[2,1001],0,[]⟩ Tryz.func8 rfl Tryz.call8 rfl ?_
  unfold j0 at h
  repeat' ((conv=>whnf)<;>first|refine u (k:=?_)|exact v|refine st0 1001 (F:=C7 (iN N lines1)) r [0] (fun y=>[]) ?_ ?_|refine lp0 2 h [0] (fun y=>[(3,.d (I y.x))]) ?_ ?_|refine sq0 2 h [0,3] (fun x=>[(11,.d (.bool x))]) ?_ ?_|(rw[bK]at h;delta w64 at h)|unfold iN at h|intro _|refine Br.mk (fun _=>?_) fun _=>?_|refine TyG.mk fun _ h=>?_|(refine hs h ?_;intro _ _ h)|fail)
theorem i6{N:Nat}(hN:N≤1073741824) {r:(List (List UInt8))}(h:gl N=some r) :
    ACalls Tryz.prog 32 [] [] fun e os=>∃hd,e=.ret (.sl 0 hd)∧os=[(0,.arr hd 9 1 false (List.map D.str r))]:=by
  refine gk al ap ⟨[],[],[],[],[],0,[]⟩ Tryz.func32 rfl Tryz.call32 rfl ?_
  unfold gl at h
  repeat' ((conv=>whnf)<;>first|refine u (k:=?_)|exact v|intro _|refine Br.mk (fun _=>?_) fun _=>?_|(refine hs h ?_;intro _ _ h)|fail)
theorem mD{N:Nat}(hN:N≤1073741824){l1:Int}{s1:List UInt8}{r:Bool}(h:gA N l1 s1=some r) :
    ACalls Tryz.prog 75 [.d (I l1),.d (.str s1)] [] fun e os=>e=.ret (.d (.bool r))∧os=[]:=by
  refine ah (fresh:=false) al ap ⟨[],[],[],[],[],0,[]⟩ Tryz.func75 rfl Tryz.call75 rfl ?_
  unfold gA at h
  repeat' ((conv=>whnf)<;>first|refine u (k:=?_)|exact v|intro _|refine Br.mk (fun _=>?_) fun _=>?_|(refine hs h ?_;intro _ _ h)|fail)
theorem uj{N:Nat}(hN:N≤1073741824){x1:List UInt8}{a1:Int}{r:Bool}(h:kV N x1 a1=some r) :
    ACalls Tryz.prog 116 [.d (.str x1),.d (.ref (.agg [.fn (.func 75) [I a1] []]))] [] fun e os=>e=.ret (.d (.bool r))∧os=[]:=by
  refine ah (fresh:=false) al ap ⟨[],[],[],[],[],0,[]⟩ Tryz.func116 rfl Tryz.call116 rfl ?_
  unfold kV at h
  repeat' ((conv=>whnf)<;>first|refine u (k:=?_)|exact v|refine cp (mD hN am) ?_|intro _|refine Br.mk (fun _=>?_) fun _=>?_|(refine hs h ?_;intro _ _ h)|fail)
theorem lV{N:Nat}(hN:N≤1073741824){s1:List (List UInt8)}{f1:Int}{r:Int}(h:fU N s1 f1=some r) :
    ACalls Tryz.prog 163 [.d (.list 1 (List.map D.str s1)),.d (.fn (.func 116) [] [.ref (.agg [.fn (.func 75) [I f1] []])])] [] fun e os=>e=.ret (.d (I r))∧os=[]:=by
  refine ah (fresh:=false) al ap ⟨[],[],[],[],[1001],0,[]⟩ Tryz.func163 rfl Tryz.call163 rfl ?_
  unfold fU at h
  repeat' ((conv=>whnf)<;>first|refine u (k:=?_)|exact v|refine st0 1001 (F:=C7 (dX N)) r [] (fun y=>[]) ?_ ?_|refine lp0 2 h [0,1] (fun y=>[(7,.d (I y.x.1)),(8,.d (I y.x.2))]) ?_ ?_|refine cp (uj hN am) ?_|(rw[bQ]at h;delta w64 at h)|unfold dX at h|intro _|refine Br.mk (fun _=>?_) fun _=>?_|refine TyG.mk fun _ h=>?_|(refine hs h ?_;intro _ _ h)|fail)
theorem j5{N:Nat}(hN:N≤1073741824){s1:List (List UInt8)}{f1:Int}{r:Bool}(h:dY N s1 f1=some r) :
    ACalls Tryz.prog 115 [.d (.list 1 (List.map D.str s1)),.d (.fn (.func 116) [] [.ref (.agg [.fn (.func 75) [I f1] []])])] [] fun e os=>e=.ret (.d (.bool r))∧os=[]:=by
  refine ah (fresh:=false) al ap ⟨[],[],[],[],[],0,[]⟩ Tryz.func115 rfl Tryz.call115 rfl ?_
  unfold dY at h
  repeat' ((conv=>whnf)<;>first|refine u (k:=?_)|exact v|refine cp (lV hN am) ?_|intro _|refine Br.mk (fun _=>?_) fun _=>?_|(refine hs h ?_;intro _ _ h)|fail)
theorem vK{N:Nat}(hN:N≤1073741824){l1:List (List UInt8)}{right1:Int}{r:Bool}(h:mV N l1 right1=some r) :
    ACalls Tryz.prog 76 [.d (.list 1 (List.map D.str l1)),.d (.fn (.func 75) [I right1] [])] [] fun e os=>e=.ret (.d (.bool r))∧os=[]:=by
  refine ah (fresh:=false) al ap ⟨[3],[],[],[],[],0,[]⟩ Tryz.func76 rfl Tryz.call76 rfl ?_
  unfold mV at h
  repeat' ((conv=>whnf)<;>first|refine u (k:=?_)|exact v|refine cp (j5 hN am) ?_|intro _|refine Br.mk (fun _=>?_) fun _=>?_|(refine hs h ?_;intro _ _ h)|fail)
theorem gP{N:Nat}(hN:N≤1073741824){lines1:List (List UInt8)}{r:Int}(h:dw N lines1=some r) :
    ACalls Tryz.prog 34 [.d (.list 1 (List.map D.str lines1))] [] fun e os=>e=.ret (.d (I r))∧os=[]:=by
  refine ah (fresh:=false) al ap ⟨[],[],[],[],[2],0,[]⟩ Tryz.func34 rfl Tryz.call34 rfl ?_
  unfold dw at h
  repeat' ((conv=>whnf)<;>first|refine u (k:=?_)|exact v|refine sq0 2 h [] (fun x=>[(13,.d (.bool x))]) ?_ ?_|refine cp (vK hN am) ?_|intro _|refine Br.mk (fun _=>?_) fun _=>?_|refine TyG.mk fun _ h=>?_|(refine hs h ?_;intro _ _ h)|fail)
theorem sg{N:Nat}(hN:N≤1073741824) {r:DeskWork}(h:lG N=some r) :
    ACalls Tryz.prog 77 [] [] fun ae os=>∃y:Nat,True∧ae=.ret (.ptr 390003 y 0)∧os=[(390003,.cells y (cW r))]:=by
  refine aJ (fresh:=false) al ap ⟨[],[],[100390003],[],[],390000,[]⟩ Tryz.func77 rfl Tryz.call77 rfl ?_
  unfold lG at h
  repeat' ((conv=>whnf)<;>first|refine u (k:=?_)|exact v|refine Ht DeskLane.enc [(DeskLane.mk (-1) [])] hN rfl ‹_› (by decide) ?_|refine aap DeskLane.enc _ [(DeskLane.mk (-1) [])] hN rfl rfl ‹_› (by decide) ?_|refine lun 3 5 ?_|intro _|refine Br.mk (fun _=>?_) fun _=>?_|(refine hs h ?_;intro _ _ h)|fail)
theorem pj{N:Nat}(hN:N≤1073741824) {r:(List (List UInt8×DeskAct))}(h:nD N=some r) :
    ACalls Tryz.prog 155 [] [] fun ae os=>∃y:Nat,True∧ae=.ret (.mp 780001 y)∧os=[(780001,.map y (List.map (fun p=>(.str p.1,.agg [I p.2.fMany,Cx p.2.fDo])) r))]:=by
  refine aJ (fresh:=false) al ap ⟨[],[],[],[],[],780000,[]⟩ Tryz.func155 rfl Tryz.call155 rfl ?_
  unfold nD at h
  repeat' ((conv=>whnf)<;>first|refine u (k:=?_)|exact v|refine EU (m:=[]) (eK:=(fun x:List UInt8=>.str x)) (eV:=(fun x:DeskAct=>.agg [I x.fMany,Cx x.fDo])) (fun _=>rfl) ?_|refine EU (eK:=(fun x:List UInt8=>.str x)) (eV:=(fun x:DeskAct=>.agg [I x.fMany,Cx x.fDo])) (fun _=>rfl) ?_|refine amu (m:=[]) (eK:=(fun x:List UInt8=>.str x)) (eV:=(fun x:DeskAct=>.agg [I x.fMany,Cx x.fDo])) cM _ (DeskAct.mk 1 0) rfl rfl ?_|refine amu (eK:=(fun x:List UInt8=>.str x)) (eV:=(fun x:DeskAct=>.agg [I x.fMany,Cx x.fDo])) cM _ (DeskAct.mk 2 1) rfl rfl ?_|refine amu (eK:=(fun x:List UInt8=>.str x)) (eV:=(fun x:DeskAct=>.agg [I x.fMany,Cx x.fDo])) cM _ (DeskAct.mk 2 2) rfl rfl ?_|refine amu (eK:=(fun x:List UInt8=>.str x)) (eV:=(fun x:DeskAct=>.agg [I x.fMany,Cx x.fDo])) cM _ (DeskAct.mk 1 3) rfl rfl ?_|refine amu (eK:=(fun x:List UInt8=>.str x)) (eV:=(fun x:DeskAct=>.agg [I x.fMany,Cx x.fDo])) cM _ (DeskAct.mk 1 4) rfl rfl ?_|refine amu (eK:=(fun x:List UInt8=>.str x)) (eV:=(fun x:DeskAct=>.agg [I x.fMany,Cx x.fDo])) cM _ (DeskAct.mk 2 5) rfl rfl ?_|refine amu (eK:=(fun x:List UInt8=>.str x)) (eV:=(fun x:DeskAct=>.agg [I x.fMany,Cx x.fDo])) cM _ (DeskAct.mk 1 6) rfl rfl ?_|refine amu (eK:=(fun x:List UInt8=>.str x)) (eV:=(fun x:DeskAct=>.agg [I x.fMany,Cx x.fDo])) cM _ (DeskAct.mk 1 7) rfl rfl ?_|refine amu (eK:=(fun x:List UInt8=>.str x)) (eV:=(fun x:DeskAct=>.agg [I x.fMany,Cx x.fDo])) cM _ (DeskAct.mk 1 8) rfl rfl ?_|intro _|refine Br.mk (fun _=>?_) fun _=>?_|(refine hs h ?_;intro _ _ h)|fail)
def vL  : DeskRefusal⊕Unit→AE→List (Nat×Ob)→Prop
  | .inl r=>fun ae os=>∃y:Unit,True∧ae=.pan (.ifc 211 (.agg [I r.fE]))∧os=[]
  | .inr r=>fun ae os=>∃y:Unit,True∧ae=.ret (.d (.tup []))∧os=[]
theorem aI{N:Nat}(hN:N≤1073741824){is1:Bool}{e1:Int}{r:DeskRefusal⊕Unit}(h:b7 N is1 e1=some r) :
    ACalls Tryz.prog 156 [.d (.bool is1),.d (I e1)] [] (vL  r):=by
  refine bt (fresh:=false) al ap ⟨[],[],[],[],[],0,[]⟩ Tryz.func156 rfl Tryz.call156 rfl ?_
  unfold b7 at h
  repeat' ((conv=>whnf)<;>first|refine u (k:=?_)|exact v|intro _|refine Br.mk (fun _=>?_) fun _=>?_|(refine hs h ?_;intro _ _ h)|fail)
def rn  : Int⊕DeskRefusal→AE→List (Nat×Ob)→Prop
  | .inl r=>fun ae os=>∃y:Unit,True∧ae=.ret (.d (I r))∧os=[]
  | .inr r=>fun ae os=>∃y:Unit,True∧ae=.pan (.ifc 211 (.agg [I r.fE]))∧os=[]
theorem mr{N:Nat}(hN:N≤1073741824){s1:List UInt8}{r:Int⊕DeskRefusal}(h:C6 N s1=some r) :
    ACalls Tryz.prog 157 [.d (.str s1)] [] (rn  r):=by
  refine bt (fresh:=false) al ap ⟨[],[],[],[],[2],0,[]⟩ Tryz.func157 rfl Tryz.call157 rfl ?_
  unfold C6 at h
  repeat' ((conv=>whnf)<;>first|refine u (k:=?_)|exact v|refine co (mw hN am) ?_|apply st0 2 (F:=C7 (fe N _)) r [3] (fun y=>[]) ?_ ?_|refine cp (my hN am) ?_|refine cp (xn hN am) ?_|refine cq (aI hN am) ?_|refine co (aI hN am) ?_|apply st0 2 (F:=C7 (gY N _)) r [3] (fun y=>[]) ?_ ?_|unfold fe at h|unfold gY at h|intro _|refine Br.mk (fun _=>?_) fun _=>?_|refine TyG.mk fun _ h=>?_|(refine hs h ?_;intro _ _ h)|(refine np ?_;cases ‹_⊕_›)|fail)
theorem fO{N:Nat}(hN:N≤1073741824){n1:Int}{low1:Int}{high1:Int}{r:Bool}(h:cJ N n1 low1 high1=some r) :
    ACalls Tryz.prog 39 [.d (I n1),.d (I low1),.d (I high1)] [] fun e os=>e=.ret (.d (.bool r))∧os=[]:=by
  refine ah (fresh:=false) al ap ⟨[],[],[],[],[1],0,[]⟩ Tryz.func39 rfl Tryz.call39 rfl ?_
  unfold cJ at h
  repeat' ((conv=>whnf)<;>first|refine u (k:=?_)|exact v|refine sq0 1 h [] (fun x=>[(6,.d (.bool x))]) ?_ ?_|intro _|refine Br.mk (fun _=>?_) fun _=>?_|refine TyG.mk fun _ h=>?_|(refine hs h ?_;intro _ _ h)|fail)
theorem oA{N:Nat}(hN:N≤1073741824) {r:Unit}(h:kX N=some r) :
    ACalls Tryz.prog 78 [.nils 1] [] fun e os=>e=.ret (.nils 1)∧os=[]:=by
  refine ah (fresh:=true) al ap ⟨[],[],[],[],[],0,[]⟩ Tryz.func78 rfl Tryz.call78 rfl ?_
  unfold kX at h
  repeat' ((conv=>whnf)<;>first|refine u (k:=?_)|exact v|intro _|refine Br.mk (fun _=>?_) fun _=>?_|(refine hs h ?_;intro _ _ h)|fail)
theorem oB{N:Nat}(hN:N≤1073741824){s1:List Int}{r:(List Int)}(h:gc N s1=some r) :
    ACalls Tryz.prog 78 [.nn 1 (List.map I s1)] [] fun e os=>∃hd,e=.ret (.sl 0 hd)∧os=[(0,.arr hd 3 1 false (List.map I r))]:=by
  refine gk al ap ⟨[],[],[],[],[],0,[]⟩ Tryz.func78 rfl Tryz.call78 rfl ?_
  unfold gc at h
  repeat' ((conv=>whnf)<;>first|refine u (k:=?_)|exact v|refine aap I [] _ hN rfl rfl ‹_› (by decide) ?_|intro _|refine Br.mk (fun _=>?_) fun _=>?_|(refine hs h ?_;intro _ _ h)|fail)
theorem bB{N:Nat}(hN:N≤1073741824){l:List Int}{r:(List Int)}(h:cG N l=some r) :
    ACalls Tryz.prog 78 [.d (.list 1 (List.map I l))] [] fun e os=>∃hd,e=.ret (.sl 0 hd)∧os=[(0,.arr hd 3 1 false (List.map I r))]:=by
  unfold cG at h
  refine ACalls.nils_or (fun e=>?_) (oB hN h)
  have e2:=List.map_eq_nil_iff.1 e
  subst e2
  have e3:r=[]:=by simpa [gc,app]using h.symm
  subst e3
  exact ACalls.nil_own (oA hN (r:=()) rfl)
theorem lW{N:Nat}(hN:N≤1073741824){l1:List Int}{x1:Int}{r:(List Int)}(h:jw N l1 x1=some r) :
    ACalls Tryz.prog 244 [.d (.list 1 (List.map I l1)),.d (I x1)] [] fun e os=>e=.ret (.d (.list 1 (List.map I r)))∧os=[]:=by
  refine ah (fresh:=false) al ap ⟨[],[],[],[],[],0,[]⟩ Tryz.func244 rfl Tryz.call244 rfl ?_
  unfold jw at h
  repeat' ((conv=>whnf)<;>first|refine u (k:=?_)|exact v|refine cf 6 6 (bB hN am) ?_|intro _|refine Br.mk (fun _=>?_) fun _=>?_|(refine hs h ?_;intro _ _ h)|fail)
theorem nY{N:Nat}(hN:N≤1073741824) {r:Unit}(h:j8 N=some r) :
    ACalls Tryz.prog 251 [.nils 1] [] fun e os=>e=.ret (.nils 1)∧os=[]:=by
  refine ah (fresh:=true) al ap ⟨[],[],[],[],[],0,[]⟩ Tryz.func251 rfl Tryz.call251 rfl ?_
  unfold j8 at h
  repeat' ((conv=>whnf)<;>first|refine u (k:=?_)|exact v|intro _|refine Br.mk (fun _=>?_) fun _=>?_|(refine hs h ?_;intro _ _ h)|fail)
theorem nZ{N:Nat}(hN:N≤1073741824){s1:List (List Int)}{r:(List (List Int))}(h:ff N s1=some r) :
    ACalls Tryz.prog 251 [.nn 1 (List.map eL s1)] [] fun e os=>∃hd,e=.ret (.sl 0 hd)∧os=[(0,.arr hd 25 1 false (List.map eL r))]:=by
  refine gk al ap ⟨[],[],[],[],[],0,[]⟩ Tryz.func251 rfl Tryz.call251 rfl ?_
  unfold ff at h
  repeat' ((conv=>whnf)<;>first|refine u (k:=?_)|exact v|refine aap eL [] _ hN rfl rfl ‹_› (by decide) ?_|intro _|refine Br.mk (fun _=>?_) fun _=>?_|(refine hs h ?_;intro _ _ h)|fail)
theorem j9{N:Nat}(hN:N≤1073741824){l:List (List Int)}{r:(List (List Int))}(h:gd N l=some r) :
    ACalls Tryz.prog 251 [.d (.list 1 (List.map eL l))] [] fun e os=>∃hd,e=.ret (.sl 0 hd)∧os=[(0,.arr hd 25 1 false (List.map eL r))]:=by
  unfold gd at h
  refine ACalls.nils_or (fun e=>?_) (nZ hN h)
  have e2:=List.map_eq_nil_iff.1 e
  subst e2
  have e3:r=[]:=by simpa [ff,app]using h.symm
  subst e3
  exact ACalls.nil_own (nY hN (r:=()) rfl)
theorem sh{N:Nat}(hN:N≤1073741824){l1:List (List Int)}{x1:List Int}{r:(List (List Int))}(h:lH N l1 x1=some r) :
    ACalls Tryz.prog 245 [.d (.list 1 (List.map eL l1)),.d (.list 1 (List.map I x1))] [] fun e os=>e=.ret (.d (.list 1 (List.map eL r)))∧os=[]:=by
  refine ah (fresh:=false) al ap ⟨[],[],[],[],[],0,[]⟩ Tryz.func245 rfl Tryz.call245 rfl ?_
  unfold lH at h
  repeat' ((conv=>whnf)<;>first|refine u (k:=?_)|exact v|refine aap eL _ [_] hN rfl rfl ‹_› (by decide) ?_|refine cf 6 6 (j9 hN am) ?_|intro _|refine Br.mk (fun _=>?_) fun _=>?_|(refine hs h ?_;intro _ _ h)|fail)
def mE (bo1:Nat):(DeskRefusal×DeskWork)⊕DeskWork→AE→List (Nat×Ob)→Prop
  | .inl r=>fun ae os=>∃y:Unit,True∧ae=.pan (.ifc 211 (.agg [I r.1.fE]))∧os=[(390003,.cells bo1 (cW r.2))]
  | .inr r=>fun ae os=>∃y:Unit,True∧ae=.ret (.d (.tup []))∧os=[(390003,.cells bo1 (cW r))]
theorem jm{N:Nat}(hN:N≤1073741824){n1:List Int}{c1:DeskWork}{bo1:Nat}{r:(DeskRefusal×DeskWork)⊕DeskWork}(h:gB N n1 c1=some r) :
    ACalls Tryz.prog 204 [.ptr 390003 bo1 0,.d (.list 1 (List.map I n1))] [(390003,.cells bo1 (cW c1))] (mE bo1 r):=by
  refine bt (fresh:=false) al ap ⟨[],[],[],[],[],400000,[]⟩ Tryz.func204 rfl Tryz.call204 rfl ?_
  unfold gB at h
  repeat' ((conv=>whnf)<;>first|refine u (k:=?_)|exact v|refine cp (fO hN am) ?_|refine cq (aI hN am) ?_|refine co (aI hN am) ?_|refine dr 0 25 (tkA 10 0 (tkA 5 11 (.alt 10 [15,14,13,12,11,8,7,5,4,3,2,1,0] (.alt 16 [14,13,12,11,8,7,5,4,3,2,1,0] (tkA 3 17 (.alt 20 [18,17,14,13,12,11,1] (tkA 3 21 (.alt 24 [22,21] .done .nil)) .nil)) .nil) .nil))) rfl (by kernel_rfl) ?_|refine cp (lW hN am) ?_|refine cp (sh (x1:=[]) hN am) ?_|intro _|refine Br.mk (fun _=>?_) fun _=>?_|(refine hs h ?_;intro _ _ h)|(refine np ?_;cases ‹_⊕_›)|fail)
def oC (bo1:Nat)(c1:DeskWork):DeskRefusal⊕DeskLane→AE→List (Nat×Ob)→Prop
  | .inl r=>fun ae os=>∃y:Unit,True∧ae=.pan (.ifc 211 (.agg [I r.fE]))∧os=[(390003,.cells bo1 (cW c1))]
  | .inr r=>fun ae os=>∃y:Unit,True∧ae=.ret (.d (.agg [I r.fBowler,.list 1 (List.map I r.fBalls)]))∧os=[(390003,.cells bo1 (cW c1))]
theorem CT{N:Nat}(hN:N≤1073741824){n1:Int}{c1:DeskWork}{bo1:Nat}{r:DeskRefusal⊕DeskLane}(h:Cl N n1 c1=some r) :
    ACalls Tryz.prog 246 [.ptr 390003 bo1 0,.d (I n1)] [(390003,.cells bo1 (cW c1))] (oC bo1 c1 r):=by
  refine bt (fresh:=false) al ap ⟨[],[],[],[],[],400000,[]⟩ Tryz.func246 rfl Tryz.call246 rfl ?_
  unfold Cl at h
  delta w64 at h
  repeat' ((conv=>whnf)<;>first|refine u (k:=?_)|exact v|refine cp (fO hN am) ?_|refine cq (aI hN am) ?_|refine co (aI hN am) ?_|intro _|refine Br.mk (fun _=>?_) fun _=>?_|(refine hs h ?_;intro _ _ h)|(refine np ?_;cases ‹_⊕_›)|fail)
theorem jH{N:Nat}(hN:N≤1073741824){n1:Int}{c1:DeskWork}{bo1:Nat}{r:Bool}(h:fg N n1 c1=some r) :
    ACalls Tryz.prog 45 [.ptr 390003 bo1 0,.d (I n1)] [(390003,.cells bo1 (cW c1))] fun ae os=>∃y:Unit,True∧ae=.ret (.d (.bool r))∧os=[(390003,.cells bo1 (cW c1))]:=by
  refine aJ (fresh:=false) al ap ⟨[],[],[],[],[],400000,[]⟩ Tryz.func45 rfl Tryz.call45 rfl ?_
  unfold fg at h
  delta w64 at h
  repeat' ((conv=>whnf)<;>first|refine u (k:=?_)|exact v|refine cp (fO hN am) ?_|intro _|refine Br.mk (fun _=>?_) fun _=>?_|(refine hs h ?_;intro _ _ h)|fail)
theorem EG{N:Nat}(hN:N≤1073741824){y1:DeskLane}{a1:List Int}{r:Bool}(h:gZ N y1 a1=some r) :
    ACalls Tryz.prog 247 [.d (.agg [I y1.fBowler,.list 1 (List.map I y1.fBalls)]),.d (.ref (.agg [.list 1 (List.map I a1)]))] [] fun e os=>e=.ret (.d (.bool r))∧os=[]:=by
  refine ah (fresh:=false) al ap ⟨[2],[],[],[],[],0,[]⟩ Tryz.func247 rfl Tryz.call247 rfl ?_
  unfold gZ at h
  repeat' ((conv=>whnf)<;>first|refine u (k:=?_)|exact v|refine dr 0 4 (tkA 7 0 .done) rfl (by kernel_rfl) ?_|intro _|refine Br.mk (fun _=>?_) fun _=>?_|(refine hs h ?_;intro _ _ h)|fail)
theorem lc{N:Nat}(hN:N≤1073741824){s1:List DeskLane}{f1:List Int}{r:Int}(h:eY N s1 f1=some r) :
    ACalls Tryz.prog 279 [.d (.list 2 (List.map DeskLane.enc s1)),.d (.fn (.func 247) [] [.ref (.agg [.list 1 (List.map I f1)])])] [] fun e os=>e=.ret (.d (I r))∧os=[]:=by
  refine ah (fresh:=false) al ap ⟨[],[],[],[],[1001],0,[]⟩ Tryz.func279 rfl Tryz.call279 rfl ?_
  unfold eY at h
  repeat' ((conv=>whnf)<;>first|refine u (k:=?_)|exact v|refine st0 1001 (F:=C7 (dC N)) r [] (fun y=>[]) ?_ ?_|refine lp0 2 h [0,1] (fun y=>[(7,.d (I y.x.1)),(8,.d (I y.x.2))]) ?_ ?_|refine cp (EG hN am) ?_|(rw[bI]at h;delta w64 at h)|unfold dC at h|intro _|refine Br.mk (fun _=>?_) fun _=>?_|refine TyG.mk fun _ h=>?_|(refine hs h ?_;intro _ _ h)|fail)
theorem jI{N:Nat}(hN:N≤1073741824){s1:List DeskLane}{f1:List Int}{r:Bool}(h:dD N s1 f1=some r) :
    ACalls Tryz.prog 248 [.d (.list 2 (List.map DeskLane.enc s1)),.d (.fn (.func 247) [] [.ref (.agg [.list 1 (List.map I f1)])])] [] fun e os=>e=.ret (.d (.bool r))∧os=[]:=by
  refine ah (fresh:=false) al ap ⟨[],[],[],[],[],0,[]⟩ Tryz.func248 rfl Tryz.call248 rfl ?_
  unfold dD at h
  repeat' ((conv=>whnf)<;>first|refine u (k:=?_)|exact v|refine cp (lc hN am) ?_|intro _|refine Br.mk (fun _=>?_) fun _=>?_|(refine hs h ?_;intro _ _ h)|fail)
theorem mF{N:Nat}(hN:N≤1073741824) {r:Unit}(h:jx N=some r) :
    ACalls Tryz.prog 280 [.nils 2] [] fun e os=>e=.ret (.nils 2)∧os=[]:=by
  refine ah (fresh:=true) al ap ⟨[],[],[],[],[],0,[]⟩ Tryz.func280 rfl Tryz.call280 rfl ?_
  unfold jx at h
  repeat' ((conv=>whnf)<;>first|refine u (k:=?_)|exact v|intro _|refine Br.mk (fun _=>?_) fun _=>?_|(refine hs h ?_;intro _ _ h)|fail)
theorem mG{N:Nat}(hN:N≤1073741824){s1:List DeskLane}{r:(List DeskLane)}(h:eA N s1=some r) :
    ACalls Tryz.prog 280 [.nn 2 (List.map DeskLane.enc s1)] [] fun e os=>∃hd,e=.ret (.sl 0 hd)∧os=[(0,.arr hd 91 2 false (List.map DeskLane.enc r))]:=by
  refine gk al ap ⟨[],[],[],[],[],0,[]⟩ Tryz.func280 rfl Tryz.call280 rfl ?_
  unfold eA at h
  repeat' ((conv=>whnf)<;>first|refine u (k:=?_)|exact v|refine aap DeskLane.enc [] _ hN rfl rfl ‹_› (by decide) ?_|intro _|refine Br.mk (fun _=>?_) fun _=>?_|(refine hs h ?_;intro _ _ h)|fail)
theorem jJ{N:Nat}(hN:N≤1073741824){l:List DeskLane}{r:(List DeskLane)}(h:fh N l=some r) :
    ACalls Tryz.prog 280 [.d (.list 2 (List.map DeskLane.enc l))] [] fun e os=>∃hd,e=.ret (.sl 0 hd)∧os=[(0,.arr hd 91 2 false (List.map DeskLane.enc r))]:=by
  unfold fh at h
  refine ACalls.nils_or (fun e=>?_) (mG hN h)
  have e2:=List.map_eq_nil_iff.1 e
  subst e2
  have e3:r=[]:=by simpa [eA,app]using h.symm
  subst e3
  exact ACalls.nil_own (mF hN (r:=()) rfl)
theorem ld{N:Nat}(hN:N≤1073741824){lane1:Int}{x1:DeskLane}{c1:DeskWork}{bo1:Nat}{r:DeskWork}(h:gU N lane1 x1 c1=some r) :
    ACalls Tryz.prog 249 [.ptr 390003 bo1 0,.d (I lane1),.d (.agg [I x1.fBowler,.list 1 (List.map I x1.fBalls)])] [(390003,.cells bo1 (cW c1))] fun ae os=>∃y:Unit,True∧ae=.ret (.d (.tup []))∧os=[(390003,.cells bo1 (cW r))]:=by
  refine aJ (fresh:=false) al ap ⟨[5],[],[100390003],[],[],400000,[]⟩ Tryz.func249 rfl Tryz.call249 rfl ?_
  unfold gU at h
  repeat' ((conv=>whnf)<;>first|refine u (k:=?_)|exact v|refine cf 12 400012 (jJ hN am) ?_|refine dr 0 16 (tkA 8 0 (.alt 8 [] .done .nil)) rfl (by kernel_rfl) ?_|intro _|refine Br.mk (fun _=>?_) fun _=>?_|(refine hs h ?_;intro _ _ h)|fail)
def oD (bo1:Nat):(DeskRefusal×DeskWork)⊕DeskWork→AE→List (Nat×Ob)→Prop
  | .inl r=>fun ae os=>∃y:Unit,True∧ae=.pan (.ifc 211 (.agg [I r.1.fE]))∧os=[(390003,.cells bo1 (cW r.2))]
  | .inr r=>fun ae os=>∃y:Unit,True∧ae=.ret (.d (.tup []))∧os=[(390003,.cells bo1 (cW r))]
theorem ka{N:Nat}(hN:N≤1073741824){n1:List Int}{c1:DeskWork}{bo1:Nat}{r:(DeskRefusal×DeskWork)⊕DeskWork}(h:iO N n1 c1=some r) :
    ACalls Tryz.prog 205 [.ptr 390003 bo1 0,.d (.list 1 (List.map I n1))] [(390003,.cells bo1 (cW c1))] (oD bo1 r):=by
  refine bt (fresh:=false) al ap ⟨[3],[],[],[],[4],400000,[]⟩ Tryz.func205 rfl Tryz.call205 rfl ?_
  unfold iO at h
  repeat' ((conv=>whnf)<;>first|refine u (k:=?_)|exact v|refine cq (CT hN am) ?_|refine co (CT hN am) ?_|refine co (jH hN am) ?_|refine cq (aI hN am) ?_|refine co (aI hN am) ?_|refine st 4 (F:=C7 (dP N n1 c1)) r [0,3] [390003] [] [] () (fun p y=>[]) (fun p y=>[]) ?_ ?_|refine cp (jI hN am) ?_|refine dr 0 32 (tkA 7 0 (.alt 7 [5,4,3,2,1,0] (.alt 8 [5,4,2,1] .done .nil) .nil)) rfl (by kernel_rfl) ?_|refine co (ld (x1:=(DeskLane.mk _ [])) hN am) ?_|unfold dP at h|intro _|refine Br.mk (fun _=>?_) fun _=>?_|refine TyG.mk fun _ h=>?_|(refine hs h ?_;intro _ _ h)|(refine np ?_;cases ‹_⊕_›)|fail)
def oE (bo1:Nat)(c1:DeskWork):DeskRefusal⊕DeskLane→AE→List (Nat×Ob)→Prop
  | .inl r=>fun ae os=>∃y:Unit,True∧ae=.pan (.ifc 211 (.agg [I r.fE]))∧os=[(390003,.cells bo1 (cW c1))]
  | .inr r=>fun ae os=>∃y:Unit,True∧ae=.ret (.d (.agg [I r.fBowler,.list 1 (List.map I r.fBalls)]))∧os=[(390003,.cells bo1 (cW c1))]
theorem fy{N:Nat}(hN:N≤1073741824){n1:Int}{c1:DeskWork}{bo1:Nat}{r:DeskRefusal⊕DeskLane}(h:gf N n1 c1=some r) :
    ACalls Tryz.prog 250 [.ptr 390003 bo1 0,.d (I n1)] [(390003,.cells bo1 (cW c1))] (oE bo1 c1 r):=by
  refine bt (fresh:=false) al ap ⟨[],[],[],[],[],400000,[]⟩ Tryz.func250 rfl Tryz.call250 rfl ?_
  unfold gf at h
  repeat' ((conv=>whnf)<;>first|refine u (k:=?_)|exact v|refine cq (CT hN am) ?_|refine co (CT hN am) ?_|refine cq (aI hN am) ?_|refine co (aI hN am) ?_|intro _|refine Br.mk (fun _=>?_) fun _=>?_|(refine hs h ?_;intro _ _ h)|(refine np ?_;cases ‹_⊕_›)|fail)
theorem fP{N:Nat}(hN:N≤1073741824) {r:FrameLaw}(h:iP N=some r) :
    ACalls Tryz.prog 41 [] [] fun e os=>e=.ret (.d (.agg [I r.fFrames,I r.fPins,I r.fBalls,I r.fTap]))∧os=[]:=by
  refine ah (fresh:=false) al ap ⟨[],[],[],[],[],0,[]⟩ Tryz.func41 rfl Tryz.call41 rfl ?_
  unfold iP at h
  repeat' ((conv=>whnf)<;>first|refine u (k:=?_)|exact v|intro _|refine Br.mk (fun _=>?_) fun _=>?_|(refine hs h ?_;intro _ _ h)|fail)
theorem eQ{N:Nat}(hN:N≤1073741824){n1:Int}{low1:Int}{high1:Int}{r:Bool}(h:db N n1 low1 high1=some r) :
    ACalls Tryz.prog 164 [.d (I n1),.d (I low1),.d (I high1)] [] fun e os=>e=.ret (.d (.bool r))∧os=[]:=by
  refine ah (fresh:=false) al ap ⟨[],[],[],[],[1],0,[]⟩ Tryz.func164 rfl Tryz.call164 rfl ?_
  unfold db at h
  repeat' ((conv=>whnf)<;>first|refine u (k:=?_)|exact v|refine sq0 1 h [] (fun x=>[(6,.d (.bool x))]) ?_ ?_|intro _|refine Br.mk (fun _=>?_) fun _=>?_|refine TyG.mk fun _ h=>?_|(refine hs h ?_;intro _ _ h)|fail)
theorem EO{N:Nat}(hN:N≤1073741824){l1:FrameLaw}{r:Int}(h:Cr N l1=some r) :
    ACalls Tryz.prog 117 [.d (.agg [I l1.fFrames,I l1.fPins,I l1.fBalls,I l1.fTap])] [] fun e os=>e=.ret (.d (I r))∧os=[]:=by
  refine ah (fresh:=false) al ap ⟨[1],[],[],[],[1],0,[]⟩ Tryz.func117 rfl Tryz.call117 rfl ?_
  unfold Cr at h
  repeat' ((conv=>whnf)<;>first|refine u (k:=?_)|exact v|refine sq0 1 h [] (fun x=>[(26,.d (.bool x))]) ?_ ?_|refine cp (eQ hN am) ?_|intro _|refine Br.mk (fun _=>?_) fun _=>?_|refine TyG.mk fun _ h=>?_|(refine hs h ?_;intro _ _ h)|fail)
theorem eR{N:Nat}(hN:N≤1073741824){l1:FrameLaw}{sheet1:List Int}{r:FrameLaw×(List Int)}(h:cS N l1 sheet1=some r) :
    ACalls Tryz.prog 82 [.d (.agg [I l1.fFrames,I l1.fPins,I l1.fBalls,I l1.fTap]),.d (.list 1 (List.map I sheet1))] [] fun e os=>e=.ret (.d (.fn (.func 120) [] [.ref (.agg [I r.1.fFrames,I r.1.fPins,I r.1.fBalls,I r.1.fTap]),.ref (.agg [.list 1 (List.map I r.2)])]))∧os=[]:=by
  refine ah (fresh:=false) al ap ⟨[2,3],[],[],[],[],0,[]⟩ Tryz.func82 rfl Tryz.call82 rfl ?_
  unfold cS at h
  repeat' ((conv=>whnf)<;>first|refine u (k:=?_)|exact v|intro _|refine Br.mk (fun _=>?_) fun _=>?_|(refine hs h ?_;intro _ _ h)|fail)
theorem cE{N:Nat}(hN:N≤1073741824){l1:FrameLaw}{r:FramePlay}(h:bL N l1=some r) :
    ACalls Tryz.prog 121 [.d (.agg [I l1.fFrames,I l1.fPins,I l1.fBalls,I l1.fTap])] [] fun e os=>e=.ret (.d (.agg [I r.fLaw.fFrames,I r.fLaw.fPins,I r.fLaw.fBalls,I r.fLaw.fTap,I r.fAt.fFrame,I r.fAt.fThrown,I r.fAt.fStanding,.bool r.fAt.fFresh,I r.fAt.fNeed,I r.fAt.fAfter.a0,I r.fAt.fAfter.a1]))∧os=[]:=by
  refine ah (fresh:=false) al ap ⟨[1],[],[],[],[],0,[]⟩ Tryz.func121 rfl Tryz.call121 rfl ?_
  unfold bL at h
  repeat' ((conv=>whnf)<;>first|refine u (k:=?_)|exact v|intro _|refine Br.mk (fun _=>?_) fun _=>?_|(refine hs h ?_;intro _ _ h)|fail)
theorem eT{N:Nat}(hN:N≤1073741824){p1:FramePlay}{r:Bool}(h:cT N p1=some r) :
    ACalls Tryz.prog 84 [.d (.agg [I p1.fLaw.fFrames,I p1.fLaw.fPins,I p1.fLaw.fBalls,I p1.fLaw.fTap,I p1.fAt.fFrame,I p1.fAt.fThrown,I p1.fAt.fStanding,.bool p1.fAt.fFresh,I p1.fAt.fNeed,I p1.fAt.fAfter.a0,I p1.fAt.fAfter.a1])] [] fun e os=>e=.ret (.d (.bool r))∧os=[]:=by
  refine ah (fresh:=false) al ap ⟨[1],[],[],[],[],0,[]⟩ Tryz.func84 rfl Tryz.call84 rfl ?_
  unfold cT at h
  repeat' ((conv=>whnf)<;>first|refine u (k:=?_)|exact v|intro _|refine Br.mk (fun _=>?_) fun _=>?_|(refine hs h ?_;intro _ _ h)|fail)
theorem fA{N:Nat}(hN:N≤1073741824){p1:FramePlay}{ball1:Int}{r:Bool}(h:dx N p1 ball1=some r) :
    ACalls Tryz.prog 122 [.d (.agg [I p1.fLaw.fFrames,I p1.fLaw.fPins,I p1.fLaw.fBalls,I p1.fLaw.fTap,I p1.fAt.fFrame,I p1.fAt.fThrown,I p1.fAt.fStanding,.bool p1.fAt.fFresh,I p1.fAt.fNeed,I p1.fAt.fAfter.a0,I p1.fAt.fAfter.a1]),.d (I ball1)] [] fun e os=>e=.ret (.d (.bool r))∧os=[]:=by
  refine ah (fresh:=false) al ap ⟨[2],[],[],[],[1],0,[]⟩ Tryz.func122 rfl Tryz.call122 rfl ?_
  unfold dx at h
  repeat' ((conv=>whnf)<;>first|refine u (k:=?_)|exact v|refine sq0 1 h [] (fun x=>[(4,.d (.bool x))]) ?_ ?_|refine cp (eT hN am) ?_|refine cp (eQ hN am) ?_|intro _|refine Br.mk (fun _=>?_) fun _=>?_|refine TyG.mk fun _ h=>?_|(refine hs h ?_;intro _ _ h)|fail)
theorem aS{N:Nat}(hN:N≤1073741824){p1:FramePlay}{ball1:Int}{r:FramePlay×Int×Int}(h:bA N p1 ball1=some r) :
    ACalls Tryz.prog 123 [.d (.agg [I p1.fLaw.fFrames,I p1.fLaw.fPins,I p1.fLaw.fBalls,I p1.fLaw.fTap,I p1.fAt.fFrame,I p1.fAt.fThrown,I p1.fAt.fStanding,.bool p1.fAt.fFresh,I p1.fAt.fNeed,I p1.fAt.fAfter.a0,I p1.fAt.fAfter.a1]),.d (I ball1)] [] fun e os=>e=.ret (.d (.tup [.agg [I r.1.fLaw.fFrames,I r.1.fLaw.fPins,I r.1.fLaw.fBalls,I r.1.fLaw.fTap,I r.1.fAt.fFrame,I r.1.fAt.fThrown,I r.1.fAt.fStanding,.bool r.1.fAt.fFresh,I r.1.fAt.fNeed,I r.1.fAt.fAfter.a0,I r.1.fAt.fAfter.a1],I r.2.1,I r.2.2]))∧os=[]:=by
  refine ah (fresh:=false) al ap ⟨[],[],[],[],[2,10,13,15,17,1002,1010,1017],0,[]⟩ Tryz.func123 rfl Tryz.call123 rfl ?_
  unfold bA at h
  delta w64 at h
  repeat' ((conv=>whnf)<;>first|refine u (k:=?_)|exact v|refine sq 1002 h [2,4] [2,4] [] [] () (fun p x y=>[(7,.d (I x))]) (fun p x y=>[]) ?_ ?_|refine sq 2 h [2,4] [2,4] [] [] () (fun p x y=>[(7,.d (I x.1)),(22,.d (.bool x.2))]) (fun p x y=>[]) ?_ ?_|apply sq 1010 h [2,4,7] [4] [] [] (_:Nat) (fun p x y=>[(8,.d (I x.1)),(9,.d (.bool x.2.1)),(10,.d (.bool x.2.2.1))]) (fun p x y=>[(2,.cells p [.d (I x.2.2.2.fLaw.fFrames),.d (I x.2.2.2.fLaw.fPins),.d (I x.2.2.2.fLaw.fBalls),.d (I x.2.2.2.fLaw.fTap),.d (I x.2.2.2.fAt.fFrame),.d (I x.2.2.2.fAt.fThrown),.d (I x.2.2.2.fAt.fStanding),.d (.bool x.2.2.2.fAt.fFresh),.d (I x.2.2.2.fAt.fNeed),.d (I x.2.2.2.fAt.fAfter.a0),.d (I x.2.2.2.fAt.fAfter.a1)])]) ?_ ?_|apply sq 10 h [2,4,7] [4] [] [] (_:Nat) (fun p x y=>[(8,.d (I x.1)),(9,.d (.bool x.2.1)),(10,.d (.bool x.2.2.1)),(67,.d (.bool x.2.2.2.1))]) (fun p x y=>[(2,.cells p [.d (I x.2.2.2.2.fLaw.fFrames),.d (I x.2.2.2.2.fLaw.fPins),.d (I x.2.2.2.2.fLaw.fBalls),.d (I x.2.2.2.2.fLaw.fTap),.d (I x.2.2.2.2.fAt.fFrame),.d (I x.2.2.2.2.fAt.fThrown),.d (I x.2.2.2.2.fAt.fStanding),.d (.bool x.2.2.2.2.fAt.fFresh),.d (I x.2.2.2.2.fAt.fNeed),.d (I x.2.2.2.2.fAt.fAfter.a0),.d (I x.2.2.2.2.fAt.fAfter.a1)])]) ?_ ?_|refine sq 13 h [2,4,7,8,9,10] [2,4] [] [] () (fun p x y=>[(87,.d (.bool x))]) (fun p x y=>[]) ?_ ?_|refine sq 15 h [2,4,7,8,9,10] [2,4] [] [] () (fun p x y=>[(112,.d (.bool x))]) (fun p x y=>[]) ?_ ?_|apply sq 1017 h [2,4,7,8] [4] [] [] (_:Nat) (fun p x y=>[]) (fun p x y=>[(2,.cells p [.d (I x.fLaw.fFrames),.d (I x.fLaw.fPins),.d (I x.fLaw.fBalls),.d (I x.fLaw.fTap),.d (I x.fAt.fFrame),.d (I x.fAt.fThrown),.d (I x.fAt.fStanding),.d (.bool x.fAt.fFresh),.d (I x.fAt.fNeed),.d (I x.fAt.fAfter.a0),.d (I x.fAt.fAfter.a1)])]) ?_ ?_|refine sq 17 h [2,4,7,8] [2,4] [] [] () (fun p x y=>[(145,.d (.bool x))]) (fun p x y=>[]) ?_ ?_|intro _|refine Br.mk (fun _=>?_) fun _=>?_|refine TyG.mk fun _ h=>?_|(refine hs h ?_;intro _ _ h)|fail)
theorem qe{N:Nat}(hN:N≤1073741824){l1:FrameLaw}{sheet1:List Int}{r:Int}(h:jy N l1 sheet1=some r) :
    ACalls Tryz.prog 118 [.d (.agg [I l1.fFrames,I l1.fPins,I l1.fBalls,I l1.fTap]),.d (.list 1 (List.map I sheet1))] [] fun e os=>e=.ret (.d (I r))∧os=[]:=by
  refine ah (fresh:=false) al ap ⟨[2],[],[],[],[1002],0,[]⟩ Tryz.func118 rfl Tryz.call118 rfl ?_
  unfold jy at h
  repeat' ((conv=>whnf)<;>first|refine u (k:=?_)|exact v|refine IterG.mk _ _ ⟨[],[],[],[],[],2000,[]⟩ Tryz.func120 rfl Tryz.call120 rfl rfl ?_|apply sq 1002 h [5] [] [] [] (_:Nat) (fun p x y=>[]) (fun p x y=>[(5,.cells p [.d (I x)])]) ?_ ?_|refine cp (eR hN am) ?_|refine cp (cE hN am) ?_|apply lp 2 h [0,4,13] [1000] [] [] ((_:Nat),(_:Nat)) (fun p y=>[(14,.d (I y.x.1)),(15,.d (I y.x.2.1))]) (fun p y=>[(2004,.cells p.1 [.d (I y.x.2.2.1.fLaw.fFrames),.d (I y.x.2.2.1.fLaw.fPins),.d (I y.x.2.2.1.fLaw.fBalls),.d (I y.x.2.2.1.fLaw.fTap),.d (I y.x.2.2.1.fAt.fFrame),.d (I y.x.2.2.1.fAt.fThrown),.d (I y.x.2.2.1.fAt.fStanding),.d (.bool y.x.2.2.1.fAt.fFresh),.d (I y.x.2.2.1.fAt.fNeed),.d (I y.x.2.2.1.fAt.fAfter.a0),.d (I y.x.2.2.1.fAt.fAfter.a1)]),(5,.cells p.2 [.d (I y.x.2.2.2)])]) ?_ ?_|refine cp (fA hN am) ?_|refine cp (aS hN am) ?_|(rw[de]at h;delta w64 at h)|intro _|refine Br.mk (fun _=>?_) fun _=>?_|refine TyG.mk fun _ h=>?_|(refine hs h ?_;intro _ _ h)|fail)
theorem jK{N:Nat}(hN:N≤1073741824){l1:FrameLaw}{sheet1:List Int}{r:Int}(h:fj N l1 sheet1=some r) :
    ACalls Tryz.prog 80 [.d (.agg [I l1.fFrames,I l1.fPins,I l1.fBalls,I l1.fTap]),.d (.list 1 (List.map I sheet1))] [] fun e os=>e=.ret (.d (I r))∧os=[]:=by
  refine ah (fresh:=false) al ap ⟨[2],[],[],[],[],0,[]⟩ Tryz.func80 rfl Tryz.call80 rfl ?_
  unfold fj at h
  repeat' ((conv=>whnf)<;>first|refine u (k:=?_)|exact v|refine cp (EO hN am) ?_|refine cp (qe hN am) ?_|intro _|refine Br.mk (fun _=>?_) fun _=>?_|(refine hs h ?_;intro _ _ h)|fail)
theorem gv{N:Nat}(hN:N≤1073741824){l1:List Int}{r:Int}(h:fL N l1=some r) :
    ACalls Tryz.prog 119 [.d (.list 1 (List.map I l1))] [] fun e os=>e=.ret (.d (I r))∧os=[]:=by
  refine ah (fresh:=false) al ap ⟨[],[],[],[],[1001],0,[]⟩ Tryz.func119 rfl Tryz.call119 rfl ?_
  unfold fL at h
  repeat' ((conv=>whnf)<;>first|refine u (k:=?_)|exact v|refine sq0 1001 h [] (fun x=>[(2,.d (I x))]) ?_ ?_|refine lp0 2 h [5] (fun y=>[(2,.d (I y.x.1)),(6,.d (I y.x.2.1)),(7,.d (I y.x.2.2))]) ?_ ?_|(rw[fK]at h;delta w64 at h)|intro _|refine Br.mk (fun _=>?_) fun _=>?_|refine TyG.mk fun _ h=>?_|(refine hs h ?_;intro _ _ h)|fail)
theorem mH{N:Nat}(hN:N≤1073741824){l1:FrameLaw}{sheet1:List Int}{r:(List Int)}(h:gC N l1 sheet1=some r) :
    ACalls Tryz.prog 81 [.d (.agg [I l1.fFrames,I l1.fPins,I l1.fBalls,I l1.fTap]),.d (.list 1 (List.map I sheet1))] [] fun e os=>e=.ret (.d (.list 1 (List.map I r)))∧os=[]:=by
  refine ah (fresh:=false) al ap ⟨[2],[],[],[],[13,1004,1016,1022],0,[]⟩ Tryz.func81 rfl Tryz.call81 rfl ?_
  unfold gC at h
  repeat' ((refine np ?_;conv=>whnf)<;>first|refine u (k:=?_)|exact v|refine amk hN ‹_› (by decide) rfl ?_|refine aap I _ [0] hN rfl rfl ‹_› (by decide) ?_|refine IterG.mk _ _ ⟨[],[],[],[],[7],2000,[]⟩ Tryz.func120 rfl Tryz.call120 rfl rfl ?_|apply sq 1004 h [4,5,6,7] [] [.c 5 0,.c 6 0,.c 7 0] [] ((_:Nat),(_:Nat),(_:Nat)) (fun p x y=>[]) (fun p x y=>[(5,.cells p.1 [.sl 28 (y.v 0)]),(6,.cells p.2.1 [.sl 47 (y.v 1)]),(7,.cells p.2.2 [.sl 50 (y.v 2)]),(28,.arr (y.v 0) 3 1 true (List.map I x.1)),(47,.arr (y.v 1) 3 1 false (List.map I x.2.1)),(50,.arr (y.v 2) 3 1 false (List.map I x.2.2))]) ?_ ?_|refine cp (eR hN am) ?_|refine cp (cE hN am) ?_|apply lp 2 h [0,4,13] [8,1000] [.c 5 0,.c 6 0,.c 7 0] [] ((_:Nat),(_:Nat),(_:Nat),(_:Nat),(_:Value)) (fun p y=>[(14,.d (I y.x.1)),(15,.d (I y.x.2.1))]) (fun p y=>[(2004,.cells p.1 [.d (I y.x.2.2.1.fLaw.fFrames),.d (I y.x.2.2.1.fLaw.fPins),.d (I y.x.2.2.1.fLaw.fBalls),.d (I y.x.2.2.1.fLaw.fTap),.d (I y.x.2.2.1.fAt.fFrame),.d (I y.x.2.2.1.fAt.fThrown),.d (I y.x.2.2.1.fAt.fStanding),.d (.bool y.x.2.2.1.fAt.fFresh),.d (I y.x.2.2.1.fAt.fNeed),.d (I y.x.2.2.1.fAt.fAfter.a0),.d (I y.x.2.2.1.fAt.fAfter.a1)]),(5,.cells p.2.1 [.sl 28 (y.y.v 0)]),(6,.cells p.2.2.1 [.sl 47 (y.y.v 1)]),(7,.cells p.2.2.2.1 [.sl 50 (y.y.v 2)]),(28,.arr (y.y.v 0) 3 1 true (List.map I y.x.2.2.2.1)),(47,.arr (y.y.v 1) 3 1 false (List.map I y.x.2.2.2.2.1)),(50,.arr (y.y.v 2) 3 1 false (List.map I y.x.2.2.2.2.2.1)),(18,.arr p.2.2.2.2 3 1 false (List.map I y.x.2.2.2.2.2.2))]) ?_ ?_|refine cp (fA hN am) ?_|refine cp (aS hN am) ?_|apply sq 7 h [0,4,8,13,14,15] [2004,2008,8,1000] [.c 5 0,.c 6 0,.c 7 0] [] ((_:Nat),(_:Nat),(_:Nat),(_:Value)) (fun p x y=>[(43,.b false)]) (fun p x y=>[(5,.cells p.1 [.sl 28 (y.v 0)]),(6,.cells p.2.1 [.sl 47 (y.v 1)]),(7,.cells p.2.2.1 [.sl 50 (y.v 2)]),(28,.arr (y.v 0) 3 1 true (List.map I x.1)),(47,.arr (y.v 1) 3 1 false (List.map I x.2.1)),(50,.arr (y.v 2) 3 1 false (List.map I x.2.2.1)),(18,.arr p.2.2.2 3 1 false (List.map I x.2.2.2))]) ?_ ?_|refine dr 0 51 (tkA 9 0 (.alt 9 [7,6,5,4,3,2,1] (.alt 10 [7,6,5,4,3,2,1] (.take 11 .done) .nil) .nil)) rfl (by kernel_rfl) ?_|refine cp (gv hN am) ?_|apply sq 13 h [7,8,10] [7,8,10,5,6,2004,2008,50,28,47] [] [] (_:Value) (fun p x y=>[(81,.d (.bool x.1))]) (fun p x y=>[(18,.arr p 3 1 false (List.map I x.2))]) ?_ ?_|refine dr 0 82 (tkA 10 0 (.alt 10 [] .done .nil)) rfl (by kernel_rfl) ?_|refine st 1016 (F:=GR (eB N)) r [] [] [.t 4] [] () (fun p y=>[(4,.sl 132 (y.y.v 0))]) (fun p y=>[(132,.arr (y.y.v 0) 3 1 false (List.map I y.x))]) ?_ ?_|refine lp 17 h [5,7,92] [5,7,47,28,50] [.t 4] [] () (fun p y=>[(4,.sl 132 (y.y.v 0)),(12,.d (I y.x.1)),(93,.d (I y.x.2.1)),(94,.d (I y.x.2.2.1))]) (fun p y=>[(132,.arr (y.y.v 0) 3 1 false (List.map I y.x.2.2.2))]) ?_ ?_|refine dr 0 99 (tkA 9 0 .done) rfl (by kernel_rfl) ?_|refine dr 0 109 (tkA 8 0 (.alt 8 [6,5,4,3,2] (.alt 9 [6,5,4,3,2] (.take 10 .done) .nil) .nil)) rfl (by kernel_rfl) ?_|refine sq 1022 h [4,5,7,14,92,93,94] [132,5,7,47,28,50] [] [] () (fun p x y=>[(15,.d (I x))]) (fun p x y=>[]) ?_ ?_|refine cp (gv (l1:=[_,_]) hN am) ?_|(rw[ca]at h;delta w64 at h)|(rw[cb]at h;delta w64 at h)|unfold eB at h|intro _|refine Br.mk (fun _=>?_) fun _=>?_|refine TyG.mk fun _ h=>?_|(refine hs h ?_;intro _ _ h)|fail)
theorem CV{N:Nat}(hN:N≤1073741824){l1:FrameLaw}{sheet1:List Int}{r:FramePlay}(h:dg N l1 sheet1=some r) :
    ACalls Tryz.prog 83 [.d (.agg [I l1.fFrames,I l1.fPins,I l1.fBalls,I l1.fTap]),.d (.list 1 (List.map I sheet1))] [] fun e os=>e=.ret (.d (.agg [I r.fLaw.fFrames,I r.fLaw.fPins,I r.fLaw.fBalls,I r.fLaw.fTap,I r.fAt.fFrame,I r.fAt.fThrown,I r.fAt.fStanding,.bool r.fAt.fFresh,I r.fAt.fNeed,I r.fAt.fAfter.a0,I r.fAt.fAfter.a1]))∧os=[]:=by
  refine ah (fresh:=false) al ap ⟨[2],[],[],[],[1002],0,[]⟩ Tryz.func83 rfl Tryz.call83 rfl ?_
  unfold dg at h
  repeat' ((conv=>whnf)<;>first|refine u (k:=?_)|exact v|refine IterG.mk _ _ ⟨[],[],[],[],[],2000,[]⟩ Tryz.func120 rfl Tryz.call120 rfl rfl ?_|refine cp (cE hN am) ?_|apply sq 1002 h [4,5] [4] [] [] (_:Nat) (fun p x y=>[]) (fun p x y=>[(5,.cells p [.d (I x.fLaw.fFrames),.d (I x.fLaw.fPins),.d (I x.fLaw.fBalls),.d (I x.fLaw.fTap),.d (I x.fAt.fFrame),.d (I x.fAt.fThrown),.d (I x.fAt.fStanding),.d (.bool x.fAt.fFresh),.d (I x.fAt.fNeed),.d (I x.fAt.fAfter.a0),.d (I x.fAt.fAfter.a1)])]) ?_ ?_|refine cp (eR hN am) ?_|apply lp 2 h [0,4,13] [4,1000] [] [] ((_:Nat),(_:Nat)) (fun p y=>[(14,.d (I y.x.1)),(15,.d (I y.x.2.1))]) (fun p y=>[(2004,.cells p.1 [.d (I y.x.2.2.1.fLaw.fFrames),.d (I y.x.2.2.1.fLaw.fPins),.d (I y.x.2.2.1.fLaw.fBalls),.d (I y.x.2.2.1.fLaw.fTap),.d (I y.x.2.2.1.fAt.fFrame),.d (I y.x.2.2.1.fAt.fThrown),.d (I y.x.2.2.1.fAt.fStanding),.d (.bool y.x.2.2.1.fAt.fFresh),.d (I y.x.2.2.1.fAt.fNeed),.d (I y.x.2.2.1.fAt.fAfter.a0),.d (I y.x.2.2.1.fAt.fAfter.a1)]),(5,.cells p.2 [.d (I y.x.2.2.2.fLaw.fFrames),.d (I y.x.2.2.2.fLaw.fPins),.d (I y.x.2.2.2.fLaw.fBalls),.d (I y.x.2.2.2.fLaw.fTap),.d (I y.x.2.2.2.fAt.fFrame),.d (I y.x.2.2.2.fAt.fThrown),.d (I y.x.2.2.2.fAt.fStanding),.d (.bool y.x.2.2.2.fAt.fFresh),.d (I y.x.2.2.2.fAt.fNeed),.d (I y.x.2.2.2.fAt.fAfter.a0),.d (I y.x.2.2.2.fAt.fAfter.a1)])]) ?_ ?_|refine cp (fA hN am) ?_|refine cp (aS hN am) ?_|(rw[cd]at h;delta w64 at h)|intro _|refine Br.mk (fun _=>?_) fun _=>?_|refine TyG.mk fun _ h=>?_|(refine hs h ?_;intro _ _ h)|fail)
theorem cm{N:Nat}(hN:N≤1073741824){l1:FrameLaw}{balls1:List Int}{r:FrameGame×Int}(h:gm N l1 balls1=some r) :
    ACalls Tryz.prog 40 [.d (.agg [I l1.fFrames,I l1.fPins,I l1.fBalls,I l1.fTap]),.d (.list 1 (List.map I balls1))] [] fun e os=>e=.ret (.d (.tup [.agg [.list 1 (List.map eL r.1.fFrames),.list 1 (List.map I r.1.fCounts),I r.1.fStanding,.bool r.1.fDone],I r.2]))∧os=[]:=by
  refine ah (fresh:=false) al ap ⟨[2],[35],[],[],[1005,1007,1011],0,[]⟩ Tryz.func40 rfl Tryz.call40 rfl ?_
  unfold gm at h
  (conv=>whnf);intro b2;obtain⟨r4,hx4,h⟩:=obind h;(conv=>whnf);refine CallG.pure _ (jK hN hx4) ?_;refine wB (fun hc2=>?_) (fun hc2=>?_)
  ·replace h:=ite_t hc2 h;(iterate 2 refine ws ?_);(conv=>whnf);cases h;exact rfl
  ·replace h:=ite_f hc2 h;obtain⟨r6,hx6,h⟩:=obind h;(conv=>whnf);refine CallG.pure _ (mH hN hx6) ?_;(conv=>whnf);intro b4;refine ws ?_;obtain⟨l111,hx163,h⟩:=obind h;(conv=>whnf);refine SeqG.mk (Value×(Nat→Value)) (fun y=>[(1,.d (.list 1 (List.map I balls1))),(2,.d (.ref (.agg [I l1.fFrames,I l1.fPins,I l1.fBalls,I l1.fTap]))),(4,.ptr 4 b2 0),(7,.ptr 7 b4 0)]) (fun y=>[(4,.cells b2 [.nils 1,.nils 1,.d (I 0),.d (.bool false)]),(7,.cells b4 [.sl 36 y.1,.d (.list 1 (List.map I r6)),.d (I 0),.d (.bool false)]),(36,.rows y.1 25 3 1 y.2 none (List.map (List.map I) l111))]) (fun _=>True) ?_ ?_
   ·obtain⟨⟨ra16,rb16⟩,hx165,hx163⟩:=obind hx163;(conv=>whnf);refine CallG.pure _ (eR hN hx165) ?_;(conv=>whnf);intro lp2 rc14;refine IterG.mk _ _ ⟨[],[],[],[],[],2000,[]⟩ Tryz.func120 rfl Tryz.call120 rfl rfl ?_;obtain⟨r34,hx167,hx163⟩:=obind hx163;(conv=>whnf);refine CallG.pure _ (cE hN hx167) ?_;(conv=>whnf);intro b44;refine ws ?_;(conv=>whnf);refine LnA.mk _ (List.length_map _) ?_;(conv=>whnf)
    refine LoopG.mk (Nat×(Int×Int×FramePlay×(List (List Int)))×Value×(Nat→Value)) (fun y=>[(0,.fn (.yield lp2) [] []),(4,.ptr 2004 b44 0),(13,.d (.list 1 (List.map I rb16))),(14,.d (I y.2.1.1)),(15,.d (I y.2.1.2.1))]) (fun y=>[(2004,.cells b44 [.d (I y.2.1.2.2.1.fLaw.fFrames),.d (I y.2.1.2.2.1.fLaw.fPins),.d (I y.2.1.2.2.1.fLaw.fBalls),.d (I y.2.1.2.2.1.fLaw.fTap),.d (I y.2.1.2.2.1.fAt.fFrame),.d (I y.2.1.2.2.1.fAt.fThrown),.d (I y.2.1.2.2.1.fAt.fStanding),.d (.bool y.2.1.2.2.1.fAt.fFresh),.d (I y.2.1.2.2.1.fAt.fNeed),.d (I y.2.1.2.2.1.fAt.fAfter.a0),.d (I y.2.1.2.2.1.fAt.fAfter.a1)]),(4,.cells b2 [.nils 1,.nils 1,.d (I 0),.d (.bool false)]),(7,.cells b4 [.sl 36 y.2.2.1,.d (.list 1 (List.map I r6)),.d (I 0),.d (.bool false)]),(1000,.loop lp2 rc14 none),(36,.rows y.2.2.1 25 3 1 y.2.2.2 none (List.map (List.map I) y.2.1.2.2.2))]) (fun y=>loopN (fun rr x=>eC N rb16 rr x.1 x.2.1 x.2.2.1 x.2.2.2) y.1 y.2.1=some l111) (fun y=>y.1) (N,((rb16.length:Int),0,r34,[]),(.slice none 0 0),(fun _=>.slice none 0 0)) hx163 (Sub.eq rfl ?_ ?_) ?_
    ·(repeat ((conv=>whnf);refine nr ?_));exact trivial
    ·(iterate 2 ((conv=>whnf);refine no ?_));(conv=>whnf);refine Need.mk (OLe.cells _ _ _ (by repeat (first | exact trivial | ((conv=>whnf);refine Need.mk rfl ?_)))) ?_;(conv=>whnf);refine no ?_;(conv=>whnf);refine Need.mk (OLe.nilrows _ _ _ _ _) ?_;exact trivial
    ·rintro⟨n2,⟨v17,v18,c8,l179⟩,hd378,hs218⟩ hl2;obtain⟨n2,rfl,hl2⟩:=loopN_some hl2;replace hl2:eC N rb16 (loopN (fun rr x=>eC N rb16 rr x.1 x.2.1 x.2.2.1 x.2.2.2) n2) v17 v18 c8 l179=some l111:=hl2;rw[eC]at hl2;refine wB (fun hc114=>?_) (fun hc114=>?_)
     ·replace hl2:=ite_t hc114 hl2;obtain⟨x68,hx293,hl2⟩:=obind hl2;(conv=>whnf);refine Side.mk rfl ⟨_,idx_0 hx293,idx_map _ hx293,?_⟩;refine ws ?_;obtain⟨r58,hx297,hl2⟩:=obind hl2;(conv=>whnf);refine CallG.pure _ (fA hN hx297) ?_;refine wB (fun hc126=>?_) (fun hc126=>?_)
      ·replace hl2:=ite_t hc126 hl2;(conv=>whnf);refine Side.mk ⟨rfl,rfl⟩ ?_;cases hl2;(conv=>whnf);exact⟨(hd378,hs218),trivial,b9⟩
      ·replace hl2:=ite_f hc126 hl2;refine ws ?_;obtain⟨⟨ra28,rb28,rc26⟩,hx299,hl2⟩:=obind hl2;(conv=>whnf);refine CallG.pure _ (aS hN hx299) ?_;(conv=>whnf);intro b76;(iterate 3 refine ws ?_);(conv=>whnf);refine Side.mk ⟨rfl,rfl,rfl⟩ ?_;(conv=>whnf);intro b80;refine ws ?_;obtain⟨l217,hx316,hl2⟩:=obind hl2;(conv=>whnf)
       refine SeqG.mk (Value×(Nat→Value)) (fun y=>[(7,.ptr 7 b4 0),(9,.ptr 9 b80 0)]) (fun y=>[(7,.cells b4 [.sl 36 y.1,.d (.list 1 (List.map I r6)),.d (I 0),.d (.bool false)]),(9,.cells b80 [.d (I x68),.d (I c8.fAt.fFrame),.d (I rb28),.d (I ra28.fLaw.fFrames),.d (I ra28.fLaw.fPins),.d (I ra28.fLaw.fBalls),.d (I ra28.fLaw.fTap),.d (I ra28.fAt.fFrame),.d (I ra28.fAt.fThrown),.d (I ra28.fAt.fStanding),.d (.bool ra28.fAt.fFresh),.d (I ra28.fAt.fNeed),.d (I ra28.fAt.fAfter.a0),.d (I ra28.fAt.fAfter.a1)]),(4,.cells b2 [.nils 1,.nils 1,.d (I 0),.d (.bool false)]),(2004,.cells b44 [.d (I c8.fLaw.fFrames),.d (I c8.fLaw.fPins),.d (I c8.fLaw.fBalls),.d (I c8.fLaw.fTap),.d (I c8.fAt.fFrame),.d (I c8.fAt.fThrown),.d (I c8.fAt.fStanding),.d (.bool c8.fAt.fFresh),.d (I c8.fAt.fNeed),.d (I c8.fAt.fAfter.a0),.d (I c8.fAt.fAfter.a1)]),(2008,.cells b76 [.d (I ra28.fLaw.fFrames),.d (I ra28.fLaw.fPins),.d (I ra28.fLaw.fBalls),.d (I ra28.fLaw.fTap),.d (I ra28.fAt.fFrame),.d (I ra28.fAt.fThrown),.d (I ra28.fAt.fStanding),.d (.bool ra28.fAt.fFresh),.d (I ra28.fAt.fNeed),.d (I ra28.fAt.fAfter.a0),.d (I ra28.fAt.fAfter.a1)]),(36,.rows y.1 25 3 1 y.2 none (List.map (List.map I) l217))]) (fun _=>True) ?_ ?_
       ·(iterate 2 refine ws ?_);(conv=>whnf);refine Side.mk rfl (LnN.mk _ (List.length_map _) ?_);refine wB (fun hc134=>?_) (fun hc134=>?_)
        ·replace hx316:=ite_t hc134 hx316;refine ws ?_;(conv=>whnf);intro hd453;obtain⟨l218,hx317,hx316⟩:=obind hx316;(conv=>whnf);refine Side.mk ⟨rfl,rfl⟩ ?_;(conv=>whnf);refine Side.mk ⟨rfl,rfl,rfl⟩ (Need.mk (app_need (f:=List.map I) hN hx317 (by decide)) (REqv.mk (List.map (List.map I) l218) (app_map (List.map I) hx317) ?_));(conv=>whnf);intro hd454 hs264;refine ws ?_;cases hx316;(conv=>whnf);exact⟨(hd454,hs264),trivial,b9⟩
        ·replace hx316:=ite_f hc134 hx316;cases hx316;(conv=>whnf);exact⟨(hd378,hs218),trivial,b9⟩
       ·rintro⟨hd452,hs263⟩ _;obtain⟨x72,hx318,hl2⟩:=obind hl2;obtain⟨l219,hx319,hl2⟩:=obind hl2;(conv=>whnf);refine DrawG.mk (.take 0 (.take 1 (.take 2 (.take 3 (.take 4 (.take 5 (.take 6 (.take 7 (.take 8 (.take 9 (.take 10 (.take 11 (.alt 12 [10,9,8,7,6,5,4,3,2,1,0] (.alt 13 [10,8,7,6,5,4,3,2,1,0] (.take 14 (.alt 15 [] .done .nil)) .nil) .nil))))))))))))) (by kernel_rfl) ?_;(iterate 4 refine ws ?_);(conv=>whnf);refine Side.mk ⟨rfl,rfl⟩ (Need.mk (idx_need _ hx318) ?_);(conv=>whnf);refine Side.mk ⟨rfl,rfl⟩ (Need.mk (qc _ hx318) ?_);refine ws ?_;refine wb ?_;(conv=>whnf);intro hd457;refine wl ?_;(conv=>whnf);refine Side.mk ⟨rfl,rfl⟩ (Need.mk (qc _ hx318) ?_);refine wl ?_;(conv=>whnf)
        refine Side.mk ⟨rfl,rfl⟩ (Need.mk (idx_need _ hx318) ?_);refine wl ?_;refine ws ?_;(iterate 2 refine wl ?_);refine ws ?_;(iterate 2 refine wl ?_);refine ws ?_;(iterate 2 refine wl ?_);refine ws ?_;(iterate 2 refine wl ?_);refine wb ?_;(conv=>whnf);refine Side.mk ⟨rfl,rfl⟩ ?_;(conv=>whnf);refine Side.mk ⟨rfl,rfl,rfl⟩ ⟨_,idx_map _ hx318,Need.mk (app_need hN hx319 (by decide)) (Eqv.mk (List.map I l219) (app_map _ hx319) ?_)⟩;(conv=>whnf);intro hd458;refine wl ?_;(conv=>whnf);refine Side.mk ⟨rfl,rfl⟩ (Need.mk (idx_need _ hx318) ?_);refine wl ?_;refine ws ?_;(iterate 2 refine wl ?_);refine ws ?_
        (iterate 2 refine wl ?_);refine ws ?_;(iterate 2 refine wl ?_);refine ws ?_;(iterate 2 refine wl ?_);(conv=>whnf);refine Side.mk ⟨rfl,rfl⟩ (Need.mk (idx_need _ hx318) ?_);refine wb ?_;(conv=>whnf);refine Side.mk ⟨rfl,rfl,rfl,rfl,rfl,rfl⟩ (Need.mk (qc _ hx318) (REqv.mk (List.map (List.map I) (List.set l217 (Int.toNat c8.fAt.fFrame) l219)) (set_map _ _ _ _ rfl) ?_));(conv=>whnf);intro hs266;(iterate 2 refine ws ?_);(conv=>whnf);exact⟨(n2,(v17,w64 (v18+1),ra28,(List.set l217 (Int.toNat c8.fAt.fFrame) l219)),hd452,hs266),hl2,b9,Nat.lt_succ_self _⟩
     ·replace hl2:=ite_f hc114 hl2;(conv=>whnf);refine Side.mk ⟨rfl,rfl⟩ ?_;cases hl2;(conv=>whnf);exact⟨(hd378,hs218),trivial,b9⟩
   ·rintro⟨hd230,hs134⟩ _;obtain⟨r60,hx321,h⟩:=obind h;(conv=>whnf);refine CallG.pure _ (CV hN hx321) ?_;(conv=>whnf);intro b82;refine ws ?_;obtain⟨⟨c11,c12⟩,hx324,h⟩:=obind h;(conv=>whnf);refine SeqG.mk Unit (fun y=>[(4,.ptr 4 b2 0),(7,.ptr 7 b4 0)]) (fun y=>[(4,.cells b2 [.nils 1,.nils 1,.d (I 0),.d (.bool false)]),(7,.cells b4 [.sl 36 hd230,.d (.list 1 (List.map I r6)),.d (I c11),.d (.bool c12)]),(36,.rows hd230 25 3 1 hs134 none (List.map (List.map I) l111))]) (fun _=>True) ?_ ?_
    ·refine ws ?_;obtain⟨r64,hx326,hx324⟩:=obind hx324;(conv=>whnf);refine CallG.pure _ (eT hN hx326) ?_;(iterate 2 refine ws ?_);refine wB (fun hc136=>?_) (fun hc136=>?_)
     ·replace hx324:=ite_t hc136 hx324;(iterate 2 refine ws ?_);cases hx324;(conv=>whnf);exact⟨(),trivial,b9⟩
     ·replace hx324:=ite_f hc136 hx324;cases hx324;(conv=>whnf);exact⟨(),trivial,b9⟩
    ·rintro _ _;(iterate 3 refine ws ?_);(conv=>whnf);refine Side.mk rfl (Eqv.mk (List.map eL l111) (uh I (D.list 1) _) ?_);(conv=>whnf);cases h;exact rfl
def oF (bo1:Nat):(DeskRefusal×DeskWork)⊕DeskWork→AE→List (Nat×Ob)→Prop
  | .inl r=>fun ae os=>∃y:Unit,True∧ae=.pan (.ifc 211 (.agg [I r.1.fE]))∧os=[(390003,.cells bo1 (cW r.2))]
  | .inr r=>fun ae os=>∃y:Unit,True∧ae=.ret (.d (.tup []))∧os=[(390003,.cells bo1 (cW r))]
theorem DN{N:Nat}(hN:N≤1073741824){n1:List Int}{c1:DeskWork}{bo1:Nat}{r:(DeskRefusal×DeskWork)⊕DeskWork}(h:iQ N n1 c1=some r) :
    ACalls Tryz.prog 206 [.ptr 390003 bo1 0,.d (.list 1 (List.map I n1))] [(390003,.cells bo1 (cW c1))] (oF bo1 r):=by
  refine bt (fresh:=false) al ap ⟨[],[],[],[],[2],400000,[]⟩ Tryz.func206 rfl Tryz.call206 rfl ?_
  unfold iQ at h
  repeat' ((conv=>whnf)<;>first|refine u (k:=?_)|exact v|refine Both.mk ?_ ?_|refine cq (fy hN am) ?_|refine co (fy hN am) ?_|refine dr 0 12 (tkA 5 0 (.alt 5 [3,2,0] (.take 6 (.alt 7 [] .done .nil)) .nil)) rfl (by kernel_rfl) ?_|refine cp (lW hN am) ?_|refine sq 2 h [0,1,4] [390003,400004] [] [] () (fun p x y=>[(6,.d (I x))]) (fun p x y=>[]) ?_ ?_|refine dr 0 20 (tkA 2 1 (.alt 0 [2,1] (.alt 3 [1] (tkA 3 4 (.alt 7 [6,5,4,1] (.alt 8 [6] (.take 9 .done) .nil) .nil)) (.alt 7 [2,1] (.alt 3 [1] (tkA 3 4 (.alt 8 [6] (.take 9 .done) .nil)) .nil) .nil)) (.alt 7 [2,1] (.alt 0 [2,1] (.alt 3 [1] (tkA 3 4 (.alt 8 [6] (.take 9 .done) .nil)) .nil) .nil) .nil))) rfl (by kernel_rfl) ?_|refine cp (fP hN am) ?_|refine cp (cm hN am) ?_|refine cq (aI hN am) ?_|refine co (aI hN am) ?_|refine dr 0 29 (tkA 5 0 (.alt 5 [2,1] .done .nil)) rfl (by kernel_rfl) ?_|refine co (ld (x1:=(DeskLane.mk _ _)) hN am) ?_|intro _|refine Br.mk (fun _=>?_) fun _=>?_|refine TyG.mk fun _ h=>?_|(refine hs h ?_;intro _ _ h)|(refine np ?_;cases ‹_⊕_›)|fail)
def Aw (bo1:Nat):(DeskRefusal×DeskWork)⊕DeskWork→AE→List (Nat×Ob)→Prop
  | .inl r=>fun ae os=>∃y:Unit,True∧ae=.pan (.ifc 211 (.agg [I r.1.fE]))∧os=[(390003,.cells bo1 (cW r.2))]
  | .inr r=>fun ae os=>∃y:Unit,True∧ae=.ret (.d (.tup []))∧os=[(390003,.cells bo1 (cW r))]
theorem zE{N:Nat}(hN:N≤1073741824){n1:List Int}{c1:DeskWork}{bo1:Nat}{r:(DeskRefusal×DeskWork)⊕DeskWork}(h:yO N n1 c1=some r) :
    ACalls Tryz.prog 207 [.ptr 390003 bo1 0,.d (.list 1 (List.map I n1))] [(390003,.cells bo1 (cW c1))] (Aw bo1 r):=by
  refine bt (fresh:=false) al ap ⟨[],[],[],[],[],400000,[]⟩ Tryz.func207 rfl Tryz.call207 rfl ?_
  unfold yO at h
  delta w64 at h
  repeat' ((conv=>whnf)<;>first|refine u (k:=?_)|exact v|refine cq (fy hN am) ?_|refine co (fy hN am) ?_|refine cq (aI hN am) ?_|refine co (aI hN am) ?_|refine cf 22 400022 (bB hN am) ?_|refine dr 0 24 (tkA 5 0 (.alt 5 [2,1] .done .nil)) rfl (by kernel_rfl) ?_|refine co (ld (x1:=(DeskLane.mk _ _)) hN am) ?_|intro _|refine Br.mk (fun _=>?_) fun _=>?_|(refine hs h ?_;intro _ _ h)|(refine np ?_;cases ‹_⊕_›)|fail)
theorem oG{N:Nat}(hN:N≤1073741824){lane1:Int}{x1:DeskLane}{c1:List Int}{c2:List DeskLane}{c3:List RateSheet}{c4:List Int}{c5:List LadderResult}{l1:List (List Int)}{bo1:Nat}{ho1:Value}{r:(List Int)×(List DeskLane)×(List (List Int))×(List RateSheet)×(List Int)×(List LadderResult)×(List (List Int))}(h:iR N lane1 x1 c1 c2 c3 c4 c5 l1=some r) :
    ACalls Tryz.prog 249 [.ptr 390003 bo1 0,.d (I lane1),.d (.agg [I x1.fBowler,.list 1 (List.map I x1.fBalls)])] [(390003,.cells bo1 [.d (.list 1 (List.map I c1)),.d (.list 2 (List.map DeskLane.enc c2)),.sl 400028 ho1,.d (.list 6 (List.map RateSheet.enc c3)),.d (.list 1 (List.map I c4)),.d (.list 3 (List.map LadderResult.enc c5))]),(400028,.arr ho1 25 1 false (List.map eL l1))] fun ae os=>∃y:Value,True∧ae=.ret (.d (.tup []))∧os=[(390003,.cells bo1 [.d (.list 1 (List.map I r.1)),.d (.list 2 (List.map DeskLane.enc r.2.1)),.d (.list 1 (List.map eL r.2.2.1)),.d (.list 6 (List.map RateSheet.enc r.2.2.2.1)),.d (.list 1 (List.map I r.2.2.2.2.1)),.d (.list 3 (List.map LadderResult.enc r.2.2.2.2.2.1))]),(400028,.arr y 25 1 true (List.map eL r.2.2.2.2.2.2))]:=by
  refine aJ (fresh:=false) al ap ⟨[5],[],[100390003],[],[],410000,[]⟩ Tryz.func249 rfl Tryz.call249 rfl ?_
  unfold iR at h
  repeat' ((conv=>whnf)<;>first|refine u (k:=?_)|exact v|refine cf 12 410012 (jJ hN am) ?_|refine dr 0 16 (tkA 8 0 (.alt 8 [] .done .nil)) rfl (by kernel_rfl) ?_|intro _|refine Br.mk (fun _=>?_) fun _=>?_|(refine hs h ?_;intro _ _ h)|fail)
end Go.Proofs.YtdodahpkpeodfaaGreatDoor
