/-
  Walks: what the typed functions compute, the program’s functions return.
-/
import Derived.Test.YtdodahpkpeodfaaGreatDoorWe
import Derived.Test.YtdodahpkpeodfaaGreatDoorVa
import Derived.Test.YtdodahpkpeodfaaGreatDoorVb
open List renaming map→Jy
namespace Go.Proofs.YtdodahpkpeodfaaGreatDoor
open Go Go.Abs Go.Kp
set_option maxRecDepth 100000
set_option maxHeartbeats 64000000
set_option linter.all false
theorem pj{N:Nat}(hN:N≤1073741824) {r:(List (List UInt8×j1))}(h:nD N=some r) :
    ACalls Tryz.prog 155 [] [] fun ae os=>∃y:Nat,True∧ae=.ret (.mp 780001 y)∧os=[(780001,.map y (Jy (fun p=>(.str p.1,.agg [I p.2.vD,Cx p.2.fDo])) r))]:=by
  refine Ij al ap [] 780000 Tryz.func155 rfl Tryz.call155 rfl ?_
  unfold nD at h
  repeat' ((conv=>whnf)<;>first|refine u (k:=?_)|exact v|refine EU (m:=[]) (eK:=(fun x:List UInt8=>.str x)) (eV:=(fun x:j1=>.agg [I x.vD,Cx x.fDo])) (fun _=>rfl) ?_|refine EU (eK:=(fun x:List UInt8=>.str x)) (eV:=(fun x:j1=>.agg [I x.vD,Cx x.fDo])) (fun _=>rfl) ?_|refine amu (m:=[]) (eK:=(fun x:List UInt8=>.str x)) (eV:=(fun x:j1=>.agg [I x.vD,Cx x.fDo])) cM _ (j1.mk 1 0) rfl rfl ?_|refine amu (eK:=(fun x:List UInt8=>.str x)) (eV:=(fun x:j1=>.agg [I x.vD,Cx x.fDo])) cM _ (j1.mk 2 1) rfl rfl ?_|refine amu (eK:=(fun x:List UInt8=>.str x)) (eV:=(fun x:j1=>.agg [I x.vD,Cx x.fDo])) cM _ (j1.mk 2 2) rfl rfl ?_|refine amu (eK:=(fun x:List UInt8=>.str x)) (eV:=(fun x:j1=>.agg [I x.vD,Cx x.fDo])) cM _ (j1.mk 1 3) rfl rfl ?_|refine amu (eK:=(fun x:List UInt8=>.str x)) (eV:=(fun x:j1=>.agg [I x.vD,Cx x.fDo])) cM _ (j1.mk 1 4) rfl rfl ?_|refine amu (eK:=(fun x:List UInt8=>.str x)) (eV:=(fun x:j1=>.agg [I x.vD,Cx x.fDo])) cM _ (j1.mk 2 5) rfl rfl ?_|refine amu (eK:=(fun x:List UInt8=>.str x)) (eV:=(fun x:j1=>.agg [I x.vD,Cx x.fDo])) cM _ (j1.mk 1 6) rfl rfl ?_|refine amu (eK:=(fun x:List UInt8=>.str x)) (eV:=(fun x:j1=>.agg [I x.vD,Cx x.fDo])) cM _ (j1.mk 1 7) rfl rfl ?_|refine amu (eK:=(fun x:List UInt8=>.str x)) (eV:=(fun x:j1=>.agg [I x.vD,Cx x.fDo])) cM _ (j1.mk 1 8) rfl rfl ?_|intro _|apply Br.mk|(refine hs h ?_;intro _ _ h))
def vL  : da⊕Unit→AE→List (Nat×Ob)→Prop
  | .inl r=>fun ae os=>∃y:Unit,True∧ae=.pan (.ifc 211 (.agg [I r.fE]))∧os=[]
  | .inr r=>fun ae os=>∃y:Unit,True∧ae=.ret (.d (.tup []))∧os=[]
theorem aI{N:Nat}(hN:N≤1073741824){is1:Bool}{e1:Int}{r:da⊕Unit}(h:b7 N is1 e1=some r) :
    ACalls Tryz.prog 156 [.d (.bool is1),.d (I e1)] [] (vL  r):=by
  refine Jv al ap [] 0 Tryz.func156 rfl Tryz.call156 rfl ?_
  unfold b7 at h
  repeat' ((conv=>whnf)<;>first|refine u (k:=?_)|exact v|intro _|apply Br.mk|(refine hs h ?_;intro _ _ h))
def rn  : Int⊕da→AE→List (Nat×Ob)→Prop
  | .inl r=>fun ae os=>∃y:Unit,True∧ae=.ret (.d (I r))∧os=[]
  | .inr r=>fun ae os=>∃y:Unit,True∧ae=.pan (.ifc 211 (.agg [I r.fE]))∧os=[]
theorem mr{N:Nat}(hN:N≤1073741824){s1:List UInt8}{r:Int⊕da}(h:LN N s1=some r) :
    ACalls Tryz.prog 157 [.d (.str s1)] [] (rn  r):=by
  refine Jv al ap [2] 0 Tryz.func157 rfl Tryz.call157 rfl ?_
  unfold LN at h
  repeat' ((conv=>whnf)<;>first|refine u (k:=?_)|exact v|refine co (mw hN am) ?_|apply st0 2 (F:=C7 (fe N _)) r [3] (fun y=>[]) ?_ ?_|refine cp (my hN am) ?_|refine cp (xn hN am) ?_|refine cq (aI hN am) ?_|refine co (aI hN am) ?_|apply st0 2 (F:=C7 (gY N _)) r [3] (fun y=>[]) ?_ ?_|unfold fe at h|unfold gY at h|intro _|apply Br.mk|refine TyG.mk fun _ h=>?_|(refine hs h ?_;intro _ _ h)|(refine np ?_;cases ‹_⊕_›))
theorem fO{N:Nat}(hN:N≤1073741824){n1:Int}{low1:Int}{high1:Int}{r:Bool}(h:cJ N n1 low1 high1=some r) :
    ACalls Tryz.prog 39 [.d (I n1),.d (I low1),.d (I high1)] [] fun e os=>e=.ret (.d (.bool r))∧os=[]:=by
  refine Cs al ap [1] 0 Tryz.func39 rfl Tryz.call39 rfl ?_
  unfold cJ at h
  repeat' ((conv=>whnf)<;>first|refine u (k:=?_)|exact v|refine sq0 1 h [] (fun x=>[(6,.d (.bool x))]) ?_ ?_|intro _|apply Br.mk|refine TyG.mk fun _ h=>?_|(refine hs h ?_;intro _ _ h))
theorem lW{N:Nat}(hN:N≤1073741824){l1:List Int}{x1:Int}{r:(List Int)}(h:jw N l1 x1=some r) :
    ACalls Tryz.prog 244 [.d (.list 1 (Jy I l1)),.d (I x1)] [] fun e os=>e=.ret (.d (.list 1 (Jy I r)))∧os=[]:=by
  refine Cs al ap [] 0 Tryz.func244 rfl Tryz.call244 rfl ?_
  unfold jw at h
  repeat' ((conv=>whnf)<;>first|refine u (k:=?_)|exact v|refine cf 6 6 (bB hN am) ?_|intro _|apply Br.mk|(refine hs h ?_;intro _ _ h))
theorem nY{N:Nat}(hN:N≤1073741824) {r:Unit}(h:j8 N=some r) :
    ACalls Tryz.prog 251 [.nils 1] [] fun e os=>e=.ret (.nils 1)∧os=[]:=by
  refine ah (fresh:=true) al ap ⟨[],[],[],[],[],0,[]⟩ Tryz.func251 rfl Tryz.call251 rfl ?_
  unfold j8 at h
  repeat' ((conv=>whnf)<;>first|refine u (k:=?_)|exact v|intro _|apply Br.mk|(refine hs h ?_;intro _ _ h))
theorem nZ{N:Nat}(hN:N≤1073741824){s1:List (List Int)}{r:(List (List Int))}(h:ff N s1=some r) :
    ACalls Tryz.prog 251 [.nn 1 (Jy eL s1)] [] fun e os=>∃hd,e=.ret (.sl 0 hd)∧os=[(0,.arr hd 25 1 false (Jy eL r))]:=by
  refine gk al ap ⟨[],[],[],[],[],0,[]⟩ Tryz.func251 rfl Tryz.call251 rfl ?_
  unfold ff at h
  repeat' ((conv=>whnf)<;>first|refine u (k:=?_)|exact v|refine aap eL [] _ hN rfl rfl ‹_› (by decide) ?_|intro _|apply Br.mk|(refine hs h ?_;intro _ _ h))
theorem j9{N:Nat}(hN:N≤1073741824){l:List (List Int)}{r:(List (List Int))}(h:gd N l=some r) :
    ACalls Tryz.prog 251 [.d (.list 1 (Jy eL l))] [] fun e os=>∃hd,e=.ret (.sl 0 hd)∧os=[(0,.arr hd 25 1 false (Jy eL r))]:=by
  unfold gd at h
  refine ACalls.nils_or (fun e=>?_) (nZ hN h)
  have e2:=List.map_eq_nil_iff.1 e
  subst e2
  have e3:r=[]:=by simpa [ff,app]using h.symm
  subst e3
  exact ACalls.nil_own (nY hN (r:=()) rfl)
theorem OQ{N:Nat}(hN:N≤1073741824){l1:List (List Int)}{x1:List Int}{r:(List (List Int))}(h:lH N l1 x1=some r) :
    ACalls Tryz.prog 245 [.d (.list 1 (Jy eL l1)),.d (.list 1 (Jy I x1))] [] fun e os=>e=.ret (.d (.list 1 (Jy eL r)))∧os=[]:=by
  refine Cs al ap [] 0 Tryz.func245 rfl Tryz.call245 rfl ?_
  unfold lH at h
  repeat' ((conv=>whnf)<;>first|refine u (k:=?_)|exact v|refine aap eL _ [_] hN rfl rfl ‹_› (by decide) ?_|refine cf 6 6 (j9 hN am) ?_|intro _|apply Br.mk|(refine hs h ?_;intro _ _ h))
def mE (bo1:Nat):(da×aL)⊕aL→AE→List (Nat×Ob)→Prop
  | .inl r=>fun ae os=>∃y:Unit,True∧ae=.pan (.ifc 211 (.agg [I r.1.fE]))∧os=[(390003,.cells bo1 (cW r.2))]
  | .inr r=>fun ae os=>∃y:Unit,True∧ae=.ret (.d (.tup []))∧os=[(390003,.cells bo1 (cW r))]
theorem jm{N:Nat}(hN:N≤1073741824){n1:List Int}{c1:aL}{bo1:Nat}{r:(da×aL)⊕aL}(h:gB N n1 c1=some r) :
    ACalls Tryz.prog 204 [.ptr 390003 bo1 0,.d (.list 1 (Jy I n1))] [(390003,.cells bo1 (cW c1))] (mE bo1 r):=by
  refine Jv al ap [] 400000 Tryz.func204 rfl Tryz.call204 rfl ?_
  unfold gB at h
  repeat' ((conv=>whnf)<;>first|refine u (k:=?_)|exact v|refine cp (fO hN am) ?_|refine cq (aI hN am) ?_|refine co (aI hN am) ?_|refine dr 0 25 (tkA 10 0 (tkA 5 11 (.alt 10 [15,14,13,12,11,8,7,5,4,3,2,1,0] (.alt 16 [14,13,12,11,8,7,5,4,3,2,1,0] (tkA 3 17 (.alt 20 [18,17,14,13,12,11,1] (tkA 3 21 (.alt 24 [22,21] .done .nil)) .nil)) .nil) .nil))) rfl (by kernel_rfl) ?_|refine cp (lW hN am) ?_|refine cp (OQ (x1:=[]) hN am) ?_|intro _|apply Br.mk|(refine hs h ?_;intro _ _ h)|(refine np ?_;cases ‹_⊕_›))
def oC (bo1:Nat)(c1:aL):da⊕cA→AE→List (Nat×Ob)→Prop
  | .inl r=>fun ae os=>∃y:Unit,True∧ae=.pan (.ifc 211 (.agg [I r.fE]))∧os=[(390003,.cells bo1 (cW c1))]
  | .inr r=>fun ae os=>∃y:Unit,True∧ae=.ret (.d (.agg [I r.af,.list 1 (Jy I r.ar)]))∧os=[(390003,.cells bo1 (cW c1))]
theorem Lq{N:Nat}(hN:N≤1073741824){n1:Int}{c1:aL}{bo1:Nat}{r:da⊕cA}(h:ge N n1 c1=some r) :
    ACalls Tryz.prog 246 [.ptr 390003 bo1 0,.d (I n1)] [(390003,.cells bo1 (cW c1))] (oC bo1 c1 r):=by
  refine Jv al ap [] 400000 Tryz.func246 rfl Tryz.call246 rfl ?_
  unfold ge at h
  delta w64 at h
  repeat' ((conv=>whnf)<;>first|refine u (k:=?_)|exact v|refine cp (fO hN am) ?_|refine cq (aI hN am) ?_|refine co (aI hN am) ?_|intro _|apply Br.mk|(refine hs h ?_;intro _ _ h)|(refine np ?_;cases ‹_⊕_›))
theorem jH{N:Nat}(hN:N≤1073741824){n1:Int}{c1:aL}{bo1:Nat}{r:Bool}(h:fg N n1 c1=some r) :
    ACalls Tryz.prog 45 [.ptr 390003 bo1 0,.d (I n1)] [(390003,.cells bo1 (cW c1))] fun ae os=>∃y:Unit,True∧ae=.ret (.d (.bool r))∧os=[(390003,.cells bo1 (cW c1))]:=by
  refine Ij al ap [] 400000 Tryz.func45 rfl Tryz.call45 rfl ?_
  unfold fg at h
  delta w64 at h
  repeat' ((conv=>whnf)<;>first|refine u (k:=?_)|exact v|refine cp (fO hN am) ?_|intro _|apply Br.mk|(refine hs h ?_;intro _ _ h))
theorem NY{N:Nat}(hN:N≤1073741824){y1:cA}{a1:List Int}{r:Bool}(h:gZ N y1 a1=some r) :
    ACalls Tryz.prog 247 [.d (.agg [I y1.af,.list 1 (Jy I y1.ar)]),.d (.ref (.agg [.list 1 (Jy I a1)]))] [] fun e os=>e=.ret (.d (.bool r))∧os=[]:=by
  refine ah (fresh:=false) al ap ⟨[2],[],[],[],[],0,[]⟩ Tryz.func247 rfl Tryz.call247 rfl ?_
  unfold gZ at h
  repeat' ((conv=>whnf)<;>first|refine u (k:=?_)|exact v|refine dr 0 4 (tkA 7 0 .done) rfl (by kernel_rfl) ?_|intro _|apply Br.mk|(refine hs h ?_;intro _ _ h))
theorem lc{N:Nat}(hN:N≤1073741824){s1:List cA}{f1:List Int}{r:Int}(h:eY N s1 f1=some r) :
    ACalls Tryz.prog 279 [.d (.list 2 (Jy cA.enc s1)),.d (.fn (.func 247) [] [.ref (.agg [.list 1 (Jy I f1)])])] [] fun e os=>e=.ret (.d (I r))∧os=[]:=by
  refine Cs al ap [1001] 0 Tryz.func279 rfl Tryz.call279 rfl ?_
  unfold eY at h
  repeat' ((conv=>whnf)<;>first|refine u (k:=?_)|exact v|refine st0 1001 (F:=C7 (dC N)) r [] (fun y=>[]) ?_ ?_|refine lp0 2 h [0,1] (fun y=>[(7,.d (I y.x.1)),(8,.d (I y.x.2))]) ?_ ?_|refine cp (NY hN am) ?_|(rw[bI]at h;delta w64 at h)|unfold dC at h|intro _|apply Br.mk|refine TyG.mk fun _ h=>?_|(refine hs h ?_;intro _ _ h))
theorem jI{N:Nat}(hN:N≤1073741824){s1:List cA}{f1:List Int}{r:Bool}(h:dD N s1 f1=some r) :
    ACalls Tryz.prog 248 [.d (.list 2 (Jy cA.enc s1)),.d (.fn (.func 247) [] [.ref (.agg [.list 1 (Jy I f1)])])] [] fun e os=>e=.ret (.d (.bool r))∧os=[]:=by
  refine Cs al ap [] 0 Tryz.func248 rfl Tryz.call248 rfl ?_
  unfold dD at h
  repeat' ((conv=>whnf)<;>first|refine u (k:=?_)|exact v|refine cp (lc hN am) ?_|intro _|apply Br.mk|(refine hs h ?_;intro _ _ h))
theorem mF{N:Nat}(hN:N≤1073741824) {r:Unit}(h:jx N=some r) :
    ACalls Tryz.prog 280 [.nils 2] [] fun e os=>e=.ret (.nils 2)∧os=[]:=by
  refine ah (fresh:=true) al ap ⟨[],[],[],[],[],0,[]⟩ Tryz.func280 rfl Tryz.call280 rfl ?_
  unfold jx at h
  repeat' ((conv=>whnf)<;>first|refine u (k:=?_)|exact v|intro _|apply Br.mk|(refine hs h ?_;intro _ _ h))
theorem mG{N:Nat}(hN:N≤1073741824){s1:List cA}{r:(List cA)}(h:eA N s1=some r) :
    ACalls Tryz.prog 280 [.nn 2 (Jy cA.enc s1)] [] fun e os=>∃hd,e=.ret (.sl 0 hd)∧os=[(0,.arr hd 91 2 false (Jy cA.enc r))]:=by
  refine gk al ap ⟨[],[],[],[],[],0,[]⟩ Tryz.func280 rfl Tryz.call280 rfl ?_
  unfold eA at h
  repeat' ((conv=>whnf)<;>first|refine u (k:=?_)|exact v|refine aap cA.enc [] _ hN rfl rfl ‹_› (by decide) ?_|intro _|apply Br.mk|(refine hs h ?_;intro _ _ h))
theorem jJ{N:Nat}(hN:N≤1073741824){l:List cA}{r:(List cA)}(h:fh N l=some r) :
    ACalls Tryz.prog 280 [.d (.list 2 (Jy cA.enc l))] [] fun e os=>∃hd,e=.ret (.sl 0 hd)∧os=[(0,.arr hd 91 2 false (Jy cA.enc r))]:=by
  unfold fh at h
  refine ACalls.nils_or (fun e=>?_) (mG hN h)
  have e2:=List.map_eq_nil_iff.1 e
  subst e2
  have e3:r=[]:=by simpa [eA,app]using h.symm
  subst e3
  exact ACalls.nil_own (mF hN (r:=()) rfl)
theorem ld{N:Nat}(hN:N≤1073741824){lane1:Int}{x1:cA}{c1:aL}{bo1:Nat}{r:aL}(h:gU N lane1 x1 c1=some r) :
    ACalls Tryz.prog 249 [.ptr 390003 bo1 0,.d (I lane1),.d (.agg [I x1.af,.list 1 (Jy I x1.ar)])] [(390003,.cells bo1 (cW c1))] fun ae os=>∃y:Unit,True∧ae=.ret (.d (.tup []))∧os=[(390003,.cells bo1 (cW r))]:=by
  refine aJ (fresh:=false) al ap ⟨[5],[],[100390003],[],[],400000,[]⟩ Tryz.func249 rfl Tryz.call249 rfl ?_
  unfold gU at h
  repeat' ((conv=>whnf)<;>first|refine u (k:=?_)|exact v|refine cf 12 400012 (jJ hN am) ?_|refine dr 0 16 (tkA 8 0 (.alt 8 [] .done .nil)) rfl (by kernel_rfl) ?_|intro _|apply Br.mk|(refine hs h ?_;intro _ _ h))
def oD (bo1:Nat):(da×aL)⊕aL→AE→List (Nat×Ob)→Prop
  | .inl r=>fun ae os=>∃y:Unit,True∧ae=.pan (.ifc 211 (.agg [I r.1.fE]))∧os=[(390003,.cells bo1 (cW r.2))]
  | .inr r=>fun ae os=>∃y:Unit,True∧ae=.ret (.d (.tup []))∧os=[(390003,.cells bo1 (cW r))]
theorem ka{N:Nat}(hN:N≤1073741824){n1:List Int}{c1:aL}{bo1:Nat}{r:(da×aL)⊕aL}(h:iO N n1 c1=some r) :
    ACalls Tryz.prog 205 [.ptr 390003 bo1 0,.d (.list 1 (Jy I n1))] [(390003,.cells bo1 (cW c1))] (oD bo1 r):=by
  refine bt (fresh:=false) al ap ⟨[3],[],[],[],[4],400000,[]⟩ Tryz.func205 rfl Tryz.call205 rfl ?_
  unfold iO at h
  repeat' ((conv=>whnf)<;>first|refine u (k:=?_)|exact v|refine cq (Lq hN am) ?_|refine co (Lq hN am) ?_|refine co (jH hN am) ?_|refine cq (aI hN am) ?_|refine co (aI hN am) ?_|refine st 4 (F:=C7 (dP N n1 c1)) r [0,3] [390003] [] [] () (fun p y=>[]) (fun p y=>[]) ?_ ?_|refine cp (jI hN am) ?_|refine dr 0 32 (tkA 7 0 (.alt 7 [5,4,3,2,1,0] (.alt 8 [5,4,2,1] .done .nil) .nil)) rfl (by kernel_rfl) ?_|refine co (ld (x1:=(cA.mk _ [])) hN am) ?_|unfold dP at h|intro _|apply Br.mk|refine TyG.mk fun _ h=>?_|(refine hs h ?_;intro _ _ h)|(refine np ?_;cases ‹_⊕_›))
def oE (bo1:Nat)(c1:aL):da⊕cA→AE→List (Nat×Ob)→Prop
  | .inl r=>fun ae os=>∃y:Unit,True∧ae=.pan (.ifc 211 (.agg [I r.fE]))∧os=[(390003,.cells bo1 (cW c1))]
  | .inr r=>fun ae os=>∃y:Unit,True∧ae=.ret (.d (.agg [I r.af,.list 1 (Jy I r.ar)]))∧os=[(390003,.cells bo1 (cW c1))]
theorem fy{N:Nat}(hN:N≤1073741824){n1:Int}{c1:aL}{bo1:Nat}{r:da⊕cA}(h:gf N n1 c1=some r) :
    ACalls Tryz.prog 250 [.ptr 390003 bo1 0,.d (I n1)] [(390003,.cells bo1 (cW c1))] (oE bo1 c1 r):=by
  refine Jv al ap [] 400000 Tryz.func250 rfl Tryz.call250 rfl ?_
  unfold gf at h
  repeat' ((conv=>whnf)<;>first|refine u (k:=?_)|exact v|refine cq (Lq hN am) ?_|refine co (Lq hN am) ?_|refine cq (aI hN am) ?_|refine co (aI hN am) ?_|intro _|apply Br.mk|(refine hs h ?_;intro _ _ h)|(refine np ?_;cases ‹_⊕_›))
theorem fP{N:Nat}(hN:N≤1073741824) {r:og}(h:iP N=some r) :
    ACalls Tryz.prog 41 [] [] fun e os=>e=.ret (.d (.agg [I r.bv,I r.gV,I r.ar,I r.sd]))∧os=[]:=by
  refine Cs al ap [] 0 Tryz.func41 rfl Tryz.call41 rfl ?_
  unfold iP at h
  repeat' ((conv=>whnf)<;>first|refine u (k:=?_)|exact v|intro _|apply Br.mk|(refine hs h ?_;intro _ _ h))
def oF (bo1:Nat):(da×aL)⊕aL→AE→List (Nat×Ob)→Prop
  | .inl r=>fun ae os=>∃y:Unit,True∧ae=.pan (.ifc 211 (.agg [I r.1.fE]))∧os=[(390003,.cells bo1 (cW r.2))]
  | .inr r=>fun ae os=>∃y:Unit,True∧ae=.ret (.d (.tup []))∧os=[(390003,.cells bo1 (cW r))]
theorem My{N:Nat}(hN:N≤1073741824){n1:List Int}{c1:aL}{bo1:Nat}{r:(da×aL)⊕aL}(h:iQ N n1 c1=some r) :
    ACalls Tryz.prog 206 [.ptr 390003 bo1 0,.d (.list 1 (Jy I n1))] [(390003,.cells bo1 (cW c1))] (oF bo1 r):=by
  refine Jv al ap [2] 400000 Tryz.func206 rfl Tryz.call206 rfl ?_
  unfold iQ at h
  repeat' ((conv=>whnf)<;>first|refine u (k:=?_)|exact v|refine Both.mk ?_ ?_|refine cq (fy hN am) ?_|refine co (fy hN am) ?_|refine dr 0 12 (tkA 5 0 (.alt 5 [3,2,0] (.take 6 (.alt 7 [] .done .nil)) .nil)) rfl (by kernel_rfl) ?_|refine cp (lW hN am) ?_|refine sq 2 h [0,1,4] [390003,400004] [] [] () (fun p x y=>[(6,.d (I x))]) (fun p x y=>[]) ?_ ?_|refine dr 0 20 (tkA 2 1 (.alt 0 [2,1] (.alt 3 [1] (tkA 3 4 (.alt 7 [6,5,4,1] (.alt 8 [6] (.take 9 .done) .nil) .nil)) (.alt 7 [2,1] (.alt 3 [1] (tkA 3 4 (.alt 8 [6] (.take 9 .done) .nil)) .nil) .nil)) (.alt 7 [2,1] (.alt 0 [2,1] (.alt 3 [1] (tkA 3 4 (.alt 8 [6] (.take 9 .done) .nil)) .nil) .nil) .nil))) rfl (by kernel_rfl) ?_|refine cp (fP hN am) ?_|refine cp (cm hN am) ?_|refine cq (aI hN am) ?_|refine co (aI hN am) ?_|refine dr 0 29 (tkA 5 0 (.alt 5 [2,1] .done .nil)) rfl (by kernel_rfl) ?_|refine co (ld (x1:=(cA.mk _ _)) hN am) ?_|intro _|apply Br.mk|refine TyG.mk fun _ h=>?_|(refine hs h ?_;intro _ _ h)|(refine np ?_;cases ‹_⊕_›))
def Aw (bo1:Nat):(da×aL)⊕aL→AE→List (Nat×Ob)→Prop
  | .inl r=>fun ae os=>∃y:Unit,True∧ae=.pan (.ifc 211 (.agg [I r.1.fE]))∧os=[(390003,.cells bo1 (cW r.2))]
  | .inr r=>fun ae os=>∃y:Unit,True∧ae=.ret (.d (.tup []))∧os=[(390003,.cells bo1 (cW r))]
theorem zE{N:Nat}(hN:N≤1073741824){n1:List Int}{c1:aL}{bo1:Nat}{r:(da×aL)⊕aL}(h:yO N n1 c1=some r) :
    ACalls Tryz.prog 207 [.ptr 390003 bo1 0,.d (.list 1 (Jy I n1))] [(390003,.cells bo1 (cW c1))] (Aw bo1 r):=by
  refine Jv al ap [] 400000 Tryz.func207 rfl Tryz.call207 rfl ?_
  unfold yO at h
  delta w64 at h
  repeat' ((conv=>whnf)<;>first|refine u (k:=?_)|exact v|refine cq (fy hN am) ?_|refine co (fy hN am) ?_|refine cq (aI hN am) ?_|refine co (aI hN am) ?_|refine cf 22 400022 (bB hN am) ?_|refine dr 0 24 (tkA 5 0 (.alt 5 [2,1] .done .nil)) rfl (by kernel_rfl) ?_|refine co (ld (x1:=(cA.mk _ _)) hN am) ?_|intro _|apply Br.mk|(refine hs h ?_;intro _ _ h)|(refine np ?_;cases ‹_⊕_›))
theorem oG{N:Nat}(hN:N≤1073741824){lane1:Int}{x1:cA}{c1:List Int}{c2:List cA}{c3:List aH}{c4:List Int}{c5:List ab}{l1:List (List Int)}{bo1:Nat}{ho1:Value}{r:(List Int)×(List cA)×(List (List Int))×(List aH)×(List Int)×(List ab)×(List (List Int))}(h:iR N lane1 x1 c1 c2 c3 c4 c5 l1=some r) :
    ACalls Tryz.prog 249 [.ptr 390003 bo1 0,.d (I lane1),.d (.agg [I x1.af,.list 1 (Jy I x1.ar)])] [(390003,.cells bo1 [.d (.list 1 (Jy I c1)),.d (.list 2 (Jy cA.enc c2)),.sl 400028 ho1,.d (.list 6 (Jy aH.enc c3)),.d (.list 1 (Jy I c4)),.d (.list 3 (Jy ab.enc c5))]),(400028,.arr ho1 25 1 false (Jy eL l1))] fun ae os=>∃y:Value,True∧ae=.ret (.d (.tup []))∧os=[(390003,.cells bo1 [.d (.list 1 (Jy I r.1)),.d (.list 2 (Jy cA.enc r.2.1)),.d (.list 1 (Jy eL r.2.2.1)),.d (.list 6 (Jy aH.enc r.2.2.2.1)),.d (.list 1 (Jy I r.2.2.2.2.1)),.d (.list 3 (Jy ab.enc r.2.2.2.2.2.1))]),(400028,.arr y 25 1 true (Jy eL r.2.2.2.2.2.2))]:=by
  refine aJ (fresh:=false) al ap ⟨[5],[],[100390003],[],[],410000,[]⟩ Tryz.func249 rfl Tryz.call249 rfl ?_
  unfold iR at h
  repeat' ((conv=>whnf)<;>first|refine u (k:=?_)|exact v|refine cf 12 410012 (jJ hN am) ?_|refine dr 0 16 (tkA 8 0 (.alt 8 [] .done .nil)) rfl (by kernel_rfl) ?_|intro _|apply Br.mk|(refine hs h ?_;intro _ _ h))
def NZ (bo1:Nat):(da×aL)⊕aL→AE→List (Nat×Ob)→Prop
  | .inl r=>fun ae os=>∃y:Unit,True∧ae=.pan (.ifc 211 (.agg [I r.1.fE]))∧os=[(390003,.cells bo1 (cW r.2))]
  | .inr r=>fun ae os=>∃y:Unit,True∧ae=.ret (.d (.tup []))∧os=[(390003,.cells bo1 (cW r))]
theorem jL{N:Nat}(hN:N≤1073741824){n1:List Int}{c1:aL}{bo1:Nat}{r:(da×aL)⊕aL}(h:g8 N n1 c1=some r) :
    ACalls Tryz.prog 208 [.ptr 390003 bo1 0,.d (.list 1 (Jy I n1))] [(390003,.cells bo1 (cW c1))] (NZ bo1 r):=by
  refine bt (fresh:=false) al ap ⟨[],[],[100390003],[],[1],400000,[]⟩ Tryz.func208 rfl Tryz.call208 rfl ?_
  unfold g8 at h
  delta w64 at h
  repeat' ((conv=>whnf)<;>first|refine u (k:=?_)|exact v|refine Both.mk ?_ ?_|refine cq (fy hN am) ?_|refine co (fy hN am) ?_|refine sq 1 h [0,1,4] [390003,400004] [] [.t 5] () (fun p x y=>[(5,.ptr 400005 (y.b 0) 0)]) (fun p x y=>[(400005,.cells (y.b 0) [.d (.list 1 (Jy eL x.bv)),.d (.list 1 (Jy I x.vg)),.d (I x.cw),.d (.bool x.xk)])]) ?_ ?_|refine dr 0 13 (tkA 2 1 (.alt 0 [2,1] (.alt 3 [1] (tkA 3 4 (.alt 7 [6,5,4,1] (.alt 8 [6] (.take 9 .done) .nil) .nil)) (.alt 7 [2,1] (.alt 3 [1] (tkA 3 4 (.alt 8 [6] (.take 9 .done) .nil)) .nil) .nil)) (.alt 7 [2,1] (.alt 0 [2,1] (.alt 3 [1] (tkA 3 4 (.alt 8 [6] (.take 9 .done) .nil)) .nil) .nil) .nil))) rfl (by kernel_rfl) ?_|refine cp (fP hN am) ?_|refine cp (cm hN am) ?_|refine cq (aI hN am) ?_|refine co (aI hN am) ?_|refine cf 28 400028 (j9 hN am) ?_|refine dr 0 32 (tkA 24 0 (.alt 24 [22,21,20,19,18,17,16,14,13,12,11,10,9,8,7,6,5,4,3,2,1,0] (.take 25 (.alt 26 [] .done .nil)) .nil)) rfl (by kernel_rfl) ?_|refine cp (lW hN am) ?_|refine co (oG (x1:=(cA.mk (-1) [])) hN am) ?_|intro _|apply Br.mk|refine TyG.mk fun _ h=>?_|(refine hs h ?_;intro _ _ h)|(refine np ?_;cases ‹_⊕_›))
theorem Bh{N:Nat}(hN:N≤1073741824){l1:List aH}{x1:aH}{r:(List aH)}(h:ze N l1 x1=some r) :
    ACalls Tryz.prog 252 [.d (.list 6 (Jy aH.enc l1)),.d (.agg [I x1.bX,I x1.af,I x1.j2,I x1.bg.a0,I x1.bg.a1,I x1.bg.a2])] [] fun e os=>e=.ret (.d (.list 6 (Jy aH.enc r)))∧os=[]:=by
  refine ah (fresh:=false) al ap ⟨[3],[],[],[],[1],0,[]⟩ Tryz.func252 rfl Tryz.call252 rfl ?_
  unfold ze at h
  repeat' ((conv=>whnf)<;>first|refine u (k:=?_)|exact v|refine aap aH.enc _ [_] hN rfl rfl ‹_› (by decide) ?_|refine Both.mk ?_ ?_|refine sq 1 h [] [] [.t 4] [] () (fun p x y=>[(4,.sl 6 (y.v 0))]) (fun p x y=>[(6,.arr (y.v 0) 94 6 false (Jy aH.enc x))]) ?_ ?_|refine dr 0 5 (.take 0 (.take 2 (.alt 1 [2] (.alt 3 [] (.alt 4 [] (.take 5 .done) .nil) .nil) (.alt 3 [0] (.alt 1 [] (.alt 4 [] (.take 5 .done) .nil) .nil) .nil)))) rfl (by kernel_rfl) ?_|refine cf 6 6 (Mu hN am) ?_|intro _|apply Br.mk|refine TyG.mk fun _ h=>?_|(refine hs h ?_;intro _ _ h))
def As (bo1:Nat):(da×aL)⊕aL→AE→List (Nat×Ob)→Prop
  | .inl r=>fun ae os=>∃y:Unit,True∧ae=.pan (.ifc 211 (.agg [I r.1.fE]))∧os=[(390003,.cells bo1 (cW r.2))]
  | .inr r=>fun ae os=>∃y:Unit,True∧ae=.ret (.d (.tup []))∧os=[(390003,.cells bo1 (cW r))]
theorem zy{N:Nat}(hN:N≤1073741824){n1:List Int}{c1:aL}{bo1:Nat}{r:(da×aL)⊕aL}(h:yF N n1 c1=some r) :
    ACalls Tryz.prog 209 [.ptr 390003 bo1 0,.d (.list 1 (Jy I n1))] [(390003,.cells bo1 (cW c1))] (As bo1 r):=by
  refine bt (fresh:=false) al ap ⟨[],[],[100390003],[],[5,7],400000,[58,84]⟩ Tryz.func209 rfl Tryz.call209 rfl ?_
  unfold yF at h
  delta w64 at h
  repeat' ((conv=>whnf)<;>first|refine u (k:=?_)|exact v|refine Both.mk ?_ ?_|refine cp (fO hN am) ?_|refine cq (aI hN am) ?_|refine co (aI hN am) ?_|refine co (jH hN am) ?_|refine dr 0 18 (tkA 11 0 .done) rfl (by kernel_rfl) ?_|refine sq 5 h [0,1,4] [390003] [] [.t 5] () (fun p x y=>[(5,.ptr 400005 (y.b 0) 0)]) (fun p x y=>[(400005,.cells (y.b 0) [.d (I x.bX),.d (I x.af),.d (I x.j2),.d (I x.bg.a0),.d (I x.bg.a1),.d (I x.bg.a2)])]) ?_ ?_|refine dr 0 40 (tkA 13 0 (.alt 13 [11,10,8,7,5,4,3,2,1,0] (.alt 14 [11,10,8,7,5,4,3,2,1,0] (.alt 15 [] .done .nil) .nil) (.alt 14 [12,11,10,9,8,7,6,5,4,3,2,1,0] (.alt 13 [11,10,8,7,5,4,3,2,1,0] (.alt 15 [] .done .nil) .nil) .nil))) rfl (by kernel_rfl) ?_|refine sqb 7 h [0,1,4,5] [390003] [] [] 400005 (fun p x y=>[(6,.d (I x.1))]) (fun p x y=>[(400005,.cells p [.d (I x.2.bX),.d (I x.2.af),.d (I x.2.j2),.d (I x.2.bg.a0),.d (I x.2.bg.a1),.d (I x.2.bg.a2)])]) ?_|refine dr 0 57 (.take 0 (tkA 2 2 (.alt 1 [3,2] (.alt 4 [] (.alt 5 [] .done .nil) .nil) (.alt 4 [0] (.alt 1 [] (.alt 5 [] .done .nil) .nil) .nil)))) rfl (by kernel_rfl) ?_|refine cf 69 400069 (j9 hN am) ?_|refine dr 0 73 (tkA 10 0 (.alt 10 [7,6,5,4,3,2,1,0] (.alt 11 [7,6,5,4,3,2,1,0] (.take 12 (.alt 13 [] .done .nil)) .nil) .nil)) rfl (by kernel_rfl) ?_|refine cf 84 400084 (bB hN am) ?_|refine dr 0 86 (tkA 7 0 (.alt 7 [4,3,2,1,0] (tkA 3 8 (.alt 11 [9,8] .done .nil)) .nil)) rfl (by kernel_rfl) ?_|refine cp (Bh hN am) ?_|intro _|apply Br.mk|refine TyG.mk fun _ h=>?_|(refine hs h ?_;intro _ _ h)|(refine np ?_;cases ‹_⊕_›))
theorem O3{N:Nat}(hN:N≤1073741824){x1:Int}{r:Bool}(h:zw N x1=some r) :
    ACalls Tryz.prog 229 [.d (I x1)] [] fun e os=>e=.ret (.d (.bool r))∧os=[]:=by
  refine Cs al ap [] 0 Tryz.func229 rfl Tryz.call229 rfl ?_
  unfold zw at h
  repeat' ((conv=>whnf)<;>first|refine u (k:=?_)|exact v|intro _|apply Br.mk|(refine hs h ?_;intro _ _ h))
theorem BY{N:Nat}(hN:N≤1073741824){x1:Int}{y1:Int}{r:Bool}(h:zK N x1 y1=some r) :
    ACalls Tryz.prog 184 [.d (I x1),.d (I y1)] [] fun e os=>e=.ret (.d (.bool r))∧os=[]:=by
  refine Cs al ap [1] 0 Tryz.func184 rfl Tryz.call184 rfl ?_
  unfold zK at h
  repeat' ((conv=>whnf)<;>first|refine u (k:=?_)|exact v|refine sq0 1 h [] (fun x=>[(4,.d (.bool x))]) ?_ ?_|refine cp (O3 hN am) ?_|intro _|apply Br.mk|refine TyG.mk fun _ h=>?_|(refine hs h ?_;intro _ _ h))
theorem zS{N:Nat}(hN:N≤1073741824){x1:Int}{r:Bool}(h:yX N x1=some r) :
    ACalls Tryz.prog 281 [.d (I x1)] [] fun e os=>e=.ret (.d (.bool r))∧os=[]:=by
  refine Cs al ap [] 0 Tryz.func281 rfl Tryz.call281 rfl ?_
  unfold yX at h
  repeat' ((conv=>whnf)<;>first|refine u (k:=?_)|exact v|intro _|apply Br.mk|(refine hs h ?_;intro _ _ h))
theorem zC{N:Nat}(hN:N≤1073741824){x1:List Int}{target1:Int}{r:Int×Bool}(h:xX N x1 target1=some r) :
    ACalls Tryz.prog 253 [.d (.list 1 (Jy I x1)),.d (I target1)] [] fun e os=>e=.ret (.d (.tup [I r.1,.bool r.2]))∧os=[]:=by
  refine Cs al ap [8,1003] 0 Tryz.func253 rfl Tryz.call253 rfl ?_
  unfold xX at h
  (conv=>whnf);refine LnA.mk _ (List.length_map _) ?_;obtain⟨⟨n7,i5⟩,hx13,h⟩:=obind h;(conv=>whnf);refine sk Unit [0,1] [] (fun _=>[(6,.d (I n7)),(7,.d (I i5))]) (fun _=>[]) (fun _=>True) ?_ ?_
  ·(conv=>whnf);refine lk (Nat×(Int×Int×Int)) [0,1] [] (fun y=>[(6,.d (I y.2.1)),(7,.d (I y.2.2.1)),(8,.d (I y.2.2.2))]) (fun _=>[]) (fun y=>loopN (fun rr x=>ls N x1 target1 rr x.1 x.2.1 x.2.2) y.1 y.2=some (n7,i5)) (fun y=>y.1) (N,((x1.length:Int),0,(x1.length:Int))) hx13 Cl ?_
   ·rintro⟨n13,⟨n12,i9,j10⟩⟩ hl2;obtain⟨n13,rfl,hl2⟩:=loopN_some hl2;replace hl2:ls N x1 target1 (loopN (fun rr x=>ls N x1 target1 rr x.1 x.2.1 x.2.2) n13) n12 i9 j10=some (n7,i5):=hl2;rw[ls]at hl2;(conv=>whnf);refine sk Unit [0,1,6,7,8] [] (fun _=>[]) (fun _=>[]) (fun y=>yi N x1 target1 n12 i9 j10 (loopN (fun rr x=>ls N x1 target1 rr x.1 x.2.1 x.2.2) n13)=some (n7,i5)) ?_ ?_
    ·refine wB (fun hc18=>?_) (fun hc18=>?_)
     ·replace hl2:=ite_t hc18 hl2;(conv=>whnf);exact⟨(),hl2,Cl⟩
     ·replace hl2:=ite_f hc18 hl2;cases hl2;(conv=>whnf);exact⟨(),trivial,Cl⟩
    ·rintro _ h;unfold yi at h;(conv=>whnf);refine Need.mk (by decide) ?_;obtain⟨x13,hx24,h⟩:=obind h;(conv=>whnf);refine Side.mk rfl ⟨_,idx_0 hx24,idx_map _ hx24,?_⟩;obtain⟨r12,hx25,h⟩:=obind h;(conv=>whnf);refine CallG.pure _ (BY hN hx25) ?_;refine wB (fun hc17=>?_) (fun hc17=>?_)
     ·replace h:=ite_t hc17 h;(conv=>whnf);exact⟨(n13,(n12,w64 ((w64 (Bs .u64 (Go.IntKind.wrap .u64 (w64 (i9+j10))) 1))+1),j10)),h,Cl,Nat.lt_succ_self _⟩
     ·replace h:=ite_f hc17 h;(conv=>whnf);exact⟨(n13,(n12,i9,w64 (Bs .u64 (Go.IntKind.wrap .u64 (w64 (i9+j10))) 1))),h,Cl,Nat.lt_succ_self _⟩
  ·rintro _ _;obtain⟨v2,hx29,h⟩:=obind h;(conv=>whnf);refine sk Unit [] [] (fun _=>[(4,.d (I i5)),(5,.d (.bool v2))]) (fun _=>[]) (fun _=>True) ?_ ?_
   ·refine wB (fun hc22=>?_) (fun hc22=>?_)
    ·replace hx29:=ite_t hc22 hx29;obtain⟨x15,hx30,hx29⟩:=obind hx29;(conv=>whnf);refine Side.mk rfl ⟨_,idx_0 hx30,idx_map _ hx30,?_⟩;refine wB (fun hc23=>?_) (fun hc23=>?_)
     ·replace hx29:=ite_f hc23 hx29;(conv=>whnf);refine Side.mk rfl ⟨_,idx_0 hx30,idx_map _ hx30,?_⟩;obtain⟨r15,hx31,hx29⟩:=obind hx29;(conv=>whnf);refine CallG.pure _ (zS hN hx31) ?_;refine wB (fun hc24=>?_) (fun hc24=>?_)
      ·replace hx29:=ite_t hc24 hx29;obtain⟨r16,hx32,hx29⟩:=obind hx29;(conv=>whnf);refine CallG.pure _ (zS hN hx32) ?_;cases hx29;(conv=>whnf);exact⟨(),trivial,Cl⟩
      ·replace hx29:=ite_f hc24 hx29;cases hx29;(conv=>whnf);exact⟨(),trivial,Cl⟩
     ·replace hx29:=ite_t hc23 hx29;cases hx29;(conv=>whnf);exact⟨(),trivial,Cl⟩
    ·replace hx29:=ite_f hc22 hx29;cases hx29;(conv=>whnf);exact⟨(),trivial,Cl⟩
   ·rintro _ _;(conv=>whnf);cases h;exact rfl
def Ab (bo1:Nat):(da×aL)⊕aL→AE→List (Nat×Ob)→Prop
  | .inl r=>fun ae os=>∃y:Unit,True∧ae=.pan (.ifc 211 (.agg [I r.1.fE]))∧os=[(390003,.cells bo1 (cW r.2))]
  | .inr r=>fun ae os=>∃y:Unit,True∧ae=.ret (.d (.tup []))∧os=[(390003,.cells bo1 (cW r))]
theorem zt{N:Nat}(hN:N≤1073741824){n1:List Int}{c1:aL}{bo1:Nat}{r:(da×aL)⊕aL}(h:yz N n1 c1=some r) :
    ACalls Tryz.prog 210 [.ptr 390003 bo1 0,.d (.list 1 (Jy I n1))] [(390003,.cells bo1 (cW c1))] (Ab bo1 r):=by
  refine bt (fresh:=false) al ap ⟨[],[],[44,100390003],[],[],400000,[]⟩ Tryz.func210 rfl Tryz.call210 rfl ?_
  unfold yz at h
  repeat' ((conv=>whnf)<;>first|refine u (k:=?_)|exact v|refine Side.mk (by kernel_rfl) ?_|refine Both.mk ?_ ?_|refine dr 0 6 (tkA 9 0 (.alt 9 [7,6,5,4,3,1,0] (.alt 10 [7,6,5,4,3,1,0] .done .nil) .nil)) rfl (by kernel_rfl) ?_|refine cp (fO hN am) ?_|refine cq (aI hN am) ?_|refine co (aI hN am) ?_|refine dr 0 18 (tkA 8 0 (.alt 8 [6,5,3,2,1,0] (tkA 5 9 .done) .nil)) rfl (by kernel_rfl) ?_|refine cp (zC hN am) ?_|refine dr 0 32 (tkA 6 0 (tkA 4 7 (.alt 6 [10,9,8,7,4,3,2,1,0] (.alt 11 [9,8,7,4,3,2,1,0] (.alt 12 [9,8,4,3,2,1,0] (tkA 3 13 (.alt 16 [14,13] .done .nil)) .nil) .nil) (.alt 11 [9,8,7,5,4,3,2,1,0] (.alt 6 [9,8,7,4,3,2,1,0] (.alt 12 [9,8,4,3,2,1,0] (tkA 3 13 (.alt 16 [14,13] .done .nil)) .nil) .nil) .nil)))) rfl (by kernel_rfl) ?_|refine cf 38 400038 (bB hN am) ?_|refine co (Cc (k:=400038) (k2:=400043) hN am) ?_|intro _|apply Br.mk|(refine hs h ?_;intro _ _ h)|(refine np ?_;cases ‹_⊕_›))
theorem qh{N:Nat}(hN:N≤1073741824){c1:aL}{bo1:Nat}{r:gu}(h:jB N c1=some r) :
    ACalls Tryz.prog 55 [.ptr 390003 bo1 0] [(390003,.cells bo1 (cW c1))] fun ae os=>∃y:Unit,True∧ae=.ret (.d (.agg [.int .u8 r.sU,I r.mn,I r.bg,.list 3 (Jy ab.enc r.aP)]))∧os=[(390003,.cells bo1 (cW c1))]:=by
  refine Ij al ap [] 400000 Tryz.func55 rfl Tryz.call55 rfl ?_
  unfold jB at h
  repeat' ((conv=>whnf)<;>first|refine u (k:=?_)|exact v|refine dr 0 3 (tkA 11 0 (.alt 11 [9,8,7,6,4,3,2,1,0] (.alt 12 [] .done .nil) .nil)) rfl (by kernel_rfl) ?_|intro _|apply Br.mk|(refine hs h ?_;intro _ _ h))
theorem zT{N:Nat}(hN:N≤1073741824) {r:Unit}(h:zm N=some r) :
    ACalls Tryz.prog 258 [.nils 3] [] fun e os=>e=.ret (.nils 3)∧os=[]:=by
  refine ah (fresh:=true) al ap ⟨[],[],[],[],[],0,[]⟩ Tryz.func258 rfl Tryz.call258 rfl ?_
  unfold zm at h
  repeat' ((conv=>whnf)<;>first|refine u (k:=?_)|exact v|intro _|apply Br.mk|(refine hs h ?_;intro _ _ h))
theorem zU{N:Nat}(hN:N≤1073741824){s1:List ab}{r:(List ab)}(h:yp N s1=some r) :
    ACalls Tryz.prog 258 [.nn 3 (Jy ab.enc s1)] [] fun e os=>∃hd,e=.ret (.sl 0 hd)∧os=[(0,.arr hd 97 3 false (Jy ab.enc r))]:=by
  refine gk al ap ⟨[],[],[],[],[],0,[]⟩ Tryz.func258 rfl Tryz.call258 rfl ?_
  unfold yp at h
  repeat' ((conv=>whnf)<;>first|refine u (k:=?_)|exact v|refine aap ab.enc [] _ hN rfl rfl ‹_› (by decide) ?_|intro _|apply Br.mk|(refine hs h ?_;intro _ _ h))
theorem yV{N:Nat}(hN:N≤1073741824){l:List ab}{r:(List ab)}(h:yk N l=some r) :
    ACalls Tryz.prog 258 [.d (.list 3 (Jy ab.enc l))] [] fun e os=>∃hd,e=.ret (.sl 0 hd)∧os=[(0,.arr hd 97 3 false (Jy ab.enc r))]:=by
  unfold yk at h
  refine ACalls.nils_or (fun e=>?_) (zU hN h)
  have e2:=List.map_eq_nil_iff.1 e
  subst e2
  have e3:r=[]:=by simpa [yp,app]using h.symm
  subst e3
  exact ACalls.nil_own (zT hN (r:=()) rfl)
theorem AY{N:Nat}(hN:N≤1073741824){l1:List ab}{x1:ab}{r:(List ab)}(h:yY N l1 x1=some r) :
    ACalls Tryz.prog 256 [.d (.list 3 (Jy ab.enc l1)),.d (.agg [I x1.dA,.list 1 (Jy I x1.bg),.bool x1.lT])] [] fun e os=>e=.ret (.d (.list 3 (Jy ab.enc r)))∧os=[]:=by
  refine ah (fresh:=false) al ap ⟨[3],[],[],[],[1],0,[]⟩ Tryz.func256 rfl Tryz.call256 rfl ?_
  unfold yY at h
  repeat' ((conv=>whnf)<;>first|refine u (k:=?_)|exact v|refine aap ab.enc _ [_] hN rfl rfl ‹_› (by decide) ?_|refine Both.mk ?_ ?_|refine sq 1 h [] [] [.t 4] [] () (fun p x y=>[(4,.sl 6 (y.v 0))]) (fun p x y=>[(6,.arr (y.v 0) 97 3 false (Jy ab.enc x))]) ?_ ?_|refine dr 0 5 (.take 0 (.take 2 (.alt 1 [2] (.alt 3 [] (.alt 4 [] (.take 5 .done) .nil) .nil) (.alt 3 [0] (.alt 1 [] (.alt 4 [] (.take 5 .done) .nil) .nil) .nil)))) rfl (by kernel_rfl) ?_|refine cf 6 6 (yV hN am) ?_|intro _|apply Br.mk|refine TyG.mk fun _ h=>?_|(refine hs h ?_;intro _ _ h))
def Ay (bo1:Nat):(da×aL)⊕aL→AE→List (Nat×Ob)→Prop
  | .inl r=>fun ae os=>∃y:Unit,True∧ae=.pan (.ifc 211 (.agg [I r.1.fE]))∧os=[(390003,.cells bo1 (cW r.2))]
  | .inr r=>fun ae os=>∃y:Unit,True∧ae=.ret (.d (.tup []))∧os=[(390003,.cells bo1 (cW r))]
theorem zF{N:Nat}(hN:N≤1073741824){n1:List Int}{c1:aL}{bo1:Nat}{r:(da×aL)⊕aL}(h:yR N n1 c1=some r) :
    ACalls Tryz.prog 211 [.ptr 390003 bo1 0,.d (.list 1 (Jy I n1))] [(390003,.cells bo1 (cW c1))] (Ay bo1 r):=by
  refine Jv al ap [2] 400000 Tryz.func211 rfl Tryz.call211 rfl ?_
  unfold yR at h
  repeat' ((conv=>whnf)<;>first|refine u (k:=?_)|exact v|refine Side.mk (by kernel_rfl) ?_|refine co (qh hN am) ?_|refine cp (Bi hN am) ?_|refine cq (aI hN am) ?_|refine co (aI hN am) ?_|apply st 2 (F:=C7 (yw N n1 c1 _)) r [0,1,4] [390003] [] [] () (fun p y=>[]) (fun p y=>[]) ?_ ?_|refine dr 0 16 (tkA 9 0 (.spl 24 (tkA 9 9 (.alt 18 [16,15,14,13,12,11,10,9,7,6,5,4,3,2,1,0] .done .nil)))) rfl (by kernel_rfl) ?_|refine dr 0 35 (tkA 13 0 (.alt 13 [11,10,9,8,7,6,5,4,3,2,1,0] (.alt 14 [11,10,8,7,6,5,4,3,2,1,0] (.alt 15 [11,10,8,7,6,4,3,2,1,0] (tkA 3 16 (.alt 19 [17,16] .done .nil)) .nil) .nil) .nil)) rfl (by kernel_rfl) ?_|refine cp (AY (x1:=(ab.mk _ _ false)) hN am) ?_|unfold yw at h|intro _|apply Br.mk|refine TyG.mk fun _ h=>?_|(refine hs h ?_;intro _ _ h)|(refine np ?_;cases ‹_⊕_›))
theorem Ae{N:Nat}(hN:N≤1073741824){r1:ab}{a1:List Int}{r:Bool}(h:yB N r1 a1=some r) :
    ACalls Tryz.prog 257 [.d (.agg [I r1.dA,.list 1 (Jy I r1.bg),.bool r1.lT]),.d (.ref (.agg [.list 1 (Jy I a1)]))] [] fun e os=>e=.ret (.d (.bool r))∧os=[]:=by
  refine ah (fresh:=false) al ap ⟨[2],[],[],[],[],0,[]⟩ Tryz.func257 rfl Tryz.call257 rfl ?_
  unfold yB at h
  repeat' ((conv=>whnf)<;>first|refine u (k:=?_)|exact v|refine dr 0 4 (tkA 7 0 .done) rfl (by kernel_rfl) ?_|intro _|apply Br.mk|(refine hs h ?_;intro _ _ h))
theorem jO{N:Nat}(hN:N≤1073741824){s1:List ab}{f1:List Int}{r:Int}(h:dE N s1 f1=some r) :
    ACalls Tryz.prog 230 [.d (.list 3 (Jy ab.enc s1)),.d (.fn (.func 257) [] [.ref (.agg [.list 1 (Jy I f1)])])] [] fun e os=>e=.ret (.d (I r))∧os=[]:=by
  refine Cs al ap [1001] 0 Tryz.func230 rfl Tryz.call230 rfl ?_
  unfold dE at h
  repeat' ((conv=>whnf)<;>first|refine u (k:=?_)|exact v|refine st0 1001 (F:=C7 (yr N)) r [] (fun y=>[]) ?_ ?_|refine lp0 2 h [0,1] (fun y=>[(7,.d (I y.x.1)),(8,.d (I y.x.2))]) ?_ ?_|refine cp (Ae hN am) ?_|(rw[xU]at h;delta w64 at h)|unfold yr at h|intro _|apply Br.mk|refine TyG.mk fun _ h=>?_|(refine hs h ?_;intro _ _ h))
def Av (bo1:Nat):(da×aL)⊕aL→AE→List (Nat×Ob)→Prop
  | .inl r=>fun ae os=>∃y:Unit,True∧ae=.pan (.ifc 211 (.agg [I r.1.fE]))∧os=[(390003,.cells bo1 (cW r.2))]
  | .inr r=>fun ae os=>∃y:Unit,True∧ae=.ret (.d (.tup []))∧os=[(390003,.cells bo1 (cW r))]
theorem zA{N:Nat}(hN:N≤1073741824){n1:List Int}{c1:aL}{bo1:Nat}{r:(da×aL)⊕aL}(h:yH N n1 c1=some r) :
    ACalls Tryz.prog 212 [.ptr 390003 bo1 0,.d (.list 1 (Jy I n1))] [(390003,.cells bo1 (cW c1))] (Av bo1 r):=by
  refine bt (fresh:=false) al ap ⟨[3],[],[100390003],[],[],400000,[]⟩ Tryz.func212 rfl Tryz.call212 rfl ?_
  unfold yH at h
  repeat' ((conv=>whnf)<;>first|refine u (k:=?_)|exact v|refine ast (ab.mk _ _ true) rfl ?_|refine cp (jO hN am) ?_|refine cq (aI hN am) ?_|refine co (aI hN am) ?_|refine cf 32 400032 (yV hN am) ?_|intro _|apply Br.mk|(refine hs h ?_;intro _ _ h)|(refine np ?_;cases ‹_⊕_›))
