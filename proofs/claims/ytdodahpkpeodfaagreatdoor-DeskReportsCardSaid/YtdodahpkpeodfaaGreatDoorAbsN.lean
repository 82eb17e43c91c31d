/-
 From a body's abstract run to the contract of its function.
-/
import Derived.Test.YtdodahpkpeodfaaGreatDoorAbsM
set_option linter.all false
namespace Go.Abs
open Go
section
variable {P:Program}{tt:TT}{an:Ann}{E:Ext}{M M':GM}{s s':St}{a:Act}{w w':World}
theorem rN{t:TypeId}{val v:Value}(h:(Instr.loadAt t val).run P w=.ok v w):(do loadVar t (← asAddr val):Sem Value).run P w=.ok v w:=by
 cases val<;>simp[Instr.loadAt,Instr.sureAddr]at h
 rename_i ad
 cases ad with
 | none=>simp at h
 | some ad=>simpa [asAddr]using h
def kx (tmps:Array Value):ResultVar→Sem Value
 | .tmp t=>pure (tmps.getD t undef)
 | .cell a t=>do loadVar t (← asAddr (tmps.getD a undef))
theorem tJ(htt:cn P tt=true)(hR:Rel M s a w){fr:Bool}{r:ResultVar}{t:TypeId}{K:AV→Prop}(h:pL tt fr s r t K):∃av v,K av∧GamA M av v∧(kx a.tmps r).run P w=.ok v w:=by
 unfold pL at h
 split at h
 ·rename_i q
  have hv:=hR.tm q
  split at h
  ·rename_i e
   rw[e]at hv
   obtain⟨i,_,h⟩:=aq htt h
   generalize hvv:a.tmps.getD q undef=vv at hv
   cases hv
   cases fr with
   | true=>exact⟨_,_,h,.nils _,by simp only[kx,hvv];rfl⟩
   | false=>exact⟨_,_,h,.d _ _ (.nils _),by simp only[kx,hvv];rfl⟩
  ·exact⟨_,_,h,aM hv,rfl⟩
 ·rename_i q t'
  have hv:=hR.tm q
  obtain⟨i,hi,h⟩:=aq htt h
  obtain⟨av,v,h1,h2,h3⟩:=qu hR hi hv h
  have hrun:=rN h1
  split at h3
  ·cases h2;exact⟨_,_,h3,.d _ _ (.nils _),hrun⟩
  ·exact⟨_,_,h3,aM h2,hrun⟩
theorem nu(htt:cn P tt=true)(hR:Rel M s a w){fr:Bool}:∀{rs:List ResultVar} {ts:List TypeId} {K:List AV→Prop},mS tt fr s rs ts K→∃avs vs,K avs∧All2 (GamA M) avs vs∧(rs.mapM (kx a.tmps)).run P w=.ok vs w
 | [],_,K,h=>⟨[],[],h,.nil,rfl⟩
 | r::rs,[],K,h=>h.elim
 | r::rs,t::ts,K,h=>by
  rw[pM]at h
  obtain⟨av,v,h1,h2,h3⟩:=tJ htt hR h
  obtain⟨avs,vs,k1,k2,k3⟩:=nu htt hR h1
  exact⟨_,v::vs,k1,.cons h2 k2,by simp only[List.mapM_cons,Sem.run_bind,h3,Result.andThen_ok,k3,Sem.run_pure]⟩
theorem qL{fn:Func}{tmps:Array Value}{vs:List Value}(h:(fn.results.toList.mapM (kx tmps)).run P w=.ok vs w):(results fn tmps).run P w=.ok (if h:vs.length=1 then vs[0] else .tuple ⟨vs⟩) w:=by
 have h':(fn.results.mapM (kx tmps)).run P w=.ok ⟨vs⟩ w:=by
  rw[Array.mapM_eq_mapM_toList,Sem.run_map,h];rfl
 have hf:results fn tmps=(do let vs←fn.results.mapM (kx tmps);pure (if h:vs.size=1 then vs[0] else .tuple vs)):=by
  unfold results
  congr 2
 rw[hf,Sem.run_bind,h']
 simp only[Result.andThen_ok,Sem.run_pure]
 by_cases h1:vs.length=1
 ·simp[h1]
 ·simp[h1]
theorem Pz(htt:cn P tt=true)(hR:Rel M s a w){fn:Func}{fresh:Bool}{K:AV→St→Prop}(h:uR tt fn fresh s K) :
  ∃av v s' M',K av s'∧Rel M' s' a w∧Stp s.ob M w s'.ob M' w∧GamA M' av v∧(results fn a.tmps).run P w=.ok v w:=by
 unfold uR at h
 obtain⟨avs,vs,h1,h2,h3⟩:=nu htt hR h
 obtain⟨s1,vs1,M1,h4,r1,p1,l1,g1,_,_⟩:=nj hR h2 h1
 have hrun:=qL h3
 split at h4
 ·rename_i v
  simp only[fC]at h4
  obtain⟨u,us,rfl,hu,ht⟩:=g1.inv
  have:=ht.inv_nil
  subst this
  exact⟨_,_,s1,M1,h4,r1,p1,hu,by simpa using hrun⟩
 ·rename_i hne
  have hl:vs.length≠1:=by
   intro e
   rw[← g1.1]at e
   match vs1,e with
   | [v],_=>exact hne v rfl
  rw[dif_neg hl]at hrun
  split at h4
  ·rename_i ds hds
   have:=Mz hds g1
   exact⟨_,_,s1,M1,h4,r1,p1,.d _ _ (.tup _ _ this.1 this.2),hrun⟩
  ·exact⟨_,_,s1,M1,h4,r1,p1,.tup _ _ g1.1 g1.2,hrun⟩
theorem qM{n:Nat}{args:List AV}{vs:List Value}(hn:args.length≤n)(hargs:All2 (GamA M) args vs){s0:St}(hobs:Obs M w s0.ob)(hrs:Resp M w)(hn0:s0.n=n)
  (hg:∀q,(∃v,(q,v)∈sK.zip args∧s0.get q=v)∨s0.get q=.top):Rel M s0 {tmps:=⟨vs⟩++Array.replicate (n-(⟨vs⟩:Array Value).size) undef,defers:=[]} w:=by
 refine⟨rfl,?_,fun q=>?_,hobs,hrs⟩
 ·have:=hargs.1
  simp[hn0];omega
 ·rcases hg q with⟨v,hv,e⟩ | e
  ·obtain⟨i,hi⟩:=List.mem_iff_getElem?.1 hv
   rw[List.getElem?_zip_eq_some]at hi
   obtain⟨hi1,hi2⟩:=hi
   have hilt:i<args.length:=(List.getElem?_eq_some_iff.1 hi2).1
   have hs:sK=List.range 20:=rfl
   have hq:i=q:=by
    have h20:i<20:=by have:=(List.getElem?_eq_some_iff.1 hi1).1;rw[hs]at this;simpa using this
    rw[hs,List.getElem?_range h20]at hi1
    simpa using hi1
   subst hq
   obtain⟨u,hu,hgu⟩:=hargs.get hi2
   have hlt:i<vs.length:=(List.getElem?_eq_some_iff.1 hu).1
   rw[e]
   have:((⟨vs⟩:Array Value)++Array.replicate (n-(⟨vs⟩:Array Value).size) undef).getD i undef=u:=by
    rw[Array.getD_eq_getD_getElem?,Array.getElem?_append_left (by simpa using hlt)]
    simp[hu]
   rw[this];exact hgu
  ·rw[e];exact .top _
theorem Resp.off(hr:Resp M w){l:Nat}(hf:Free M l)(o:Obj):Resp M (w.putObj l o):=by
 refine⟨fun b q v e=>?_,fun b x e=>?_,hr.t⟩
 ·have hne:b≠l:=fun e'=>by subst e';rw[hf.c]at e;cases e
  rw[World.cell?_of_block (a:=⟨b,q,none⟩) (World.putObj_heap_other hne)]
  exact hr.c b q v e
 ·have hne:b≠l:=fun e'=>by subst e';rw[hf.m]at e;cases e
  rw[World.putObj_heap_other hne]
  exact hr.m b x e
theorem Obs.off{os:List (Nat×Ob)}(h:Obs M w os){l:Nat}(hl:¬du os l)(o:Obj):Obs M (w.putObj l o) os :=
 ⟨fun k ob hk=>iq (h.ok k ob hk) M.le_refl fun b hb=>⟨World.putObj_heap_other fun e=>hl ⟨k,ob,hk,e▸hb⟩,fun _=>rfl,rfl⟩,h.dj⟩
theorem Rel.off(hR:Rel M s a w){l:Nat}(hl:¬du s.ob l)(hf:Free M l)(o:Obj):Rel M s a (w.putObj l o) :=
 ⟨hR.df,hR.sz,hR.tm,hR.ob.off hl o,hR.rs.off hf o⟩
theorem Frm.off(S:Nat→Prop)(M:GM)(w:World){l:Nat}(hl:S l∨w.heap.size≤l)(o:Obj):Frm S M w M (w.putObj l o) :=
 ⟨rfl,rfl,rfl,by simp,fun _ hb hn=>World.putObj_heap_other fun e=>by subst e;rcases hl with h | h<;>first | exact hn h | omega,M.le_refl,fun _ _ _ _=>rfl,fun _ _ _=>rfl⟩
theorem Frm.sub{S S':Nat→Prop}{M0:GM}{w0:World}(h:Frm S M0 w0 M w)(hs:∀b,S b→S' b):Frm S' M0 w0 M w :=
 ⟨h.os,h.tape,h.output,h.size,fun b hb hn=>h.keep b hb fun e=>hn (hs b e),h.mle,fun b hb hn=>h.mc b hb fun e=>hn (hs b e),fun b hb hn=>h.mm b hb fun e=>hn (hs b e)⟩
theorem Stp.off{os os':List (Nat×Ob)}{M0:GM}{w0:World}(p:Stp os M0 w0 os' M w){l:Nat}(hl:w0.heap.size≤l)(o:Obj):Stp os M0 w0 os' M (w.putObj l o) :=
 ⟨p.fr.trans (S':=fun b=>b=l) (Frm.off (fun b=>b=l) M w (.inl rfl) o) fun b hb e=>by omega,p.ow⟩
theorem jX{F:Fence}{n:Nat}{fn:Func}{tmps:Array Value}{R:Ending→World→Prop}{u:FrameMode}{os:List (Nat×Ob)}{M0:GM}{w0:World}(hu:u≠.run) :
  ∀{ds:List Deferred} {w1:World},Rel M s a w1→Stp os M0 w0 s.ob M w1→MK w0.heap.size M s.ob w1 ds→(∀w2,Rel M s a w2→Stp os M0 w0 s.ob M w2→LeavesIn F n P fn tmps R [] u w2)→LeavesInM F n P fn tmps R ds u w1
 | [],w1,hR,p,_,h=>h w1 hR p
 | d::ds,w1,hR,p,⟨⟨r,h1,h2,h3,h4,h5,h6⟩,hk⟩,h=>by
  refine⟨hu,.inl ⟨r,_,by rw[h1];rfl,run_takeDeferred h3,jX hu (hR.off h5 h4 _) (p.off h2 _) ?_ h⟩⟩
  have key:∀{ds:List Deferred},mark r∉ds→MK w0.heap.size M s.ob w1 ds→MK w0.heap.size M s.ob (w1.putObj r (.deferred none)) ds:=by
   intro ds
   induction ds with
   | nil=>exact fun _ _=>trivial
   | cons d ds ih =>
    rintro hn ⟨⟨q,q1,q2,q3,q4,q5,q6⟩,hk⟩
    refine⟨⟨q,q1,q2,?_,q4,q5,q6⟩,ih (fun e=>hn (List.mem_cons_of_mem _ e)) hk⟩
    rw[World.putObj_heap_other]
    ·exact q3
    ·intro e;subst e;exact hn (by rw[q1];simp)
  exact key h6 hk
theorem wm(c:AV):AV.le c (uS c):=by
 intro M v h
 unfold uS
 cases c with
 | nils sz=>exact AV.le_nilD _ _ _ _ h
 | _=>exact h
theorem PA{M:GM}{cs:List AV}{vs:List Value}(h:All2 (GamA M) cs vs):All2 (GamA M) (bN uS cs) vs:=by
 rw[bY]
 refine⟨by rw[List.length_map];exact h.1,fun i x y hx hy=>?_⟩
 rw[List.getElem?_map]at hx
 cases hc:cs[i]? with
 | none=>rw[hc]at hx;cases hx
 | some c=>rw[hc]at hx;cases hx;exact wm _ _ _ (h.2 i _ _ hc hy)
theorem sM:∀{ks:List Nat} {M:GM} {s:St} {K:St→Prop},Rel M s a w→tH ks s K→∃s' M',K s'∧Rel M' s' a w∧Stp s.ob M w s'.ob M' w
 | [],M,s,K,hR,h=>⟨s,M,h,hR,.refl _ _ _⟩
 | k::ks,M,s,K,hR,h=>by
  rw[tI]at h
  split at h
  ·rename_i b cs hlk
   obtain⟨vals,t,hb,hall,hone,hfree⟩:=hR.ob.ok k _ hlk
   obtain⟨s1,cs',M1,h1,r1,p1,l1,g1,q1,n1⟩:=lq hR hall h
   clear h
   split at h1
   ·rename_i b' cs2 hlk1
    obtain⟨eb,h1⟩:=h1
    subst eb
    obtain⟨vals2,t2,hb2,hall2,hone2,hfree2⟩:=r1.ob.ok k _ hlk1
    obtain⟨s2,h2,hn,hg,ho,hj⟩:=St.setO_ok h1
    obtain⟨r2,p2⟩:=r1.upd (S:=fun _=>False) (M':=M1) (w':=w) k _ hn hg ho hj (.refl _ _ _) r1.rs (fun _ _ h=>h.elim) ⟨vals,t,hb,PA g1,hone,hfree2⟩ (fun b hb=>.inr ⟨_,hlk1,hb⟩)
    obtain⟨s3,M3,h3,r3,p3⟩:=sM r2 h2
    exact⟨s3,M3,h3,r3,(p1.trans p2).trans p3⟩
   ·exact h1.elim
  ·exact h.elim
theorem nv(htt:cn P tt=true)(hE:∀M0,ExtOk P E none M0){f:FuncId}{fn:Func}{c:Code}{fresh:Bool}{args:List AV}{os:List (Nat×Ob)}{Q:AE→List (Nat×Ob)→Prop}
  (hf:P.funcs[f]? = some fn) (hb:fn.body=some c) (hok:cI P f) (hn:Nat.ble args.length fn.ntmps=true) (h:nq P tt an E fn c fresh args os Q):ACalls P f args os Q:=by
 refine⟨hok,fun M w vs hrs hargs hobs=>?_⟩
 have hn:=Nat.le_of_ble_eq_true hn
 refine(callsIn_wide (n:=0)).1 (callsIn_of_wp_marks hf hb trivial ?_)
 unfold nq at h
 rw[kJ]at h
 obtain⟨s0,h1,hn0,hob,hg⟩:=pN h
 have hR:Rel M s0 {tmps:=⟨vs⟩++Array.replicate (fn.ntmps-(⟨vs⟩:Array Value).size) undef,defers:=[]} w:=qM hn hargs (hob▸hobs) hrs hn0 hg
 refine wpIn_mono (kT (n0:=w.heap.size) (rd:=none) (a:={tmps:=⟨vs⟩++Array.replicate (fn.ntmps-(⟨vs⟩:Array Value).size) undef,defers:=[]}) htt (hE M) h1 M.le_refl (Nat.le_refl _) hR trivial) ?_
 rintro e a' w' ⟨x,s',M',k1,k2,k3,k4,k5⟩
 rw[hob]at k4
 have fin:(tH (wS an.own) s' fun s1=>uR tt fn fresh s1 (fun v s''=>Q (.ret v) s''.ob))→LeavesInM Fence.wide 0 P fn a'.tmps (fun e w'=>∃os' M',Obs M' w' os'∧Resp M' w'∧Stp os M w os' M' w' ∧
   ((∃r v,e=.returned v∧Q (.ret r) os'∧GamA M' r v)∨(∃d v,e=.panicked [{v:=v,recovered:=false}]∧Q (.pan d) os'∧Gam M' d v))) a'.defers .returning w':=by
  intro hres
  refine jX (by simp) k3 k4 k5 fun w2 hR2 p2=>?_
  obtain⟨s1,M1,hres,hR1,p1⟩:=sM hR2 hres
  obtain⟨av,v,s2,M2,q1,q2,q3,q4,q5⟩:=Pz htt hR1 hres
  exact⟨v,q5,s2.ob,M2,q2.ob,q2.rs,(p2.trans p1).trans q3,.inl ⟨av,v,rfl,q1,q4⟩⟩
 cases k2 with
 | nrm=>exact fin k1
 | ret=>exact fin k1
 | exit n=>exact k1.elim
 | pan d v hg =>
  refine jX (by simp) k3 k4 k5 fun w2 hR2 p2=>?_
  exact⟨s'.ob,M',hR2.ob,hR2.rs,p2,.inr ⟨d,v,rfl,k1,hg⟩⟩
end
end Go.Abs
