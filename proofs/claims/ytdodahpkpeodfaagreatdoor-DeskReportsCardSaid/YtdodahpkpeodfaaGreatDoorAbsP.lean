/-
 The statement that ranges over a function; a set of rules with it.
-/
import Derived.Test.YtdodahpkpeodfaaGreatDoorAbsO
set_option linter.all false
namespace Go.Abs
open Go
noncomputable def mU (l:Nat) (r:Go.Loop) (n:Nat) (tm:T AV) (Q:X→St→Prop) (s1:St):Prop:=match look s1.ob 1000 with
 | some (.loop b r' j)=>Side (b=l∧r'=r) (tK s1.ob 1000 fun ob2=>match j with
  | none=>Q .nrm ⟨n,tm,ob2⟩
  | some .ret=>Q .ret ⟨n,tm,ob2⟩
  | some (.exit i)=>Q (.exit i) ⟨n,tm,ob2⟩
  | _=>False)
 | _=>False
abbrev YT:=Oper→St→(St→Prop)→Prop
section
variable (P:Program)(tt:TT)(an:Ann)(E0:Ext)(DR:Ann→YT→Array Oper→St→(X→St→Prop)→Prop)
inductive IterG (ps:Array Tmp) (assign body:Code) (s:St) (Q:X→St→Prop) (f:FuncId) (first caps:List AV) (l:Nat) (r:Go.Loop):Prop where
 | mk (fn:Func) (c:Code) (an':Ann) (hf:P.funcs[f]? = some fn) (hb:fn.body=some c) (hok:cI P f) (hr:fn.results=#[]) (hn:Nat.ble (dB (oo first (AV.fn (.yield l) [] []::caps))) fn.ntmps=true)
  (h:sZ (.loop l r none) s.ob 1000 fun ob1=>tz fn.ntmps (po sK (oo first (AV.fn (.yield l) [] []::caps))) ob1 fun s0 =>
   j7 P tt an' ⟨DR an' (iI P tt an E0 ps assign body s.n s.tm l r),iI P tt an E0 ps assign body s.n s.tm l r,wo⟩ c s0 fun e s1=>match e with
    | .nrm=>mU l r s.n s.tm Q s1
    | .ret=>mU l r s.n s.tm Q s1
    | _=>False)
noncomputable def rP (g:Operand) (ps:Array Tmp) (assign body:Code) (s:St) (Q:X→St→Prop):Prop:=match look s.ob 1000 with
 | some _=>False
 | none=>match s.eval g with
  | .d (.fn (.func f) first caps)=>∀(l:Nat) (r:Go.Loop),IterG P tt an E0 DR ps assign body s Q f (bN .d first) (bN .d caps) l r
  | .fn (.func f) first caps=>∀(l:Nat) (r:Go.Loop),IterG P tt an E0 DR ps assign body s Q f first caps l r
  | _=>False
noncomputable def pP:Ext:=⟨DR an noY,noY,wo⟩
noncomputable def tN:Ext:=⟨DR an noY,noY,rP P tt an (pP an DR) DR⟩
end
def YOk (P:Program)(Y:YT)(rd:Option Nat)(M0:GM):Prop:=∀(o:Oper) (s:St) (K:St→Prop) (M:GM) (a:Act) (w:World),isY s o=true→Y o s K→M0.le M→Rel M s (bare a) w →
 o.wpIn (FR rd) 0 P a w (onD a.defers (Goes s M w K)) (fun _ _ _=>False)
theorem uV(P:Program)(rd:Option Nat)(M0:GM):YOk P noY rd M0:=fun _ _ _ _ _ _ _ h=>h.elim
def MW (P:Program)(DR:YT→Array Oper→St→(X→St→Prop)→Prop):Prop:=∀(Y:YT) (rd:Option Nat) (M0:GM),YOk P Y rd M0→∀(id:Nat) (ops:Array Oper) (s:St) (K:X→St→Prop) (M:GM) (a:Act) (w:World) (n0:Nat),DR Y ops s K→M0.le M→n0≤w.heap.size→Rel M s (bare a) w→MK n0 M s.ob w a.defers →
  (Code.region id ops true).wpIn (FR rd) 0 P (Ends n0 s M w K) a w
section
variable {P:Program}{tt:TT}{an:Ann}{DR:Ann→YT→Array Oper→St→(X→St→Prop)→Prop}{M M':GM}{s s':St}{a:Act}{w w':World}
theorem wq(hdr:∀an,MW P (DR an))(rd:Option Nat)(M0:GM):ExtOk P (pP an DR) rd M0 :=
 ⟨fun id ops s K M a w n0 h hM=>hdr an noY rd M0 (uV P rd M0) id ops s K M a w n0 h hM,fun _ _ _ _ _ _ _ h=>h.elim,fun _ _ _ _ _ _ _ _ _ _ h=>h.elim⟩
theorem rQ(htt:cn P tt=true)(hdr:∀an,MW P (DR an)){an':Ann}{ps:Array Tmp}{assign body:Code}{nC:Nat}{tC:T AV}{l:Nat}{r:Go.Loop}{M0:GM}(hp:r.params=ps)(hb:r.body=body)(ha:r.assign=assign)
  (hn:r.tmps.size=nC) (hg:∀q,GamA M0 ((⟨nC,tC,[]⟩:St).get q) (r.tmps.getD q undef)):ExtOk P ⟨DR an' (iI P tt an (pP an DR) ps assign body nC tC l r),iI P tt an (pP an DR) ps assign body nC tC l r,wo⟩ none M0:=by
 have hY:YOk P (iI P tt an (pP an DR) ps assign body nC tC l r) none M0:=fun _ _ _ _ _ _ _ h hM hR=>tM htt (fun M=>wq hdr (some l) M) hp hb ha hn hg hM hR h
 exact⟨fun id ops s K M a w n0 h hM=>hdr an' _ none M0 hY id ops s K M a w n0 h hM,hY,fun _ _ _ _ _ _ _ _ _ _ h=>h.elim⟩
theorem tO(htt:cn P tt=true)(hdr:∀an,MW P (DR an)){g:Operand}{ps:Array Tmp}{assign body:Code}{Q:X→St→Prop}{n0:Nat}(h:rP P tt an (pP an DR) DR g ps assign body s Q)(hsz:n0≤w.heap.size)(hR:Rel M s (bare a) w)
  (hk:MK n0 M s.ob w a.defers):(Code.rangeFunc g ps assign body).wpIn (FR none) 0 P (Ends n0 s M w Q) a w:=by
 unfold rP at h
 split at h
 ·exact h.elim
 rename_i hno
 have main:∀(f:FuncId) (first caps:List AV) (fv cv:List Value),a.eval g=.func (.func f) ⟨fv⟩ ⟨cv⟩→All2 (GamA M) first fv→All2 (GamA M) caps cv →
   (∀(l:Nat) (r:Go.Loop),IterG P tt an (pP an DR) DR ps assign body s Q f first caps l r)→(Code.rangeFunc g ps assign body).wpIn (FR none) 0 P (Ends n0 s M w Q) a w:=by
  intro f first caps fv cv hg hf1 hf2 h
  refine wpIn_rangeFunc ?_
  intro fnn _
  generalize hr:({state:=.ready,pending:=none,fn:=fnn,tmps:=a.tmps,params:=ps,assign,body,defers:=w.heap.size}:Go.Loop)=r
  generalize hW:(w.alloc (.deferred (some []))).alloc (.loop r)=W1
  obtain⟨fn,c,an',hff,hbb,hok,hres,hnn,h⟩:=h (w.heap.size+1) r
  have hrec:Nz r none=r:=by rw[← hr];rfl
  have hL:W1.heap[w.heap.size+1]? = some (.loop (Nz r none)):=by
   rw[hrec,← hW];have:=World.alloc_heap_new (w.alloc (.deferred (some []))) (.loop r);rwa[World.size_alloc]at this
  have hD:W1.heap[w.heap.size]? = some (.deferred (some [])):=by
   rw[← hW,alloc_old _ _ _ (by simp)];exact World.alloc_heap_new w _
  have hsz1:W1.heap.size=w.heap.size+2:=by rw[← hW];simp
  have hfr:Frm (fun _=>False) M w M W1:=by rw[← hW];exact(Frm.alloc _ M w _).trans (Frm.alloc _ M _ _) fun _ _ h=>h
  have hrs:Resp M W1:=by rw[← hW];exact(hR.rs.alloc _).alloc _
  obtain⟨r1,p1⟩:=hR.upd0 hfr hrs
  have freeD:Free M w.heap.size:=hR.rs.free (Nat.le_refl _)
  have freeL:Free M (w.heap.size+1):=hR.rs.free (Nat.le_succ _)
  have notD:∀b,w.heap.size≤b→¬du s.ob b:=by
   rintro b hb ⟨k,o,h1,h2⟩
   have:=K3 (hR.ob.ok k o h1) h2
   omega
  obtain⟨ob1,h,t1,t2⟩:=mQ h
  have owns1:∀b,du ob1 b→du s.ob b∨b=w.heap.size+1:=by
   rintro b ⟨k,o,y1,y2⟩
   by_cases e:k=1000
   ·subst e;rw[t1]at y1;cases y1;cases y2;exact .inr rfl
   ·exact .inl ⟨k,o,(t2 k e).symm.trans y1,y2⟩
  have hobs:Obs M W1 ob1:=by
   refine⟨fun k o hko=>?_,fun k k' o o' b y1 y2 y3 y4=>?_⟩
   ·by_cases e:k=1000
    ·subst e;rw[t1]at hko;cases hko;exact⟨hL,freeL⟩
    ·exact r1.ob.ok k o ((t2 k e).symm.trans hko)
   ·by_cases e:k=1000
    ·subst e
     rw[t1]at y1;cases y1;cases y3
     by_cases e':k'=1000
     ·exact e'.symm
     ·exact absurd ⟨k',o',(t2 k' e').symm.trans y2,y4⟩ (notD _ (Nat.le_succ _))
    ·by_cases e':k'=1000
     ·subst e'
      rw[t1]at y2;cases y2;cases y4
      exact absurd ⟨k,o,(t2 k e).symm.trans y1,y3⟩ (notD _ (Nat.le_succ _))
     ·exact r1.ob.dj k k' o o' b ((t2 k e).symm.trans y1) ((t2 k' e').symm.trans y2) y3 y4
  simp only[kJ,eg,OX]at h hnn
  have hn:=Nat.le_of_ble_eq_true hnn
  have hargs:All2 (GamA M) (first++AV.fn (.yield (w.heap.size+1)) [] []::caps) (fv++[Value.func (.yield (w.heap.size+1)) #[] #[]]++cv) :=
   by rw[List.append_assoc];exact hf1.append (.cons (.fn _ _ _ [] [] rfl (fun _ _ _ h=>by simp at h) rfl (fun _ _ _ h=>by simp at h)) hf2)
  refine⟨w.heap.size+1,[mark w.heap.size],W1,{target:=.fn (.func f) ⟨cv⟩,args:=⟨fv++[.func (.yield (w.heap.size+1)) #[] #[]]⟩},W1,f,⟨fv++[.func (.yield (w.heap.size+1)) #[] #[]]++cv⟩,W1,?_,?_,fun _ _=>trivial,?_,fun h=>by simp[FR,Fence.wide]at h,?_⟩
  ·rw[show(FR none).round=none from rfl,run_enterLoop_outer,← hW,← hr];rfl
  ·simp only[resolve,hg]
   simp[Deferred.ofValue,Act.eval]
  ·have e:(⟨fv++[.func (.yield (w.heap.size+1)) #[] #[]]⟩++⟨cv⟩:Array Value)=⟨fv++[.func (.yield (w.heap.size+1)) #[] #[]]++cv⟩:=by simp
   simp only[invoke,e,hok _ W1]
  ·obtain⟨s0,h1,hn0,hob,hgg⟩:=pN h
   have hR0:=qM (M:=M) hn hargs (hob▸hobs) hrs hn0 hgg
   have hE:ExtOk P ⟨DR an' (iI P tt an (pP an DR) ps assign body s.n s.tm (w.heap.size+1) r),iI P tt an (pP an DR) ps assign body s.n s.tm (w.heap.size+1) r,wo⟩ none M :=
    rQ htt hdr (by rw[← hr]) (by rw[← hr]) (by rw[← hr]) (by rw[← hr];exact hR.sz) (fun q=>by rw[← hr];exact hR.tm q)
   refine callsIn_of_wp_marks hff hbb trivial (wpIn_mono (kT (n0:=W1.heap.size) (rd:=none) (a:={tmps:=_,defers:=[]}) htt hE h1 M.le_refl (Nat.le_refl _) hR0 trivial) ?_)
   rintro e a' w2 ⟨x,s2,M2,k1,k2,k3,k4,k5⟩
   rw[hob]at k4
   have fin:mU (w.heap.size+1) r s.n s.tm Q s2→LeavesInM (FR none) 0 P fn a'.tmps (rangePost (FR none) 0 P (w.heap.size+1) (Ends n0 s M w Q) {a with defers:=[mark w.heap.size]++a.defers}) a'.defers .returning w2:=by
    intro hie
    refine jX (by simp) k3 k4 k5 fun w3 hR3 p3=>?_
    refine⟨.tuple #[],by simp[results,hres],?_⟩
    unfold mU at hie
    split at hie
    ·rename_i b r' j hlk
     obtain⟨⟨rfl,rfl⟩,hie⟩:=hie
     obtain⟨ob2,hie,d1,d2⟩:=mT hie
     obtain⟨hl3,hfree3⟩:=hR3.ob.ok _ _ hlk
     have hend:=run_endLoop (P:=P) hl3 (by cases j<;>simp[Nz])
     have hlt3:=aK hl3
     generalize hw4:w3.putObj (w.heap.size+1) _=w4 at hend
     have hnot:¬du ob2 (w.heap.size+1):=by
      rintro⟨k,o,y1,y2⟩
      have e:k≠1000:=fun e=>by subst e;rw[d1]at y1;cases y1
      exact e (hR3.ob.dj k 1000 _ _ _ ((d2 k e).symm.trans y1) hlk y2 rfl)
     have hobs4:Obs M2 w4 ob2:=by rw[← hw4];exact(sP d1 d2 hR3.ob).off hnot _
     have hrs4:Resp M2 w4:=by rw[← hw4];exact hR3.rs.off hfree3 _
     have hR4:Rel M2 ⟨s.n,s.tm,ob2⟩ (bare {a with defers:=[mark w.heap.size]++a.defers}) w4:=⟨rfl,hR.sz,fun q=>(hR.tm q).mono p3.fr.mle,hobs4,hrs4⟩
     have pA:Stp ob1 M W1 ob2 M2 w4:=by
      refine⟨?_,fun b hb=>p3.ow b (qN d1 d2 hb)⟩
      rw[← hw4]
      exact p3.fr.trans (Frm.off (du ob1) M2 w3 (.inl ⟨_,_,t1,rfl⟩) _) fun _ _ h=>h
     have pB:Stp s.ob M w ob2 M2 w4:=by
      refine⟨hfr.sub (fun _ h=>h.elim) |>.trans pA.fr fun b hb ho=>(owns1 b ho).resolve_right (by omega),fun b hb=>?_⟩
      rcases pA.ow b hb with e | e
      ·rcases owns1 b e with e | e
       ·exact .inl e
       ·exact .inr (by omega)
      ·exact .inr (by omega)
     have hk4:MK n0 M2 ob2 w4 ([mark w.heap.size]++a.defers):=by
      have hnotD:¬du ob1 w.heap.size:=fun ho=>by
       rcases owns1 _ ho with e | e
       ·exact notD _ (Nat.le_refl _) e
       ·omega
      have hD4:MK n0 M2 ob2 w4 [mark w.heap.size]:=MK.stp (M:=M) (ob:=ob1) (w:=W1) pA ⟨⟨w.heap.size,rfl,hsz,hD,freeD,hnotD,by simp⟩,trivial⟩
      obtain⟨⟨r0,q1,q2,q3,q4,q5,_⟩,_⟩:=hD4
      refine⟨⟨r0,q1,q2,q3,q4,q5,?_⟩,hk.stp pB⟩
      rw[← q1]
      intro hmem
      have:∀{ds:List Deferred},MK n0 M s.ob w ds→mark w.heap.size∉ds:=by
       intro ds
       induction ds with
       | nil=>simp
       | cons d ds ih =>
        rintro⟨⟨r1,z1,_,z3,_⟩,hk⟩ hmem
        rcases List.mem_cons.1 hmem with e | e
        ·rw[z1]at e
         have:w.heap.size=r1:=by simpa [mark]using e
         have:=aK z3
         omega
        ·exact ih hk e
      exact this hk hmem
     refine⟨_,w4,hend,?_⟩
     cases j with
     | none=>exact⟨.nrm,_,M2,hie,.nrm,hR4,pB,hk4⟩
     | some cj =>
      cases cj with
      | ret=>exact wpIn_ret ⟨.ret,_,M2,hie,.ret,hR4,pB,hk4⟩
      | exit i=>exact wpIn_exit ⟨.exit i,_,M2,hie,.exit i,hR4,pB,hk4⟩
      | _=>exact hie.elim
    ·exact hie.elim
   cases k2 with
   | nrm=>exact fin k1
   | ret=>exact fin k1
   | exit i=>exact k1.elim
   | pan d v hg=>exact k1.elim
 have hg:=hR.eval g
 split at h
 ·rename_i f first caps ex
  rw[ex]at hg
  generalize hv:(bare a).eval g=vx at hg
  cases hg with | d _ _ hg=>?_
  cases hg with | fn _ _ _ fv cv h1 h2 h3 h4=>?_
  exact main f _ _ fv cv hv (LG ⟨h1,h2⟩) (LG ⟨h3,h4⟩) (by simpa only[bY]using h)
 ·rename_i f first caps ex
  rw[ex]at hg
  generalize hv:(bare a).eval g=vx at hg
  cases hg with | fn _ _ _ fv cv h1 h2 h3 h4=>?_
  exact main f _ _ fv cv hv ⟨h1,h2⟩ ⟨h3,h4⟩ h
 ·exact h.elim
theorem wr(htt:cn P tt=true)(hdr:∀an,MW P (DR an))(M0:GM):ExtOk P (tN P tt an DR) none M0 :=
 ⟨fun id ops s K M a w n0 h hM=>hdr an noY none M0 (uV P none M0) id ops s K M a w n0 h hM,fun _ _ _ _ _ _ _ h=>h.elim,fun _ _ _ _ _ _ _ _ _ _ h _ hn hR hk=>tO htt hdr h hn hR hk⟩
theorem jY(htt:cn P tt=true)(hdr:∀an,MW P (DR an))(an:Ann){f:FuncId}{fn:Func}{c:Code}{fresh:Bool}{args:List AV}{os:List (Nat×Ob)}{Q:AE→List (Nat×Ob)→Prop}
  (hf:P.funcs[f]? = some fn) (hb:fn.body=some c) (hok:cI P f) (hn:Nat.ble args.length fn.ntmps=true) (h:nq P tt an (tN P tt an DR) fn c fresh args os Q):ACalls P f args os Q :=
 nv htt (fun M0=>wr htt hdr M0) hf hb hok hn h
end
end Go.Abs
