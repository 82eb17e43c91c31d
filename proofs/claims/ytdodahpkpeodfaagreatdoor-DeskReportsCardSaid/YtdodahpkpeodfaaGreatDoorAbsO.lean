/-
 A range over a function: its rounds are run where the function calls yield.
-/
import Derived.Test.YtdodahpkpeodfaaGreatDoorAbsN
set_option linter.all false
open List renaming eq_nil_of_length_eq_zero→JB
open Nat renaming beq→IF,eq_of_beq_eq_true→Ik
namespace Go.Abs
open Go
noncomputable def tK {α:Type} (l:List (Nat×α)):Nat→(List (Nat×α)→Prop)→Prop :=
 List.rec (motive:=fun _=>Nat→(List (Nat×α)→Prop)→Prop) (fun _ K=>K [])
  (fun p _ ih k K=>match p with | (j,y)=>match IF j k with | true=>ih k K | false=>ih k fun r'=>K ((j,y)::r')) l
theorem tL{α:Type}(j:Nat)(y:α)(r:List (Nat×α))(k:Nat)(K:List (Nat×α)→Prop):tK ((j,y)::r) k K=match IF j k with | true=>tK r k K | false=>tK r k fun r'=>K ((j,y)::r'):=rfl
def noY:Oper→St→(St→Prop)→Prop:=fun _ _ _=>False
def wo:Operand→Array Tmp→Code→Code→St→(X→St→Prop)→Prop:=fun _ _ _ _ _ _=>False
noncomputable def sN (l:List (Nat×AV)):St→(St→Prop)→Prop :=
 List.rec (motive:=fun _=>St→(St→Prop)→Prop) (fun s K=>K s) (fun p _ ih s K=>match p with | (t,v)=>s.put (some t) v fun s'=>ih s' K) l
theorem rO(t:Nat)(v:AV)(r:List (Nat×AV))(s:St)(K:St→Prop):sN ((t,v)::r) s K=s.put (some t) v fun s'=>sN r s' K:=rfl
section
variable (P:Program)(tt:TT)(an:Ann)(E:Ext)
noncomputable def uT (l:Nat) (r:Go.Loop) (n:Nat) (tm:T AV) (dst:Option Nat) (K:St→Prop) (j:Option Code) (b:Bool) (s:St):Prop :=
 sZ (.loop l r j) s.ob 1000 fun ob=>(⟨n,tm,ob⟩:St).put dst (.b b) K
noncomputable def iI (ps:Array Tmp) (assign body:Code) (nC:Nat) (tC:T AV) (l:Nat) (r:Go.Loop) (o:Oper) (s:St) (K:St→Prop):Prop:=match o.op with
 | .call c=>match c.callee with
  | .value x=>match s.eval x with
   | .fn (.yield l') [] []=>kj (bN s.eval c.args.toList) s fun s1 vs=>m7 tt false vs c.argTypes.toList fun vs'=>match look s1.ob 1000 with
    | some (.loop b r' none)=>Side (l'=l∧b=l∧r'=r) (match IF (dB vs') (dB ps.toList)with
     | true=>tK s1.ob 1000 fun ob1=>sN (po ps.toList vs') ⟨nC,tC,ob1⟩ fun s2=>j7 P tt an E assign s2 fun e s3=>match e with
      | .nrm=>j7 P tt an E body s3 fun e s4=>match e with
       | .nrm=>uT l r s1.n s1.tm o.dst K none true s4
       | .ret=>uT l r s1.n s1.tm o.dst K (some .ret) false s4
       | .exit i=>uT l r s1.n s1.tm o.dst K (some (.exit i)) false s4
       | .pan _=>False
      | _=>False
     | false=>False)
    | _=>False
   | _=>False
  | _=>False
 | _=>False
end
section
variable {P:Program}{tt:TT}{an:Ann}{E:Ext}{M M':GM}{s s':St}{a:Act}{w w':World}
theorem mT{α:Type}:∀{l:List (Nat×α)} {k:Nat} {K:List (Nat×α)→Prop},tK l k K→∃l',K l'∧look l' k=none∧∀j,j≠k→look l' j=look l j
 | [],k,K,h=>⟨[],h,rfl,fun _ _=>rfl⟩
 | (i,y)::r,k,K,h=>by
  rw[tL]at h
  split at h
  ·rename_i e
   have e:=Ik e
   subst e
   obtain⟨l',h1,h2,h3⟩:=mT h
   refine⟨l',h1,h2,fun j hj=>?_⟩
   have:IF i j=false:=by
    cases hb:IF i j with
    | false=>rfl
    | true=>exact absurd (Ik hb).symm hj
   rw[h3 j hj,aT,this]
  ·rename_i e
   obtain⟨l',h1,h2,h3⟩:=mT h
   refine⟨_,h1,?_,fun j hj=>?_⟩
   ·rw[aT,e];exact h2
   ·simp only[aT]
    cases hb:IF i j with
    | true=>rfl
    | false=>exact h3 j hj
theorem sO:∀{l:List (Nat×AV)} {vs:List Value} {s:St} {a:Act} {K:St→Prop},Rel M s a w→All2 (GamA M) (l.map (·.2)) vs→sN l s K →
  ∃s',K s'∧Rel M s' {tmps:=((l.map (·.1)).zip vs).foldl (fun t p=>t.setIfInBounds p.1 p.2) a.tmps,defers:=a.defers} w∧s'.ob=s.ob
 | [],vs,s,a,K,hR,hv,h=>⟨s,h,hR,rfl⟩
 | (t,v)::r,vs,s,a,K,hR,hv,h=>by
  rw[rO]at h
  obtain⟨u,us,rfl,hu,hus⟩:=hv.inv
  obtain⟨s1,h1,hR1,ho1⟩:=hR.put h hu
  obtain⟨s2,h2,hR2,ho2⟩:=sO hR1 hus h1
  exact⟨s2,h2,hR2,ho2.trans ho1⟩
theorem qN{ob ob1:List (Nat×Ob)}{k:Nat}(h1:look ob1 k=none)(h2:∀j,j≠k→look ob1 j=look ob j){b:Nat}(h:du ob1 b):du ob b:=by
 obtain⟨j,o,hj,hb⟩:=h
 have:j≠k:=fun e=>by subst e;rw[h1]at hj;cases hj
 exact⟨j,o,(h2 j this).symm.trans hj,hb⟩
theorem sP{ob ob1:List (Nat×Ob)}{k:Nat}(h1:look ob1 k=none)(h2:∀j,j≠k→look ob1 j=look ob j)(h:Obs M w ob):Obs M w ob1:=by
 have key:∀j o,look ob1 j=some o→look ob j=some o:=fun j o hj=>by
  have:j≠k:=fun e=>by subst e;rw[h1]at hj;cases hj
  exact(h2 j this).symm.trans hj
 exact⟨fun j o hj=>h.ok j o (key j o hj),fun j j' o o' b x y=>h.dj j j' o o' b (key _ _ x) (key _ _ y)⟩
theorem uU(ps:Array Tmp)(args:List Value)(t:Array Value):(ps.zip ⟨args⟩).foldl (fun tmps (p,v)=>tmps.setIfInBounds p v) t=((ps.toList.zip args).foldl (fun t p=>t.setIfInBounds p.1 p.2) t):=by
 rw[← Array.foldl_toList,Array.toList_zip]
theorem MK.off{n0:Nat}{ob:List (Nat×Ob)}{b:Nat}(hb:w.heap[b]?≠some (.deferred (some [])))(o:Obj):∀{ds:List Deferred},MK n0 M ob w ds→MK n0 M ob (w.putObj b o) ds
 | [],_=>trivial
 | d::ds,⟨⟨r,h1,h2,h3,h4,h5,h6⟩,h⟩=>⟨⟨r,h1,h2,by rw[World.putObj_heap_other (fun e=>by subst e;exact hb h3)];exact h3,h4,h5,h6⟩,h.off hb o⟩
theorem tM(htt:cn P tt=true){ps:Array Tmp}{assign body:Code}{nC:Nat}{tC:T AV}{l:Nat}{r:Go.Loop}{M0:GM}(hE:∀M,ExtOk P E (some l) M)(hp:r.params=ps)(hb:r.body=body)(ha:r.assign=assign)
  (hn:r.tmps.size=nC) (hg:∀q,GamA M0 ((⟨nC,tC,[]⟩:St).get q) (r.tmps.getD q undef)) {o:Oper} {K:St→Prop} (hM:M0.le M) (hR:Rel M s (bare a) w)
  (h:iI P tt an E ps assign body nC tC l r o s K):o.wpIn (FR none) 0 P a w (onD a.defers (Goes s M w K)) (fun _ _ _=>False):=by
 unfold iI at h
 simp only[bY,eg,kJ,Array.length_toList]at h
 split at h
 ·rename_i c hop
  split at h
  ·rename_i x hc
   split at h
   ·rename_i l' hx
    have hall:All2 (GamA M) (c.args.toList.map s.eval) (c.args.map (bare a).eval).toList:=by rw[Array.toList_map];exact .list_map _ _ _ hR.eval
    have hxv:=hR.eval x
    rw[hx]at hxv
    generalize hvx:(bare a).eval x=vx at hxv
    cases hxv with | fn _ _ _ fv cv e1 _ e2 _=>?_
    have e1:=JB e1.symm
    have e2:=JB e2.symm
    subst e1 e2
    obtain⟨s1,vs1,M1,h,r1,p1,l1,g1,q1,n1⟩:=jU hR hall h
    obtain⟨vs2,h,g2⟩:=ir htt g1 h
    split at h
    ·rename_i b r' hlk
     obtain⟨⟨rfl,rfl,rfl⟩,h⟩:=h
     split at h
     ·rename_i hsz
      have hsz:=Ik hsz
      obtain⟨ob1,h,d1,d2⟩:=mT h
      -- the record
      obtain⟨hrec,hfree⟩:=r1.ob.ok _ _ hlk
      have hlt:=aK hrec
      have hnot:¬du ob1 b:=by
       rintro⟨j,oj,hj,hbj⟩
       have hne:j≠1000:=fun e=>by subst e;rw[d1]at hj;cases hj
       exact hne (r1.ob.dj j 1000 _ _ b ((d2 j hne).symm.trans hj) hlk hbj rfl)
      have hargs:(c.args.map (bare a).eval).toList.length=ps.size:=by rw[← g2.1];exact hsz
      have hrun:(o.semAt none a.eval).run P w=.ok (.round b r'.fn ((ps.zip (c.args.map (bare a).eval)).foldl (fun tmps (p,v)=>tmps.setIfInBounds p v) r'.tmps) assign body) w:=by
       have hy:=run_yield (P:=P) (args:=c.args.map (bare a).eval) hrec (by show _=r'.params.size;rw[hp];simpa using hargs)
       rw[Oper.semAt_none]
       have hvx':a.eval x=.func (.yield b) #[] #[]:=hvx
       have hmap:c.args.map a.eval=c.args.map (bare a).eval:=rfl
       simp only[execOp,hop,resolve,hc,hvx',Deferred.ofValue,Sem.run_bind,Sem.run_pure,Result.andThen_ok,invoke,hmap,Array.empty_append]
       rw[hy]
       simp only[Nz,hp,ha,hb]
      -- the round's frame
      have hlen:vs2.length=ps.toList.length:=by rw[hsz];simp
      have hR0:Rel M1 ⟨nC,tC,ob1⟩ {tmps:=r'.tmps,defers:=[]} w:=⟨rfl,hn,fun q=>(hg q).mono (GM.le_trans hM l1),sP d1 d2 r1.ob,r1.rs⟩
      obtain⟨s2,h,r2,ho2⟩:=sO hR0 (by rw[List.map_snd_zip (by omega)];exact g2) h
      have hfold:(((ps.toList.zip vs2).map (·.1)).zip (c.args.map (bare a).eval).toList).foldl (fun t p=>t.setIfInBounds p.1 p.2) r'.tmps=(ps.zip (c.args.map (bare a).eval)).foldl (fun tmps (p,v)=>tmps.setIfInBounds p v) r'.tmps:=by
       rw[List.map_fst_zip (by omega),← uU]
      simp only[hfold]at r2
      refine⟨fun _ _=>trivial,?_⟩
      rw[show(FR none).round=none from rfl,hrun]
      refine⟨fun h=>by simp[FR,Fence.wide]at h,roundIn_of_wpIn trivial ?_⟩
      refine wpIn_mono (kT (n0:=0) (rd:=some b) htt (hE M1) h M1.le_refl (Nat.zero_le _) r2 trivial) ?_
      have own1:∀b',du ob1 b'→du s1.ob b':=fun b' hb'=>qN d1 d2 hb'
      rintro e a1 w1 ⟨x3,s3,M3,k1,k2,k3,k4,k5⟩
      rw[ho2]at k4
      cases k2 with
      | nrm =>
       have hrec1:w1.heap[b]? = some (.loop (Nz r' none)):=by rw[k4.fr.keep b hlt hnot];exact hrec
       have free3:Free M3 b:=⟨fun q=>by rw[k4.fr.mc b hlt hnot];exact hfree.c q,by rw[k4.fr.mm b hlt hnot];exact hfree.m⟩
       have not3:¬du s3.ob b:=fun ho=>by rcases k4.ow b ho with e | e;exact hnot e;omega
       have own3:∀b',b'<w.heap.size→du s3.ob b'→du s1.ob b':=fun b' hb' ho=>by rcases k4.ow b' ho with e | e;exact own1 _ e;omega
       have hlt1:=aK hrec1
       refine⟨_,run_beginRound hrec1 rfl,wpIn_mono (kT (n0:=0) (rd:=some b) htt (hE M3) k1 M3.le_refl (Nat.zero_le _) (k3.off not3 free3 _) (k5.off (by rw[hrec1];simp) _)) ?_⟩
       generalize hw2:w1.putObj b _=w2
       have hrec2:w2.heap[b]? = some (.loop {Nz r' none with state:=.busy}):=by rw[← hw2];exact World.putObj_heap_same hlt1
       have fr2:Frm (du s1.ob) M1 w M3 w2:=by
        rw[← hw2]
        exact(k4.fr.sub own1).trans (Frm.off (du s1.ob) M3 w1 (.inl ⟨_,_,hlk,rfl⟩) _) fun _ _ h=>h
       rintro e a4 w4 ⟨x4,s4,M4,m1,m2,m3,m4,m5⟩
       have hlt2:=aK hrec2
       have hrec4:w4.heap[b]? = some (.loop {Nz r' none with state:=.busy}):=by rw[m4.fr.keep b hlt2 not3];exact hrec2
       have free4:Free M4 b:=⟨fun q=>by rw[m4.fr.mc b hlt2 not3];exact free3.c q,by rw[m4.fr.mm b hlt2 not3];exact free3.m⟩
       have not4:¬du s4.ob b:=fun ho=>by rcases m4.ow b ho with e | e;exact not3 e;omega
       have fr4:Frm (du s1.ob) M1 w M4 w4:=fr2.trans m4.fr own3
       have hlt4:=aK hrec4
       have fin:∀(j:Option Code),uT b r' s1.n s1.tm o.dst K j j.isNone s4→∃v w5,(Instr.endRound b j).run P w4=.ok v w5∧onD a.defers (Goes s M w K) (a.put o.dst v) w5:=by
        intro j he
        unfold uT at he
        obtain⟨ob',he,t1,t2⟩:=mQ he
        have hj:({({Nz r' none with state:=.busy}:Go.Loop)with state:=if j.isNone then .ready else .done,pending:=j}:Go.Loop)=Nz r' j:=by cases j<;>rfl
        have hrr:=run_endRound (P:=P) j hrec4
        rw[hj]at hrr
        have hO:=m3.ob.off not4 (.loop (Nz r' j))
        have hRn:Rel M4 ⟨s1.n,s1.tm,ob'⟩ (bare a) (w4.putObj b (.loop (Nz r' j))):=by
         refine⟨rfl,r1.sz,fun q=>(r1.tm q).mono fr4.mle,⟨fun k ok hk=>?_,fun k k' ok ok' bb y1 y2 y3 y4=>?_⟩,m3.rs.off free4 _⟩
         ·by_cases e:k=1000
          ·subst e
           have hk:look ob' 1000=some ok:=hk
           rw[t1]at hk;cases hk
           exact⟨World.putObj_heap_same hlt4,free4⟩
          ·exact hO.ok k ok ((t2 k e).symm.trans hk)
         ·have y1:look ob' k=some ok:=y1
          have y2:look ob' k'=some ok':=y2
          by_cases e:k=1000
          ·subst e
           rw[t1]at y1;cases y1
           cases y3
           by_cases e':k'=1000
           ·exact e'.symm
           ·exact absurd ⟨k',ok',(t2 k' e').symm.trans y2,y4⟩ not4
          ·by_cases e':k'=1000
           ·subst e'
            rw[t1]at y2;cases y2
            cases y4
            exact absurd ⟨k,ok,(t2 k e).symm.trans y1,y3⟩ not4
           ·exact m3.ob.dj k k' ok ok' bb ((t2 k e).symm.trans y1) ((t2 k' e').symm.trans y2) y3 y4
        have hst:Stp s1.ob M1 w ob' M4 (w4.putObj b (.loop (Nz r' j))):=by
         refine⟨fr4.trans (Frm.off (du s1.ob) M4 w4 (.inl ⟨_,_,hlk,rfl⟩) _) fun _ _ h=>h,?_⟩
         rintro b' ⟨k,ok,y1,y2⟩
         by_cases e:k=1000
         ·subst e
          rw[t1]at y1;cases y1
          cases y2
          exact .inl ⟨_,_,hlk,rfl⟩
         ·have h4:du s4.ob b':=⟨k,ok,(t2 k e).symm.trans y1,y2⟩
          rcases m4.ow b' h4 with h3 | h3
          ·rcases k4.ow b' h3 with h2 | h2
           ·exact .inl (own1 _ h2)
           ·exact .inr h2
          ·exact .inr (Nat.le_trans fr2.size h3)
        obtain⟨s5,h5,r5,o5⟩:=hRn.put he (.b j.isNone)
        exact⟨_,_,hrr,put_defers _ _ _,s5,M4,h5,by rw[fG];exact r5,p1.trans (hst.ob_eq o5)⟩
       cases m2 with
       | nrm=>exact fin none m1
       | ret=>exact fin (some .ret) m1
       | exit i=>exact fin (some (.exit i)) m1
       | pan d v _=>exact m1.elim
      | exit i=>exact k1.elim
      | ret=>exact k1.elim
      | pan d v _=>exact k1.elim
     ·exact h.elim
    ·exact h.elim
   ·exact h.elim
  ·exact h.elim
 ·exact h.elim
end
end Go.Abs
