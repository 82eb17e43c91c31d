/-
 Code: its abstract run (codeA), loops, soundness, in a plain frame and in a round's.
-/
import Derived.Test.YtdodahpkpeodfaaGreatDoorAbsL
import Derived.Scope
import Derived.Sort.LoopGhostIn
import Derived.RangeFuncRecord
set_option linter.all false
open List renaming range'→CQ,rec→Jn
open Nat renaming beq→IF,le_trans→zW
namespace Go.Abs
open Go
noncomputable def wj (l:List (Nat×AV)):T AV→(T AV→Prop)→Prop :=
 Jn (motive:=fun _=>T AV→(T AV→Prop)→Prop) (fun t K=>K t) (fun p _ ih t K=>match p with | (k,v)=>T.put v 20 t k fun t'=>ih t' K) l
theorem tx(k:Nat)(v:AV)(r:List (Nat×AV))(t:T AV)(K:T AV→Prop):wj ((k,v)::r) t K=T.put v 20 t k fun t'=>wj r t' K:=rfl
noncomputable def tz (n:Nat) (tm:List (Nat×AV)) (ob:List (Nat×Ob)) (K:St→Prop):Prop:=wj tm .e fun t=>K ⟨n,t,ob⟩
inductive ObSub (ob:List (Nat×Ob)) (k:Nat):Ob→Prop where
 | same (o:Ob) (h:look ob k=some o):ObSub ob k o
 | cells (b:Nat) (cs cs':List AV) (h:look ob k=some (.cells b cs')) (hl:All2 AV.le cs' cs):ObSub ob k (.cells b cs)
 | arr (h':Value) (e sz:Nat) (fz:Bool) (xs:List D) (h:look ob k=some (.arr h' e sz false xs)):ObSub ob k (.arr h' e sz fz xs)
 | mit (b km mb:Nat) (es rem:List (D×D)) (last:Option (D×D)) (h:look ob k=some (.mit b km mb es rem last)):ObSub ob k (.mit b km mb es rem none)
 | nil (e sz:Nat) (fz:Bool):ObSub ob k (.arr (.slice none 0 0) e sz fz [])
 | nilrows (e re rsz:Nat) (hs:Nat→Value):ObSub ob k (.rows (.slice none 0 0) e re rsz hs none [])
structure Sub(n:Nat)(s:St)(tm:List (Nat×AV))(ob:List (Nat×Ob)):Prop where
 n:s.n=n
 tm:∀p∈tm,AV.le (s.get p.1) p.2
 ob:∃ren:Nat→Nat,(∀p∈ob,ObSub s.ob (ren p.1) p.2)∧∀p∈ob,∀q∈ob,ren p.1=ren q.1→p.1=q.1
noncomputable def AV.toN (v:AV):AV:=match v with
 | .nils sz=>.d (.list sz [])
 | .agg l=>match lj l with | some ds=>.d (.agg ds) | none=>.agg l
 | v=>v.toD
noncomputable def leT (u v:AV) (K:Prop):Prop:=match v with
 | .d x=>match u.toN with
  | .d y=>Need (y=x) K
  | _=>False
 | .sl k h=>match u with
  | .nils _=>Need (h=.slice none 0 0) K
  | .sl _ h'=>Need (h'=h) K
  | u=>Need (u=.sl k h) K
 | .top=>K
 | v=>Need (u=v) K
noncomputable def leL (us:List AV):List AV→Prop→Prop :=
 Jn (motive:=fun _=>List AV→Prop→Prop) (fun vs K=>match vs with | []=>K | _::_=>False) (fun u _ ih vs K=>match vs with | []=>False | v::vs=>leT u v (ih vs K)) us
theorem uM(u v:AV)(us vs:List AV)(K:Prop):leL (u::us) (v::vs) K=leT u v (leL us vs K):=rfl
inductive OLe:Option Ob→Ob→Prop where
 | refl (o:Ob):OLe (some o) o
 | cells (b:Nat) (cs cs':List AV) (h:leL cs' cs True):OLe (some (.cells b cs')) (.cells b cs)
 | arr (h:Value) (e sz:Nat) (fz:Bool) (xs:List D):OLe (some (.arr h e sz false xs)) (.arr h e sz fz xs)
 | nil (o:Option Ob) (e sz:Nat) (fz:Bool):OLe o (.arr (.slice none 0 0) e sz fz [])
 | mit (b km mb:Nat) (es rem:List (D×D)) (last:Option (D×D)):OLe (some (.mit b km mb es rem last)) (.mit b km mb es rem none)
 | nilrows (o:Option Ob) (e re rsz:Nat) (hs:Nat→Value):OLe o (.rows (.slice none 0 0) e re rsz hs none [])
noncomputable def Pc (s:St) (l:List (Nat×AV)):Prop :=
 Jn (motive:=fun _=>Prop) True (fun p _ ih=>match p with
  | (k,v)=>match T.get 20 s.tm k with
   | some u=>leT u v ih
   | none=>leT .top v ih) l
theorem Pd(s:St)(k:Nat)(v:AV)(r:List (Nat×AV)):Pc s ((k,v)::r)=match T.get 20 s.tm k with
   | some u=>leT u v (Pc s r)
   | none=>leT .top v (Pc s r):=rfl
noncomputable def uN (ob:List (Nat×Ob)) (l:List (Nat×Ob)):Prop :=
 Jn (motive:=fun _=>Prop) True (fun p _ ih=>match p with
  | (k,o)=>match look ob k with
   | some o'=>Need (OLe (some o') o) ih
   | none=>Need (OLe none o) ih) l
theorem tD(ob:List (Nat×Ob))(k:Nat)(o:Ob)(r:List (Nat×Ob)):uN ob ((k,o)::r)=match look ob k with
   | some o'=>Need (OLe (some o') o) (uN ob r)
   | none=>Need (OLe none o) (uN ob r):=rfl
theorem AV.le_toN(v:AV):AV.le v v.toN:=by
 intro M val h
 unfold AV.toN
 split
 ·cases h;exact .d _ _ (.nils _)
 ·split
  ·rename_i ds hds
   cases h with | agg _ vs hl hg h1=>?_
   have:=Mz hds ⟨hl,hg⟩
   exact .d _ _ (.agg _ _ this.1 this.2 h1)
  ·exact h
 ·exact aM h
theorem uO{u v:AV}{K:Prop}(h:leT u v K):AV.le u v∧K:=by
 unfold leT at h
 split at h
 ·split at h
  ·rename_i y ey
   obtain⟨rfl,h⟩:=h
   exact⟨fun M val hv=>ey▸AV.le_toN u M val hv,h⟩
  ·exact h.elim
 ·split at h
  ·obtain⟨rfl,h⟩:=h
   exact⟨fun M val hv=>by cases hv;exact .sl _ _ _ _,h⟩
  ·obtain⟨rfl,h⟩:=h
   exact⟨fun M val hv=>by cases hv;exact .sl _ _ _ _,h⟩
  ·obtain⟨e,h⟩:=h
   exact⟨fun M val hv=>e▸hv,h⟩
 ·exact⟨fun M val hv=>.top _,h⟩
 ·obtain⟨rfl,h⟩:=h
  exact⟨fun M val hv=>hv,h⟩
theorem rK:∀{us vs:List AV} {K:Prop},leL us vs K→All2 AV.le us vs∧K
 | [],[],K,h=>⟨.nil,h⟩
 | [],_::_,K,h=>h.elim
 | _::_,[],K,h=>h.elim
 | u::us,v::vs,K,h=>by
  rw[uM]at h
  obtain⟨h1,h⟩:=uO h
  obtain⟨h2,h⟩:=rK h
  exact⟨.cons h1 h2,h⟩
noncomputable def OH (l:List (Nat×Nat)) (k:Nat):Nat:=Jn (motive:=fun _=>Nat) k (fun p _ ih=>match IF p.1 k with | true=>p.2 | false=>ih) l
noncomputable def pK (l:List (Nat×Nat)) (a:Nat) (r:List (Nat×Ob)):Bool:=Jn (motive:=fun _=>Bool) true (fun q _ ih=>match IF a (OH l q.1)with | true=>false | false=>ih) r
noncomputable def wR (l:List (Nat×Nat)) (ob:List (Nat×Ob)):Bool:=Jn (motive:=fun _=>Bool) true (fun p r ih=>match pK l (OH l p.1) r with | true=>ih | false=>false) ob
theorem lu{l:List (Nat×Nat)}{a:Nat}:∀{r:List (Nat×Ob)},pK l a r=true→∀q∈r,a≠OH l q.1
 | [],_,q,hq=>by simp at hq
 | p::r,h,q,hq=>by
  have h':(match IF a (OH l p.1)with | true=>false | false=>pK l a r)=true:=h
  split at h'
  ·cases h'
  ·rename_i e
   rcases List.mem_cons.1 hq with rfl | hq
   ·exact Nat.ne_of_beq_eq_false e
   ·exact lu h' q hq
theorem sJ{l:List (Nat×Nat)}:∀{ob:List (Nat×Ob)},wR l ob=true→∀p∈ob,∀q∈ob,OH l p.1=OH l q.1→p.1=q.1
 | [],_,p,hp,_,_,_=>by simp at hp
 | x::r,h,p,hp,q,hq,e=>by
  have h':(match pK l (OH l x.1) r with | true=>wR l r | false=>false)=true:=h
  split at h'
  ·rename_i e'
   rcases List.mem_cons.1 hp with e1 | h1<;>rcases List.mem_cons.1 hq with e2 | h2
   ·rw[e1,e2]
   ·rw[e1]at e;exact absurd e (lu e' q h2)
   ·rw[e2]at e;exact absurd e.symm (lu e' p h1)
   ·exact sJ h' p h1 q h2 e
  ·cases h'
noncomputable def qJ (rl:List (Nat×Nat)) (ob:List (Nat×Ob)) (l:List (Nat×Ob)):Prop :=
 Jn (motive:=fun _=>Prop) True (fun p _ ih=>match p with
  | (k,o)=>match look ob (OH rl k)with
   | some o'=>Need (OLe (some o') o) ih
   | none=>Need (OLe none o) ih) l
theorem rL(rl:List (Nat×Nat))(ob:List (Nat×Ob))(k:Nat)(o:Ob)(r:List (Nat×Ob)):qJ rl ob ((k,o)::r)=match look ob (OH rl k)with
   | some o'=>Need (OLe (some o') o) (qJ rl ob r)
   | none=>Need (OLe none o) (qJ rl ob r):=rfl
theorem Sub.ren(rl:List (Nat×Nat)){n:Nat}{s:St}{tm:List (Nat×AV)}{ob:List (Nat×Ob)}(hn:s.n=n)(hi:wR rl ob=true)(ht:Pc s tm)(ho:qJ rl s.ob ob):Sub n s tm ob:=by
 refine⟨hn,?_,OH rl,?_,sJ hi⟩
 ·clear ho hi
  induction tm with
  | nil=>simp
  | cons p r ih =>
   have key:AV.le (s.get p.1) p.2∧Pc s r:=by
    obtain⟨k,v⟩:=p
    rw[Pd]at ht
    simp only[St.get]
    split at ht<;>rename_i e<;>rw[e]<;>exact uO ht
   intro q hq
   rcases List.mem_cons.1 hq with e | e
   ·subst e;exact key.1
   ·exact ih key.2 q e
 ·clear ht hi
  induction ob with
  | nil=>simp
  | cons p r ih =>
   have key:ObSub s.ob (OH rl p.1) p.2∧qJ rl s.ob r:=by
    obtain⟨k,o⟩:=p
    rw[rL]at ho
    split at ho
    ·rename_i o' e
     refine⟨?_,ho.r⟩
     have hl:=ho.l
     cases hl with
     | refl=>exact .same _ e
     | cells b cs cs' h=>exact .cells b cs cs' e (rK h).1
     | arr h e' sz fz xs=>exact .arr h e' sz fz xs e
     | mit b km mb es rem last=>exact .mit b km mb es rem last e
     | nil=>exact .nil _ _ _
     | nilrows=>exact .nilrows _ _ _ _
    ·have hl:=ho.l
     refine⟨?_,ho.r⟩
     cases hl
     ·exact .nil _ _ _
     ·exact .nilrows _ _ _ _
   intro q hq
   rcases List.mem_cons.1 hq with e | e
   ·subst e;exact key.1
   ·exact ih key.2 q e
theorem Sub.eq{n:Nat}{s:St}{tm:List (Nat×AV)}{ob:List (Nat×Ob)}(hn:s.n=n)(ht:Pc s tm)(ho:uN s.ob ob):Sub n s tm ob:=by
 have h1:=Sub.ren [] (s:=s) (tm:=tm) (ob:=[]) hn rfl ht trivial
 refine⟨hn,h1.tm,id,?_,fun _ _ _ _ e=>e⟩
 clear ht h1
 induction ob with
 | nil=>simp
 | cons p r ih =>
  have key:ObSub s.ob p.1 p.2∧uN s.ob r:=by
   obtain⟨k,o⟩:=p
   rw[tD]at ho
   split at ho
   ·rename_i o' e
    refine⟨?_,ho.r⟩
    have hl:=ho.l
    cases hl with
    | refl=>exact .same _ e
    | cells b cs cs' h=>exact .cells b cs cs' e (rK h).1
    | arr h e' sz fz xs=>exact .arr h e' sz fz xs e
    | mit b km mb es rem last=>exact .mit b km mb es rem last e
    | nil=>exact .nil _ _ _
    | nilrows=>exact .nilrows _ _ _ _
   ·have hl:=ho.l
    refine⟨?_,ho.r⟩
    cases hl
    ·exact .nil _ _ _
    ·exact .nilrows _ _ _ _
  intro q hq
  rcases List.mem_cons.1 hq with e | e
  ·subst e;exact key.1
  ·exact ih key.2 q e
noncomputable def wk (run:St→(X→St→Prop)→Prop) (Q:X→St→Prop) (k:Nat):St→Prop :=
 Nat.rec (motive:=fun _=>St→Prop) (fun _=>False) (fun _ ih s=>run s fun e s'=>match e with
  | .nrm=>ih s'
  | e=>Q e s') k
theorem tE(run:St→(X→St→Prop)→Prop)(Q:X→St→Prop)(k:Nat)(s:St):wk run Q (k+1) s=run s fun e s'=>match e with
  | .nrm=>wk run Q k s'
  | e=>Q e s':=rfl
inductive LoopG (key n:Nat) (run:St→(X→St→Prop)→Prop) (s:St) (Q:X→St→Prop):Prop where
 | mk (α:Type) (tm:α→List (Nat×AV)) (ob:α→List (Nat×Ob)) (inv:α→Prop) (μ:α→Nat) (x0:α) (i0:inv x0) (h0:Sub n s (tm x0) (ob x0))
   (h:∀x,inv x→tz n (tm x) (ob x) fun s1=>run s1 fun e s'=>match e with
    | .nrm=>∃y,inv y∧Sub n s' (tm y) (ob y)∧μ y<μ x
    | e=>Q e s')
 | unr (k:Nat) (h:wk run Q k s)
noncomputable def St.sized (s:St) (K:Nat→Prop):Prop:=match s with | ⟨n,_,_⟩=>K n
noncomputable def uP (c:Code):Nat :=
 Code.rec (motive:=fun _=>Nat) 1000000 (fun id _ _=>id) (fun _ _ x _=>x) (fun _ _ _ x y=>match IF x 1000000 with | true=>y | false=>x) (fun _ _ x=>x) (fun _ x=>x) (fun _ _ _ _ x _=>x) (fun _=>1000000) (fun _ x=>x)
  (fun _=>1000000) (fun _=>1000000) 1000000 (fun _=>1000000) c
noncomputable def uQ (c:Code):Nat:=match c with
 | .region id _ _=>id
 | c=>Nat.add 1000 (uP c)
inductive SeqG (key n:Nat) (runA:(X→St→Prop)→Prop) (runB:St→Prop) (Q:X→St→Prop):Prop where
 | mk (α:Type) (tm:α→List (Nat×AV)) (ob:α→List (Nat×Ob)) (inv:α→Prop) (ha:runA fun e s'=>match e with
    | .nrm=>∃x,inv x∧Sub n s' (tm x) (ob x)
    | e=>Q e s')
   (hb:∀x,inv x→tz n (tm x) (ob x) runB)
structure Ext where
 DR:Array Oper→St→(X→St→Prop)→Prop
 Y:Oper→St→(St→Prop)→Prop
 RF:Operand→Array Tmp→Code→Code→St→(X→St→Prop)→Prop
noncomputable def isY (s:St) (o:Oper):Bool:=match o.op with
 | .call c=>match c.callee with
  | .value x=>match s.eval x with
   | .fn (.yield _) _ _=>true
   | _=>false
  | _=>false
 | _=>false
noncomputable def kw (all:Array Oper) (j:Nat):Option Nat:=match jr all.toList j with | some o=>o.dst | none=>none
theorem jW(all:Array Oper)(j:Nat):kw all j=(all[j]?).bind (·.dst):=by
 unfold kw;rw[f7,Array.getElem?_toList];cases all[j]?<;>rfl
section
variable (P:Program)(tt:TT)(an:Ann)(E:Ext)
noncomputable def opB (o:Oper) (s:St) (K:St→Prop) (Kp:D→St→Prop):Prop:=match isY s o with
 | true=>E.Y o s K
 | false=>opA P tt an o s K Kp
noncomputable def opG (all:Array Oper) (o:Oper) (s:St) (K:St→Prop) (Kp:D→St→Prop):Prop:=match o.guard with
  | none=>opB P tt an E o s K Kp
  | some (j,want)=>match kw all j with
   | some t=>match s.get t with
    | .b c=>match c,want with
     | true,true=>opB P tt an E o s K Kp
     | false,false=>opB P tt an E o s K Kp
     | _,_=>s.put o.dst .un K
    | .d (.bool c)=>match want with
     | true=>Br (c=true→s.putN t (.b true) fun s=>opB P tt an E o s K Kp) (c=false→s.putN t (.b false) fun s=>s.put o.dst .un K)
     | false=>Br (c=false→s.putN t (.b false) fun s=>opB P tt an E o s K Kp) (c=true→s.putN t (.b true) fun s=>s.put o.dst .un K)
    | .un=>s.put o.dst .un K
    | _=>False
   | none=>False
noncomputable def tF (all:Array Oper) (l:List Oper) (s:St) (K:St→Prop) (Kp:D→St→Prop):Prop :=
 Jn (motive:=fun _=>St→Prop) (fun s=>K s) (fun o _ ih s=>opG P tt an E all o s ih Kp) l s
theorem tG(all:Array Oper)(o:Oper)(r:List Oper)(s:St)(K:St→Prop)(Kp:D→St→Prop):tF P tt an E all (o::r) s K Kp=opG P tt an E all o s (fun s'=>tF P tt an E all r s' K Kp) Kp:=rfl
noncomputable def j7 (c:Code):St→(X→St→Prop)→Prop :=
 Code.rec (motive:=fun _=>St→(X→St→Prop)→Prop)
  (fun s Q=>Q .nrm s)
  (fun _ ops draw s Q=>match draw with
   | false=>tF P tt an E ops ops.toList s (fun s'=>Q .nrm s') (fun d s'=>Q (.pan d) s')
   | true=>E.DR ops s Q)
  (fun x _ ra rb s Q=>match rz (uQ x) an.cut with
   | true=>s.sized fun n=>SeqG (uQ x) n (ra s) (fun s'=>rb s' Q) Q
   | false=>ra s fun e s'=>match e with
    | .nrm=>rb s' Q
    | e=>Q e s')
  (fun c _ _ ra rb s Q=>match s.eval c with
   | .b true=>ra s Q
   | .b false=>rb s Q
   | .d (.bool v)=>Br (v=true→ra s Q) (v=false→rb s Q)
   | _=>False)
  (fun id _ ra s Q=>ra s fun e s'=>match e with
   | .exit j=>(match IF j id with | true=>Q .nrm s' | false=>Q (.exit j) s')
   | e=>Q e s')
  (fun c ra s Q=>s.sized fun n=>LoopG (uP c) n ra s Q)
  (fun g ps assign body _ _ s Q=>E.RF g ps assign body s Q)
  (fun n s Q=>Q (.exit n) s)
  (fun _ ra s Q=>ra s Q)
  (fun _ s Q=>Q .nrm s)
  (fun _ _ _=>False)
  (fun s Q=>Q .ret s)
  (fun _ _ _=>False) c
noncomputable def pL (fr:Bool) (s:St) (r:ResultVar) (t:TypeId) (K:AV→Prop):Prop:=match r with
 | .tmp q=>match s.get q with
  | .nils _=>aE tt t fun i=>K (match fr with | true=>.nils i.esz | false=>.d (.list i.esz []))
  | v=>K v.toD
 | .cell q t'=>aE tt t' fun i=>loadR s i (s.get q) fun v=>match v with
  | .nils sz=>K (.d (.list sz []))
  | v=>K v.toD
noncomputable def mS (fr:Bool) (s:St) (rs:List ResultVar):List TypeId→(List AV→Prop)→Prop :=
 Jn (motive:=fun _=>List TypeId→(List AV→Prop)→Prop) (fun _ K=>K [])
  (fun r _ ih ts K=>match ts with | []=>False | t::ts=>pL tt fr s r t fun v=>ih ts fun vs=>K (v::vs)) rs
theorem pM(fr:Bool)(s:St)(r:ResultVar)(rs:List ResultVar)(t:TypeId)(ts:List TypeId)(K:List AV→Prop):mS tt fr s (r::rs) (t::ts) K=pL tt fr s r t fun v=>mS tt fr s rs ts fun vs=>K (v::vs):=rfl
noncomputable def uR (fn:Func) (fresh:Bool) (s:St) (K:AV→St→Prop):Prop :=
 mS tt fresh s fn.results.toList fn.resultTypes.toList fun vs=>qo (match fresh with | true=>true | false=>false) vs s fun s' vs'=>match vs' with
  | [v]=>kH v fun v'=>K v' s'
  | vs=>match lj vs with
   | some ds=>K (.d (.tup ds)) s'
   | none=>K (.tup vs) s'
def sK:List Nat:=[0,1,2,3,4,5,6,7,8,9,10,11,12,13,14,15,16,17,18,19]
noncomputable def wS:List Nat→List Nat:=Jn [] fun k _ ih=>match Nat.ble 100000000 k with | true=>(k-100000000)::ih | false=>ih
def uS (v:AV):AV:=match v with | .nils sz=>.d (.list sz []) | v=>v
noncomputable def tH (ks:List Nat):St→(St→Prop)→Prop :=
 Jn (motive:=fun _=>St→(St→Prop)→Prop) (fun s K=>K s) (fun k _ ih s K=>match look s.ob k with
  | some (.cells b cs)=>NK cs s fun s' cs'=>match look s'.ob k with
   | some (.cells b' _)=>Side (b'=b) (s'.setO k (.cells b' (bN uS cs')) fun s''=>ih s'' K)
   | _=>False
  | _=>False) ks
theorem tI(k:Nat)(ks:List Nat)(s:St)(K:St→Prop):tH (k::ks) s K=match look s.ob k with
  | some (.cells b cs)=>NK cs s fun s' cs'=>match look s'.ob k with
   | some (.cells b' _)=>Side (b'=b) (s'.setO k (.cells b' (bN uS cs')) fun s''=>tH ks s'' K)
   | _=>False
  | _=>False:=rfl
noncomputable def nq (fn:Func) (c:Code) (fresh:Bool) (args:List AV) (os:List (Nat×Ob)) (Q:AE→List (Nat×Ob)→Prop):Prop :=
 tz fn.ntmps (po sK args) os fun s=>j7 P tt an E c s fun e s'=>match e with
  | .nrm=>tH (wS an.own) s' fun s1=>uR tt fn fresh s1 fun v s''=>Q (.ret v) s''.ob
  | .ret=>tH (wS an.own) s' fun s1=>uR tt fn fresh s1 fun v s''=>Q (.ret v) s''.ob
  | .pan d=>Q (.pan d) s'.ob
  | _=>False
end
inductive XRel (M:GM):X→Exit→Prop where
 | nrm:XRel M .nrm .normal
 | exit (n:Nat):XRel M (.exit n) (.exit n)
 | ret:XRel M .ret .ret
 | pan (d:D) (v:Value) (h:Gam M d v):XRel M (.pan d) (.panic [{v,recovered:=false}])
def bare (a:Act):Act:={a with defers:=[]}
def mark (r:Nat):Deferred:={target:=.collected r,args:=#[]}
def MK (n0:Nat)(M:GM)(ob:List (Nat×Ob))(w:World):List Deferred→Prop
 | []=>True
 | d::ds=>(∃r,d=mark r∧n0≤r∧w.heap[r]? = some (.deferred (some []))∧Free M r∧(¬du ob r)∧mark r∉ds)∧MK n0 M ob w ds
theorem MK.stp{n0:Nat}{M M':GM}{ob ob':List (Nat×Ob)}{w w':World}(p:Stp ob M w ob' M' w'):∀{ds:List Deferred},MK n0 M ob w ds→MK n0 M' ob' w' ds
 | [],_=>trivial
 | d::ds,⟨⟨r,h1,h2,h3,h4,h5,h6⟩,h⟩=>by
  have hlt:=aK h3
  refine⟨⟨r,h1,h2,by rw[p.fr.keep r hlt h5];exact h3,⟨fun o=>by rw[p.fr.mc r hlt h5];exact h4.c o,by rw[p.fr.mm r hlt h5];exact h4.m⟩,fun ho=>?_,h6⟩,h.stp p⟩
  rcases p.ow r ho with e | e
  ·exact h5 e
  ·omega
def FR (rd:Option Nat):Fence:={Fence.wide with round:=rd}
theorem rM{rd:Option Nat}{n:Nat}{P:Program}{f:FuncId}{args:Array Value}{w:World}{R:Ending→World→Prop}(h:Calls P f args w R):CallsIn (FR rd) n P f args w R:=by
 have:=(callsIn_wide (n:=n)).2 h
 exact this
def Ends (n0:Nat)(s:St)(M:GM)(w:World)(Q:X→St→Prop):Exit→Act→World→Prop :=
 fun e a' w'=>∃x s' M',Q x s'∧XRel M' x e∧Rel M' s' (bare a') w'∧Stp s.ob M w s'.ob M' w'∧MK n0 M' s'.ob w' a'.defers
def onD (ds:List Deferred)(K:Act→World→Prop):Act→World→Prop:=fun a' w'=>a'.defers=ds∧K (bare a') w'
structure ExtOk(P:Program)(E:Ext)(rd:Option Nat)(M0:GM):Prop where
 dr:∀(id:Nat) (ops:Array Oper) (s:St) (K:X→St→Prop) (M:GM) (a:Act) (w:World) (n0:Nat),E.DR ops s K→M0.le M→n0≤w.heap.size→Rel M s (bare a) w→MK n0 M s.ob w a.defers →
  (Code.region id ops true).wpIn (FR rd) 0 P (Ends n0 s M w K) a w
 y:∀(o:Oper) (s:St) (K:St→Prop) (M:GM) (a:Act) (w:World),isY s o=true→E.Y o s K→M0.le M→Rel M s (bare a) w→o.wpIn (FR rd) 0 P a w (onD a.defers (Goes s M w K)) (fun _ _ _=>False)
 rf:∀(g:Operand) (ps:Array Tmp) (assign body:Code) (s:St) (Q:X→St→Prop) (M:GM) (a:Act) (w:World) (n0:Nat),E.RF g ps assign body s Q→M0.le M→n0≤w.heap.size→Rel M s (bare a) w→MK n0 M s.ob w a.defers →
  (Code.rangeFunc g ps assign body).wpIn (FR rd) 0 P (Ends n0 s M w Q) a w
section
variable {P:Program}{tt:TT}{an:Ann}{E:Ext}{M M':GM}{s s':St}{a:Act}{w w':World}
theorem sL:∀{l:List (Nat×AV)} {t:T AV} {K:T AV→Prop},wj l t K→∃t',K t'∧∀q,(∃v,(q,v)∈l∧T.get 20 t' q=some v)∨T.get 20 t' q=T.get 20 t q
 | [],t,K,h=>⟨t,h,fun _=>.inr rfl⟩
 | (k,v)::r,t,K,h=>by
  rw[tx]at h
  obtain⟨t1,h1,h2,h3⟩:=T.put_ok h
  obtain⟨t2,h4,h5⟩:=sL h1
  refine⟨t2,h4,fun q=>?_⟩
  rcases h5 q with⟨u,hu,hg⟩ | hg
  ·exact .inl ⟨u,by simp[hu],hg⟩
  ·by_cases e:q=k
   ·subst e;exact .inl ⟨v,by simp,by rw[hg,h2]⟩
   ·exact .inr (by rw[hg,h3 q e])
theorem pN{n:Nat}{tm:List (Nat×AV)}{ob:List (Nat×Ob)}{K:St→Prop}(h:tz n tm ob K):∃s,K s∧s.n=n∧s.ob=ob∧∀q,(∃v,(q,v)∈tm∧s.get q=v)∨s.get q=.top:=by
 obtain⟨t,h1,h2⟩:=sL h
 refine⟨_,h1,rfl,rfl,fun q=>?_⟩
 rcases h2 q with⟨v,hv,hg⟩ | hg
 ·exact .inl ⟨v,hv,by simp[St.get,hg]⟩
 ·exact .inr (by simp[St.get,hg,T.get_e])
theorem Rel.sub(hR:Rel M s a w){tm:List (Nat×AV)}{ob:List (Nat×Ob)}{K:St→Prop}{n:Nat}(hs:Sub n s tm ob)(h:tz n tm ob K) :
  ∃s',K s'∧Rel M s' a w∧Stp s.ob M w s'.ob M w∧s'.n=s.n:=by
 obtain⟨s',h1,hn,ho,hg⟩:=pN h
 obtain⟨ren,hren,hinj⟩:=hs.ob
 have key:∀k o,look s'.ob k=some o→(∃o',look s.ob (ren k)=some o'∧bu o'=bu o∧(gW M w o'→gW M w o))∨((∀b,¬bu o b)∧gW M w o):=by
  intro k o hk
  rw[ho]at hk
  have hsub:=hren _ (bC hk)
  generalize hp:((k,o):Nat×Ob).2=o' at hsub
  simp at hp;subst hp
  cases hsub with
  | same _ h=>exact .inl ⟨_,h,rfl,id⟩
  | cells b cs cs' h hl =>
   refine .inl ⟨_,h,rfl,?_⟩
   rintro⟨vals,elem,h0,h1,h2,h3⟩
   refine⟨vals,elem,h0,⟨hl.1.symm.trans h1.1,fun i x y hx hy=>?_⟩,h2,h3⟩
   have hi:i<cs'.length:=by rw[hl.1];exact(List.getElem?_eq_some_iff.1 hx).1
   exact hl.2 i cs'[i] x (by simp[hi]) hx M y (h1.2 i cs'[i] y (by simp[hi]) hy)
  | arr h' e sz fz xs h =>
   refine .inl ⟨_,h,rfl,?_⟩
   rintro⟨vals,h0,h1,h2,h3,h4⟩
   exact⟨vals,h0,h1,h2,h3,fun b hb=>⟨(h4 b hb).1,fun o _=>(h4 b hb).2 o (.inl rfl)⟩⟩
  | mit b km mb es rem last h =>
   refine .inl ⟨_,h,rfl,?_⟩
   rintro⟨seen,I,h0,h1,h2,h3,_,h5⟩
   exact⟨seen,I,h0,h1,h2,h3,(fun e he=>by cases he),h5⟩
  | nil e sz fz=>exact .inr ⟨fun b hb=>by simp[bu,Value.ownBlock]at hb,[],World.ownsRow_nil w 0 e sz,.nil,by simp,by simp,fun b hb=>by simp[Value.ownBlock]at hb⟩
  | nilrows e re rsz hs=>exact .inr ⟨fun b hb=>by simp[bu,Value.ownBlock]at hb,World.ownsRow_nil w 0 e 1,fun b hb=>by simp[Value.ownBlock]at hb,fun _ h=>by simp at h,fun _ _ h=>by simp at h,fun _ h=>by simp at h,fun _ _ h=>by simp at h⟩
 have own:∀k o b,look s'.ob k=some o→bu o b→∃o',look s.ob (ren k)=some o'∧bu o' b:=by
  intro k o b h2 h3
  rcases key k o h2 with⟨o',h,hb,_⟩ | ⟨hno,_⟩
  ·exact⟨o',h,hb▸h3⟩
  ·exact(hno b h3).elim
 refine⟨s',h1,⟨hR.df,by rw[hn,← hs.n];exact hR.sz,fun q=>?_,⟨fun k o hk=>?_,fun k k' o o' b h2 h3 h4 h5=>?_⟩,hR.rs⟩,⟨.refl _ _ _,?_⟩,by rw[hn,hs.n]⟩
 ·rcases hg q with⟨v,hv,he⟩ | he
  ·rw[he];exact hs.tm _ hv M _ (hR.tm q)
  ·rw[he];exact .top _
 ·rcases key k o hk with⟨o',h,_,hok⟩ | ⟨_,hok⟩
  ·exact hok (hR.ob.ok (ren k) o' h)
  ·exact hok
 ·obtain⟨p,hp1,hp2⟩:=own k o b h2 h4
  obtain⟨p',hp1',hp2'⟩:=own k' o' b h3 h5
  have e:=hR.ob.dj (ren k) (ren k') p p' b hp1 hp1' hp2 hp2'
  rw[ho]at h2 h3
  exact hinj _ (bC h2) _ (bC h3) e
 ·rintro b ⟨k,o,h2,h3⟩
  obtain⟨p,hp1,hp2⟩:=own k o b h2 h3
  exact .inl ⟨ren k,p,hp1,hp2⟩
theorem AV.le_refl(v:AV):AV.le v v:=fun _ _ h=>h
theorem AV.le_nilD(sz sz':Nat):AV.le (.nils sz) (.d (.list sz' [])):=fun _ _ h=>by cases h;exact .d _ _ (.nils _)
theorem AV.le_key(k k':Nat)(h:Value):AV.le (.sl k h) (.sl k' h):=fun _ _ x=>by cases x;exact .sl _ _ _ _
theorem Ends.mono{n0:Nat}{Q Q':X→St→Prop}(h:∀x s',Q x s'→Q' x s'){e:Exit}{a':Act}(hh:Ends n0 s M w Q e a' w'):Ends n0 s M w Q' e a' w':=by
 obtain⟨x,s',M',h1,h2⟩:=hh
 exact⟨x,s',M',h _ _ h1,h2⟩
theorem Ends.from{n0:Nat}{s1:St}{M1:GM}{w1:World}{Q:X→St→Prop}(p:Stp s.ob M w s1.ob M1 w1){e:Exit}{a':Act}(hh:Ends n0 s1 M1 w1 Q e a' w'):Ends n0 s M w Q e a' w':=by
 obtain⟨x,s',M',h1,h2,h3,h4,h5⟩:=hh
 exact⟨x,s',M',h1,h2,h3,p.trans h4,h5⟩
theorem qK{o:Oper}{K:St→Prop}{Kp:D→St→Prop}(h:opA P tt an o s K Kp):∀c,o.op≠.defer c:=by
 intro c e
 simp[opA,isR,opE,e]at h
theorem fG(a:Act)(d:Option Tmp)(v:Value):bare (a.put d v)=(bare a).put d v:=by cases d<;>rfl
theorem put_defers(a:Act)(d:Option Tmp)(v:Value):(a.put d v).defers=a.defers:=by cases d<;>rfl
theorem OI{rd:Option Nat}{o:Oper}{K:Act→World→Prop}{Q:Exit→Act→World→Prop}(hnd:∀c,o.op≠.defer c)(hK:∀a w,K a w→a.defers=[])(hno:∀a w,¬Q .outgrown a w)(h:o.wp P (bare a) w K Q) :
  o.wpIn (FR rd) 0 P a w (onD a.defers K) (fun e=>onD a.defers (Q e)):=by
 refine⟨fun _ _=>trivial,?_⟩
 rw[Oper.semAt_eq _ _ _ hnd]
 have he:(bare a).eval=a.eval:=rfl
 unfold Oper.wp at h
 rw[he]at h
 generalize(execOp a.eval o).run P w=r at h
 unfold Oper.uponIn
 unfold Oper.upon at h
 split at h
 ·exact⟨put_defers _ _ _,by rw[fG];exact h⟩
 ·exact⟨put_defers _ _ _,by rw[fG];exact h⟩
 ·have:=hK _ _ h;rw[put_defers]at this;cases this
 ·refine⟨fun h=>by simp[FR,Fence.wide]at h,(rM h).mono ?_⟩
  intro e w' hh
  cases e with
  | returned v=>exact⟨put_defers _ _ _,by rw[fG];exact hh⟩
  | panicked chain=>exact⟨rfl,hh⟩
  | outgrown=>obtain⟨a0,w0,hh⟩:=hh;exact absurd hh (hno _ _)
 ·refine⟨fun h=>by simp[FR,Fence.wide]at h,fun c cs _=>?_⟩
  obtain⟨v,w',hq,hs⟩:=h c cs
  exact⟨v,w',⟨put_defers _ _ _,by rw[fG];exact hq⟩,(StepsIn.of_steps hs).mono fun m _=>fenced_wide P m⟩
 ·exact⟨rfl,h⟩
 ·exact h.elim
theorem nt{o:Oper}{all:Array Oper}{tm:Array Value}{j t:Nat}{want c:Bool}(hg:o.guard=some (j,want))(ht:kw all j=some t)(hv:tm.getD t undef=.bool c):Region.wanted o (yielded all tm)=(c == want):=by
 have:tm[t]? = some (.bool c):=by
  rw[Array.getD_eq_getD_getElem?]at hv
  cases h:tm[t]? with
  | none=>rw[h]at hv;simp[undef]at hv
  | some v=>rw[h]at hv;simpa using hv
 have hy:yielded all tm j=some c:=by
  unfold yielded
  rw[jW]at ht
  rw[ht];simp[this]
 simp only[Region.wanted,hg,hy]
 cases c<;>cases want<;>rfl
theorem oX{o:Oper}{all:Array Oper}{tm:Array Value}{j t:Nat}{want:Bool}(hg:o.guard=some (j,want))(ht:kw all j=some t)(hv:tm.getD t undef=undef):Region.wanted o (yielded all tm)=false:=by
 have hy:yielded all tm j=none:=by
  unfold yielded
  rw[jW]at ht
  rw[ht]
  rw[Array.getD_eq_getD_getElem?]at hv
  simp only[Option.bind_some]
  cases h:tm[t]? with
  | none=>rfl
  | some v=>rw[h]at hv;simp at hv;subst hv;rfl
 simp only[Region.wanted,hg,hy]
 rfl
theorem me{o:Oper}{all:Array Oper}{tm:Array Value}(hg:o.guard=none):Region.wanted o (yielded all tm)=true:=by simp[Region.wanted,hg]
theorem d6{b:Frame}{k:List Item}{cs:List Frame}{c:Code}:step P (lone (b.atR a (.code (.scope c)::k)) cs w)=.next (lone (b.atR a (.code c::.inScope c::k)) cs w) :=
 step_lone_go (by simp[stepG,stepG.exec,Frame.atR])
theorem oy{b:Frame}{k:List Item}{cs:List Frame}{c:Code}:step P (lone (b.atR a (.inScope c::k)) cs w)=.next (lone (b.atR a k) cs w) :=
 step_lone_go (by simp[stepG,stepG.exec,Frame.atR])
theorem j3{rd:Option Nat}{c:Code}{Q:Exit→Act→World→Prop}(h:c.wpIn (FR rd) 0 P (Exit.noGoto Q) a w):(Code.scope c).wpIn (FR rd) 0 P Q a w:=by
 intro b k cs hro hb hr
 have h0:(lone (b.atR a (.code (.scope c)::k)) cs w).fenced P (FR rd):=fenced_calm hb hr rfl
 obtain⟨e,a₁,w₁,hq,harr⟩:=h b (.inScope c::k) cs hro hb hr
 cases e with
 | normal=>exact⟨.normal,a₁,w₁,hq,.head h0 d6 (StepsIn.trans harr (.one (fenced_calm hb hr rfl) oy))⟩
 | exit id =>
  have hx:exitTo id (.inScope c::k)=exitTo id k:=by simp[exitTo]
  exact⟨.exit id,a₁,w₁,hq,fun k' hk=>.head h0 d6 (harr.1 k' (by rw[hx];exact hk)),
   fun hr' hk=>let⟨k₁,h1,h2⟩:=harr.2 hr' (by rw[hx];exact hk);⟨k₁,h1,.head h0 d6 h2⟩⟩
 | goto l=>exact hq.elim
 | ret=>exact⟨_,a₁,w₁,hq,.of_steps (.one h0 d6) harr⟩
 | panic ch=>exact⟨_,a₁,w₁,hq,.of_steps (.one h0 d6) harr⟩
 | outgrown=>exact⟨_,a₁,w₁,hq,.of_steps (.one h0 d6) harr⟩
theorem wT(htt:cn P tt=true){rd:Option Nat}{M0:GM}(hE:ExtOk P E rd M0)(hM:M0.le M){o:Oper}(hR:Rel M s (bare a) w){K:St→Prop}{Kp:D→St→Prop}(h:opB P tt an E o s K Kp) :
  o.wpIn (FR rd) 0 P a w (onD a.defers (Goes s M w K)) (fun e=>onD a.defers (ov s M w Kp e)):=by
 unfold opB at h
 split at h
 ·rename_i hy
  have:=hE.y o s K M a w hy h hM hR
  refine⟨this.1,?_⟩
  have h2:=this.2
  revert h2
  generalize(o.semAt (FR rd).round a.eval).run P w=r
  intro h2
  unfold Oper.uponIn at h2 ⊢
  split at h2
  ·exact h2
  ·exact h2
  ·exact h2
  ·refine⟨h2.1,h2.2.mono ?_⟩
   intro e w' hh
   cases e with
   | returned v=>exact hh
   | panicked chain=>exact hh.elim
   | outgrown=>obtain⟨_,_,hh⟩:=hh;exact hh.elim
  ·exact h2
  ·refine⟨h2.1,h2.2.mono ?_⟩
   intro e w' hh
   cases e with
   | returned v=>exact hh
   | panicked chain=>exact hh.elim
   | outgrown=>obtain⟨_,_,hh⟩:=hh;exact hh.elim
  ·exact h2.elim
  ·exact h2.elim
 ·refine OI (qK h) ?_ ?_ (rJ htt hR h)
  ·rintro a' w' ⟨s',M',_,k,_⟩;exact k.df
  ·rintro a' w' ⟨d,v,s',M',k,_⟩;cases k
theorem Oper.wpIn_mono'{rd:Option Nat}{o:Oper}{K K':Act→World→Prop}{Q Q':Exit→Act→World→Prop}(hh:o.wpIn (FR rd) 0 P a w K Q)(h:∀a w,K a w→K' a w)(hq:∀e a w,Q e a w→Q' e a w):o.wpIn (FR rd) 0 P a w K' Q':=by
 refine⟨hh.1,?_⟩
 have h2:=hh.2
 revert h2
 generalize(o.semAt (FR rd).round a.eval).run P w=r
 intro h2
 unfold Oper.uponIn at h2 ⊢
 split at h2
 ·exact h _ _ h2
 ·exact h _ _ h2
 ·exact h _ _ h2
 ·refine⟨h2.1,h2.2.mono ?_⟩
  intro e w' hh
  cases e with
  | returned v=>exact h _ _ hh
  | panicked chain=>exact hq _ _ _ hh
  | outgrown=>obtain⟨a0,w0,hh⟩:=hh;exact⟨a0,w0,hq _ _ _ hh⟩
 ·exact⟨h2.1,h2.2.mono fun _ _ hh=>h _ _ hh⟩
 ·refine⟨h2.1,h2.2.mono ?_⟩
  intro e w' hh
  cases e with
  | returned v=>exact h _ _ hh
  | panicked chain=>exact hq _ _ _ hh
  | outgrown=>obtain⟨a0,w0,hh⟩:=hh;exact⟨a0,w0,hq _ _ _ hh⟩
 ·exact hq _ _ _ h2
 ·exact h2.elim
theorem pO(htt:cn P tt=true){rd:Option Nat}{M0:GM}(hE:ExtOk P E rd M0){all:Array Oper}{ds:List Deferred}{Q:Exit→Act→World→Prop}:∀{l:List Oper} {n:Nat} {s:St} {M:GM} {a:Act} {w:World} {K:St→Prop} {Kp:D→St→Prop},
  (∀i,l[i]? = all[n+i]?)→M0.le M→a.defers=ds→Rel M s (bare a) w →
  tF P tt an E all l s K Kp→(∀a' w',onD ds (Goes s M w K) a' w'→Q .normal a' w')→(∀e a' w',onD ds (ov s M w Kp e) a' w'→Q e a' w')→wpOpsIn (FR rd) 0 P all Q (CQ n l.length) a w
 | [],n,s,M,a,w,K,Kp,_,_,hds,hR,h,hQ,_=>hQ a w ⟨hds,s,M,h,hR,.refl _ _ _⟩
 | o::r,n,s,M,a,w,K,Kp,hl,hM,hds,hR,h,hQ,hQp=>by
  have ho:all[n]? = some o:=by have:=hl 0;simpa using this.symm
  have hl':∀i,r[i]? = all[n+1+i]?:=fun i=>by have:=hl (i+1);rw[List.getElem?_cons_succ]at this;rw[this];congr 1;omega
  simp only[List.length_cons,List.range'_succ,wpOpsIn,ho]
  -- the operation is run
  have run:∀{s:St},Rel M s (bare a) w→Stp s.ob M w s.ob M w→(∀a' w',onD ds (Goes s M w K) a' w'→Q .normal a' w')→(∀e a' w',onD ds (ov s M w Kp e) a' w'→Q e a' w')→Region.wanted o (yielded all a.tmps)=true→opB P tt an E o s (fun s'=>tF P tt an E all r s' K Kp) Kp →
    (if Region.wanted o (yielded all a.tmps)then o.wpIn (FR rd) 0 P a w (wpOpsIn (FR rd) 0 P all Q (CQ (n+1) r.length)) Q else(∀f,o.about P w a.eval=some f→(FR rd).fn f)∧wpOpsIn (FR rd) 0 P all Q (CQ (n+1) r.length) (a.put o.dst undef) w):=by
   intro s hR _ hQ hQp hw h
   rw[if_pos hw]
   refine Oper.wpIn_mono' (wT htt hE hM hR h) ?_ (fun e a' w' hh=>hQp _ _ _ (hds▸hh))
   rintro a' w' ⟨hd,s',M',k1,k2,k3⟩
   refine pO htt hE hl' (GM.le_trans hM k3.fr.mle) (hd.trans hds) k2 k1 ?_ ?_
   ·rintro a2 w2 ⟨h0,s2,M2,q1,q2,q3⟩;exact hQ _ _ ⟨h0,s2,M2,q1,q2,k3.trans q3⟩
   ·rintro e a2 w2 ⟨h0,d,v,s2,M2,q0,q1,q2,q3,q4⟩;exact hQp _ _ _ ⟨h0,d,v,s2,M2,q0,q1,q2,q3,k3.trans q4⟩
  -- it is passed over
  have pass:∀{s:St},Rel M s (bare a) w→(∀a' w',onD ds (Goes s M w K) a' w'→Q .normal a' w')→(∀e a' w',onD ds (ov s M w Kp e) a' w'→Q e a' w')→Region.wanted o (yielded all a.tmps)=false→(s.put o.dst .un fun s'=>tF P tt an E all r s' K Kp) →
    (if Region.wanted o (yielded all a.tmps)then o.wpIn (FR rd) 0 P a w (wpOpsIn (FR rd) 0 P all Q (CQ (n+1) r.length)) Q else(∀f,o.about P w a.eval=some f→(FR rd).fn f)∧wpOpsIn (FR rd) 0 P all Q (CQ (n+1) r.length) (a.put o.dst undef) w):=by
   intro s hR hQ hQp hw h
   rw[if_neg (by simp[hw])]
   obtain⟨s',k1,k2,k3⟩:=hR.put h .un
   rw[← fG]at k2
   have p:=(Stp.refl s.ob M w).ob_eq k3
   refine⟨fun _ _=>trivial,pO htt hE hl' hM ((put_defers _ _ _).trans hds) k2 k1 ?_ ?_⟩
   ·rintro a2 w2 ⟨h0,s2,M2,q1,q2,q3⟩;exact hQ _ _ ⟨h0,s2,M2,q1,q2,p.trans q3⟩
   ·rintro e a2 w2 ⟨h0,d,v,s2,M2,q0,q1,q2,q3,q4⟩;exact hQp _ _ _ ⟨h0,d,v,s2,M2,q0,q1,q2,q3,p.trans q4⟩
  rw[tG]at h
  unfold opG at h
  split at h
  ·rename_i hg
   exact run hR (.refl _ _ _) hQ hQp (me hg) h
  ·rename_i j want hg
   split at h
   ·rename_i t ht
    have hv:=hR.tm t
    split at h
    ·rename_i c hc
     rw[hc]at hv
     generalize hvt:(bare a).tmps.getD t undef=vt at hv
     cases hv
     have hw:=nt (o:=o) hg ht hvt
     split at h
     ·exact run hR (.refl _ _ _) hQ hQp (by rw[show a.tmps=(bare a).tmps from rfl,hw];rfl) h
     ·exact run hR (.refl _ _ _) hQ hQp (by rw[show a.tmps=(bare a).tmps from rfl,hw];rfl) h
     ·rename_i h1 h2
      have hne:(c == want)=false:=by
       cases c<;>cases want<;>first | rfl | exact absurd rfl (fun e=>h1 rfl e) | exact absurd rfl (fun e=>h2 rfl e)
      exact pass hR hQ hQp (by rw[show a.tmps=(bare a).tmps from rfl,hw,hne]) h
    ·rename_i c hc
     rw[hc]at hv
     generalize hvt:(bare a).tmps.getD t undef=vt at hv
     cases hv with | d _ _ hv=>?_
     cases hv
     have hw:=nt (o:=o) hg ht hvt
     have relit:∀{K':St→Prop},s.putN t (.b c) K'→∃s',K' s'∧Rel M s' (bare a) w∧s'.ob=s.ob:=by
      intro K' hk
      obtain⟨s',k1,kn,ko,kt,kg,kq⟩:=St.putN_ok hk
      refine⟨s',k1,⟨hR.df,by rw[kn];exact hR.sz,fun q=>?_,ko▸hR.ob,hR.rs⟩,ko⟩
      by_cases e:q=t
      ·subst e;rw[kg,hvt];exact .b c
      ·rw[kq q e];exact hR.tm q
     have conv:∀{s':St},s'.ob=s.ob→(∀a' w',onD ds (Goes s' M w K) a' w'→Q .normal a' w')∧(∀e a' w',onD ds (ov s' M w Kp e) a' w'→Q e a' w'):=by
      intro s' e
      refine⟨fun a' w' hh=>hQ _ _ ?_,fun x a' w' hh=>hQp _ _ _ ?_⟩
      ·unfold onD Goes at hh ⊢;rwa[e]at hh
      ·unfold onD ov at hh ⊢;rwa[e]at hh
     split at h
     ·obtain⟨h1,h2⟩:=h
      cases c with
      | true =>
       obtain⟨s',k1,k2,k3⟩:=relit (h1 rfl)
       exact run k2 (.refl _ _ _) (conv k3).1 (conv k3).2 (by rw[show a.tmps=(bare a).tmps from rfl,hw];rfl) k1
      | false =>
       obtain⟨s',k1,k2,k3⟩:=relit (h2 rfl)
       exact pass k2 (conv k3).1 (conv k3).2 (by rw[show a.tmps=(bare a).tmps from rfl,hw];rfl) k1
     ·obtain⟨h1,h2⟩:=h
      cases c with
      | false =>
       obtain⟨s',k1,k2,k3⟩:=relit (h1 rfl)
       exact run k2 (.refl _ _ _) (conv k3).1 (conv k3).2 (by rw[show a.tmps=(bare a).tmps from rfl,hw];rfl) k1
      | true =>
       obtain⟨s',k1,k2,k3⟩:=relit (h2 rfl)
       exact pass k2 (conv k3).1 (conv k3).2 (by rw[show a.tmps=(bare a).tmps from rfl,hw];rfl) k1
    ·rename_i hc
     rw[hc]at hv
     generalize hvt:(bare a).tmps.getD t undef=vt at hv
     cases hv
     exact pass hR hQ hQp (by rw[show a.tmps=(bare a).tmps from rfl,oX hg ht hvt]) h
    ·exact h.elim
   ·exact h.elim
theorem Rel.condB(hR:Rel M s a w){c:Operand}{b:Bool}(h:s.eval c=.b b∨s.eval c=.d (.bool b)):a.eval c=.bool b:=by
 have hc:=hR.eval c
 generalize a.eval c=v at hc
 rcases h with h | h<;>rw[h]at hc<;>cases hc
 ·rfl
 ·rename_i h;cases h;rfl
theorem kT(htt:cn P tt=true){rd:Option Nat}{M0:GM}(hE:ExtOk P E rd M0){n0:Nat}:∀{c:Code} {s:St} {M:GM} {a:Act} {w:World} {Q:X→St→Prop},j7 P tt an E c s Q→M0.le M→n0≤w.heap.size →
  Rel M s (bare a) w→MK n0 M s.ob w a.defers→c.wpIn (FR rd) 0 P (Ends n0 s M w Q) a w:=by
 intro c
 induction c with
 | skip=>intro s M a w Q h hM hn hR hk;exact wpIn_skip ⟨.nrm,s,M,h,.nrm,hR,.refl _ _ _,hk⟩
 | region id ops draw =>
  intro s M a w Q h hM hn hR hk
  cases draw with
  | false =>
   refine wpIn_region ?_
   have:=pO (an:=an) (Q:=Ends n0 s M w Q) htt hE (l:=ops.toList) (n:=0) (all:=ops) (ds:=a.defers) (fun i=>by simp) hM rfl hR h
    (fun a' w' ⟨h0,s',M',k1,k2,k3⟩=>⟨.nrm,s',M',k1,.nrm,k2,k3,h0▸hk.stp k3⟩) (fun e a' w' ⟨h0,d,v,s',M',k0,k1,k2,k3,k4⟩=>by subst k0;exact⟨.pan d,s',M',k2,.pan d v k1,k3,k4,h0▸hk.stp k4⟩)
   simpa [List.range_eq_range']using this
  | true =>
   exact hE.dr id ops s _ M a w n0 h hM hn hR hk
 | seq x y ihx ihy =>
  intro s M a w Q h hM hn hR hk
  simp only[j7]at h
  split at h
  ·obtain⟨α,tm,ob,inv,ha,hb⟩:=h
   refine wpIn_seq (wpIn_mono (ihx ha hM hn hR hk) ?_)
   rintro e a' w' ⟨x,s',M',k1,k2,k3,k4,k5⟩
   cases k2 with
   | nrm =>
    obtain⟨z,hz,hsub⟩:=k1
    obtain⟨s2,q1,q2,q3,_⟩:=k3.sub hsub (hb z hz)
    exact wpIn_mono (ihy q1 (GM.le_trans hM k4.fr.mle) (zW hn k4.fr.size) q2 (k5.stp q3)) fun e a2 w2 hh=>hh.from (k4.trans q3)
   | exit n=>exact⟨_,s',M',k1,.exit n,k3,k4,k5⟩
   | ret=>exact⟨_,s',M',k1,.ret,k3,k4,k5⟩
   | pan d v hg=>exact⟨_,s',M',k1,.pan d v hg,k3,k4,k5⟩
  ·refine wpIn_seq (wpIn_mono (ihx h hM hn hR hk) ?_)
   rintro e a' w' ⟨x,s',M',k1,k2,k3,k4,k5⟩
   cases k2 with
   | nrm=>exact wpIn_mono (ihy k1 (GM.le_trans hM k4.fr.mle) (zW hn k4.fr.size) k3 k5) fun e a2 w2 hh=>hh.from k4
   | exit n=>exact⟨_,s',M',k1,.exit n,k3,k4,k5⟩
   | ret=>exact⟨_,s',M',k1,.ret,k3,k4,k5⟩
   | pan d v hg=>exact⟨_,s',M',k1,.pan d v hg,k3,k4,k5⟩
 | cond c x y ihx ihy =>
  intro s M a w Q h hM hn hR hk
  simp only[j7]at h
  split at h
  ·rename_i hc
   exact wpIn_cond_true (hR.condB (.inl hc)) (ihx h hM hn hR hk)
  ·rename_i hc
   exact wpIn_cond_false (hR.condB (.inl hc)) (ihy h hM hn hR hk)
  ·rename_i v hc
   exact wpIn_cond_split (hR.condB (.inr hc)) (fun e=>ihx (h.l e) hM hn hR hk) (fun e=>ihy (h.r e) hM hn hR hk)
  ·exact h.elim
 | block id x ih =>
  intro s M a w Q h hM hn hR hk
  refine wpIn_block (wpIn_mono (ih h hM hn hR hk) ?_)
  rintro e a' w' ⟨x,s',M',k1,k2,k3,k4,k5⟩
  cases k2 with
  | nrm=>exact⟨_,s',M',k1,.nrm,k3,k4,k5⟩
  | exit n =>
   simp only[Exit.inBlock]
   simp only at k1
   split at k1
   ·rename_i e
    rw[if_pos (Nat.eq_of_beq_eq_true e)]
    exact⟨_,s',M',k1,.nrm,k3,k4,k5⟩
   ·rename_i e
    rw[if_neg (fun e'=>by rw[e']at e;simp at e)]
    exact⟨_,s',M',k1,.exit n,k3,k4,k5⟩
  | ret=>exact⟨_,s',M',k1,.ret,k3,k4,k5⟩
  | pan d v hg=>exact⟨_,s',M',k1,.pan d v hg,k3,k4,k5⟩
 | loop x ih =>
  intro s M a w Q h hM hn hR hk
  rcases h with⟨α,tm,ob,inv,μ,x0,i0,h0,hround⟩ | ⟨ku,hu⟩
  case unr =>
   refine wpIn_loop_ghost (fun n a' w'=>∃s1 M1,wk (j7 P tt an E x) Q n s1∧Rel M1 s1 (bare a') w'∧Stp s.ob M w s1.ob M1 w'∧MK n0 M1 s1.ob w' a'.defers) ku ⟨s,M,hu,hR,.refl _ _ _,hk⟩ ?_
   rintro n a1 w1 ⟨s1,M1,hz,hR1,p1,hk1⟩
   cases n with
   | zero=>exact hz.elim
   | succ n =>
    rw[tE]at hz
    refine wpIn_mono (ih hz (GM.le_trans hM p1.fr.mle) (zW hn p1.fr.size) hR1 hk1) ?_
    rintro e a2 w2 ⟨x,s3,M3,k1,k2,k3,k4,k5⟩
    have p:=p1.trans k4
    cases k2 with
    | nrm=>exact⟨n,Nat.lt_succ_self n,s3,M3,k1,k3,p,k5⟩
    | exit n=>exact⟨_,s3,M3,k1,.exit n,k3,p,k5⟩
    | ret=>exact⟨_,s3,M3,k1,.ret,k3,p,k5⟩
    | pan d v hg=>exact⟨_,s3,M3,k1,.pan d v hg,k3,p,k5⟩
  refine wpIn_loop_ghost (fun n a' w'=>∃z s1 M1,inv z∧μ z=n∧Rel M1 s1 (bare a') w'∧Sub s.n s1 (tm z) (ob z)∧Stp s.ob M w s1.ob M1 w'∧MK n0 M1 s1.ob w' a'.defers) (μ x0) ⟨x0,s,M,i0,rfl,hR,h0,.refl _ _ _,hk⟩ ?_
  rintro n a1 w1 ⟨z,s1,M1,hz,rfl,hR1,hsub,p1,hk1⟩
  obtain⟨s2,k1,hR2,p2,hn2⟩:=hR1.sub hsub (hround z hz)
  refine wpIn_mono (ih k1 (GM.le_trans hM p1.fr.mle) (zW hn p1.fr.size) hR2 (hk1.stp p2)) ?_
  rintro e a2 w2 ⟨x,s3,M3,k1,k2,k3,k4,k5⟩
  have p:=(p1.trans p2).trans k4
  cases k2 with
  | nrm =>
   obtain⟨y,hy,hs,hlt⟩:=k1
   exact⟨μ y,hlt,y,s3,M3,hy,rfl,k3,hs,p,k5⟩
  | exit n=>exact⟨_,s3,M3,k1,.exit n,k3,p,k5⟩
  | ret=>exact⟨_,s3,M3,k1,.ret,k3,p,k5⟩
  | pan d v hg=>exact⟨_,s3,M3,k1,.pan d v hg,k3,p,k5⟩
 | exit n=>intro s M a w Q h hM hn hR hk;exact wpIn_exit ⟨_,s,M,h,.exit n,hR,.refl _ _ _,hk⟩
 | scope x ih =>
  intro s M a w Q h hM hn hR hk
  refine j3 (wpIn_mono (ih h hM hn hR hk) ?_)
  rintro e a' w' hh
  obtain⟨x,s',M',k1,k2,k3,k4,k5⟩:=hh
  cases k2 with
  | nrm=>exact⟨_,s',M',k1,.nrm,k3,k4,k5⟩
  | exit n=>exact⟨_,s',M',k1,.exit n,k3,k4,k5⟩
  | ret=>exact⟨_,s',M',k1,.ret,k3,k4,k5⟩
  | pan d v hg=>exact⟨_,s',M',k1,.pan d v hg,k3,k4,k5⟩
 | label l=>intro s M a w Q h hM hn hR hk;exact wpIn_label ⟨_,s,M,h,.nrm,hR,.refl _ _ _,hk⟩
 | ret=>intro s M a w Q h hM hn hR hk;exact wpIn_ret ⟨_,s,M,h,.ret,hR,.refl _ _ _,hk⟩
 | rangeFunc g ps assign body=>intro s M a w Q h hM hn hR hk;exact hE.rf g ps assign body s Q M a w n0 h hM hn hR hk
 | _=>intro s M a w Q h;exact h.elim
end
end Go.Abs
