/-
 Walks told shortly: families of states by what changes, facts by assumption.
-/
import Derived.Test.YtdodahpkpeodfaaGreatDoorAbsQ
set_option linter.all false
open List renaming filterMap_cons→CI,length_map→Ia,rec→Jn
open Nat renaming beq→IF,eq_of_beq_eq_true→Ik
open Option renaming bind→Ha,map_some→zn
namespace Go.Abs
open Go
structure TyG{τ:Type}(P:τ→Prop)(K:τ→Prop):Prop where
 h:∀x,P x→K x
abbrev C7{R:Type}(F:Option R)(_:Unit):Option R:=F
abbrev GR{A R:Type}(F:A→Option R)(x:A):Option R:=F x
abbrev Jl{A B R:Type}(F:A→B→Option R)(x:A×B):Option R:=F x.1 x.2
inductive HR where
 | t (k:Nat)
 | c (k i:Nat)
 | o (k:Nat)
def hdV (v:AV):Value:=match v with | .sl _ h=>h | _=>.slice none 0 0
def bkV (v:AV):Nat:=match v with | .ptr _ b _=>b | .mp _ b=>b | _=>0
noncomputable def I0 (s:St) (r:HR):AV:=match r with
 | .t k=>s.get k
 | .c k i=>match look s.ob k with | some (.cells _ cs)=>(jr cs i).getD .top | _=>.top
 | .o k=>match look s.ob k with | some (.arr h _ _ _ _)=>.sl 0 h | some (.cells b _)=>.ptr 0 b 0 | some (.map b _)=>.mp 0 b | _=>.top
noncomputable def lkV (s:St) (l:List HR) (i:Nat):Value:=match jr l i with | some r=>hdV (I0 s r) | none=>.slice none 0 0
noncomputable def lkB (s:St) (l:List HR) (i:Nat):Nat:=match jr l i with | some r=>bkV (I0 s r) | none=>0
structure HV(hv hb:List HR) where
 v:Nat→Value
 b:Nat→Nat
noncomputable def C5 (s:St) (live:List Nat) (u:List (Nat×AV)):List (Nat×AV) :=
 u++live.filterMap fun k=>(T.get 20 s.tm k).map fun v=>(k,v)
noncomputable def CY (ob:List (Nat×Ob)) (obs:List Nat) (w:List (Nat×Ob)):List (Nat×Ob) :=
 w++obs.filterMap fun k=>(look ob k).map fun o=>(k,o)
noncomputable def Fb (s:St) (live:List Nat):T AV→(T AV→Prop)→Prop :=
 Jn (motive:=fun _=>T AV→(T AV→Prop)→Prop) (fun t K=>K t) (fun k _ ih t K=>match T.get 20 s.tm k with
  | some v=>T.put v 20 t k fun t'=>ih t' K
  | none=>ih t K) live
noncomputable def Fc (ob:List (Nat×Ob)) (w:List (Nat×Ob)) (obs:List Nat):(List (Nat×Ob)→Prop)→Prop :=
 Jn (motive:=fun _=>(List (Nat×Ob)→Prop)→Prop)
  (Jn (motive:=fun _=>(List (Nat×Ob)→Prop)→Prop) (fun K=>K []) (fun k _ ih K=>match look ob k with
   | some o=>ih fun r=>K ((k,o)::r)
   | none=>ih K) obs)
  (fun p _ ih K=>ih fun r=>K (p::r)) w
noncomputable def mkD (n:Nat) (s:St) (live:List Nat) (u:List (Nat×AV)) (obs:List Nat) (w:List (Nat×Ob)) (K:St→Prop):Prop :=
 wj u .e fun t=>Fb s live t fun t'=>Fc s.ob w obs fun ob=>K ⟨n,t',ob⟩
theorem Hp(u v:List (Nat×AV))(t:T AV)(K:T AV→Prop):wj (u++v) t K=wj u t fun t'=>wj v t' K:=by
 induction u generalizing t with
 | nil=>rfl
 | cons p u ih =>
  obtain⟨k,x⟩:=p
  rw[List.cons_append,tx,tx]
  congr 1;funext t';exact ih t'
theorem GS(s:St)(live:List Nat)(t:T AV)(K:T AV→Prop):Fb s live t K=wj (live.filterMap fun k=>(T.get 20 s.tm k).map fun v=>(k,v)) t K:=by
 induction live generalizing t with
 | nil=>rfl
 | cons k l ih =>
  show(match T.get 20 s.tm k with | some v=>T.put v 20 t k fun t'=>Fb s l t' K | none=>Fb s l t K)=_
  rw[CI]
  cases e:T.get 20 s.tm k with
  | none=>exact ih t
  | some v =>
   simp only[zn]
   rw[tx]
   congr 1;funext t';exact ih t'
theorem GT(ob w:List (Nat×Ob))(obs:List Nat)(K:List (Nat×Ob)→Prop):Fc ob w obs K=K (CY ob obs w):=by
 unfold CY
 induction w generalizing K with
 | nil =>
  rw[List.nil_append]
  induction obs generalizing K with
  | nil=>rfl
  | cons k l ih =>
   show(match look ob k with | some o=>Fc ob [] l fun r=>K ((k,o)::r) | none=>Fc ob [] l K)=_
   rw[CI]
   cases e:look ob k with
   | none=>exact ih K
   | some o=>exact ih _
 | cons p w ih=>exact ih fun r=>K (p::r)
theorem F2(n:Nat)(s:St)(live:List Nat)(u:List (Nat×AV))(obs:List Nat)(w:List (Nat×Ob))(K:St→Prop):mkD n s live u obs w K=tz n (C5 s live u) (CY s.ob obs w) K:=by
 unfold mkD tz C5
 rw[Hp]
 congr 1;funext t
 rw[GS]
 congr 1;funext t'
 exact GT _ _ _ _
noncomputable def GU (s s':St) (live:List Nat) (K:Prop):Prop :=
 Jn (motive:=fun _=>Prop) K (fun k _ ih=>match T.get 20 s.tm k with
  | some v=>(match T.get 20 s'.tm k with
   | some u=>leT u v ih
   | none=>leT .top v ih)
  | none=>ih) live
noncomputable def Hq (ob ob':List (Nat×Ob)) (obs:List Nat) (K:Prop):Prop :=
 Jn (motive:=fun _=>Prop) K (fun k _ ih=>match look ob k with
  | some o=>(match look ob' k with
   | some o'=>Need (OLe (some o') o) ih
   | none=>Need (OLe none o) ih)
  | none=>ih) obs
noncomputable def eqW (ob':List (Nat×Ob)) (w:List (Nat×Ob)) (K:Prop):Prop :=
 Jn (motive:=fun _=>Prop) K (fun p _ ih=>match p with
  | (k,o)=>match look ob' k with
   | some o'=>Need (OLe (some o') o) ih
   | none=>Need (OLe none o) ih) w
noncomputable def eqU (s':St) (u:List (Nat×AV)) (K:Prop):Prop :=
 Jn (motive:=fun _=>Prop) K (fun p _ ih=>match p with
  | (k,v)=>match T.get 20 s'.tm k with
   | some u=>leT u v ih
   | none=>leT .top v ih) u
theorem Hr{s':St}{K:Prop}:∀{u:List (Nat×AV)},eqU s' u K→(∀p∈u,AV.le (s'.get p.1) p.2)∧K
 | [],h=>⟨fun p hp=>(by cases hp),h⟩
 | (k,v)::r,h=>by
  have h:(match T.get 20 s'.tm k with | some u=>leT u v (eqU s' r K) | none=>leT .top v (eqU s' r K)):=h
  have key:AV.le (s'.get k) v∧eqU s' r K:=by
   simp only[St.get]
   split at h<;>rename_i e<;>rw[e]<;>exact uO h
  obtain⟨h1,h2⟩:=Hr key.2
  refine⟨fun p hp=>?_,h2⟩
  rcases List.mem_cons.1 hp with rfl | hp
  ·exact key.1
  ·exact h1 p hp
theorem Fd{s s':St}{K:Prop}:∀{live:List Nat},GU s s' live K→(∀p∈live.filterMap (fun k=>(T.get 20 s.tm k).map fun v=>(k,v)),AV.le (s'.get p.1) p.2)∧K
 | [],h=>⟨fun p hp=>(by cases hp),h⟩
 | k::r,h=>by
  have h:(match T.get 20 s.tm k with | some v=>(match T.get 20 s'.tm k with | some u=>leT u v (GU s s' r K) | none=>leT .top v (GU s s' r K)) | none=>GU s s' r K):=h
  rw[CI]
  cases e:T.get 20 s.tm k with
  | none=>rw[e]at h;exact Fd h
  | some v =>
   rw[e]at h
   simp only[zn]at h ⊢
   have key:AV.le (s'.get k) v∧GU s s' r K:=by
    simp only[St.get]
    split at h<;>rename_i e<;>rw[e]<;>exact uO h
   obtain⟨h1,h2⟩:=Fd key.2
   refine⟨fun p hp=>?_,h2⟩
   rcases List.mem_cons.1 hp with rfl | hp
   ·exact key.1
   ·exact h1 p hp
theorem Ft{ob:List (Nat×Ob)}{k:Nat}{o:Ob}{K:Prop}(h:match look ob k with | some o'=>Need (OLe (some o') o) K | none=>Need (OLe none o) K):ObSub ob k o∧K:=by
 split at h
 ·rename_i o' e
  refine⟨?_,h.r⟩
  have hl:=h.l
  cases hl with
  | refl=>exact .same _ e
  | cells b cs cs' hc=>exact .cells b cs cs' e (rK hc).1
  | arr ha e' sz fz xs=>exact .arr ha e' sz fz xs e
  | mit b km mb es rem last=>exact .mit b km mb es rem last e
  | nil=>exact .nil _ _ _
  | nilrows=>exact .nilrows _ _ _ _
 ·have hl:=h.l
  refine⟨?_,h.r⟩
  cases hl
  ·exact .nil _ _ _
  ·exact .nilrows _ _ _ _
theorem Hs{ob':List (Nat×Ob)}{K:Prop}:∀{w:List (Nat×Ob)},eqW ob' w K→(∀p∈w,ObSub ob' p.1 p.2)∧K
 | [],h=>⟨fun p hp=>(by cases hp),h⟩
 | (k,o)::r,h=>by
  obtain⟨h0,h⟩:=Ft (K:=eqW ob' r K) h
  obtain⟨h1,h2⟩:=Hs h
  refine⟨fun p hp=>?_,h2⟩
  rcases List.mem_cons.1 hp with rfl | hp
  ·exact h0
  ·exact h1 p hp
theorem Fe{ob ob':List (Nat×Ob)}{K:Prop}:∀{obs:List Nat},Hq ob ob' obs K→(∀p∈obs.filterMap (fun k=>(look ob k).map fun o=>(k,o)),ObSub ob' p.1 p.2)∧K
 | [],h=>⟨fun p hp=>(by cases hp),h⟩
 | k::r,h=>by
  have h:(match look ob k with | some o=>(match look ob' k with | some o'=>Need (OLe (some o') o) (Hq ob ob' r K) | none=>Need (OLe none o) (Hq ob ob' r K)) | none=>Hq ob ob' r K):=h
  rw[CI]
  cases e:look ob k with
  | none=>rw[e]at h;exact Fe h
  | some o =>
   rw[e]at h
   simp only[zn]at h ⊢
   obtain⟨h0,h⟩:=Ft h
   obtain⟨h1,h2⟩:=Fe h
   refine⟨fun p hp=>?_,h2⟩
   rcases List.mem_cons.1 hp with rfl | hp
   ·exact h0
   ·exact h1 p hp
noncomputable def GV (n:Nat) (s s':St) (live:List Nat) (u:List (Nat×AV)) (obs:List Nat) (w:List (Nat×Ob)):Prop :=
 Need (s'.n=n) (eqU s' u (GU s s' live (eqW s'.ob w (Hq s.ob s'.ob obs True))))
theorem Sub.dif{n:Nat}{s s':St}{live:List Nat}{u:List (Nat×AV)}{obs:List Nat}{w:List (Nat×Ob)}(h:GV n s s' live u obs w):Sub n s' (C5 s live u) (CY s.ob obs w):=by
 obtain⟨hn,h⟩:=h
 obtain⟨h1,h⟩:=Hr h
 obtain⟨h2,h⟩:=Fd h
 obtain⟨h3,h⟩:=Hs h
 obtain⟨h4,_⟩:=Fe h
 refine⟨hn,fun p hp=>?_,id,fun p hp=>?_,fun _ _ _ _ e=>e⟩
 ·rcases List.mem_append.1 hp with hp | hp
  ·exact h1 p hp
  ·exact h2 p hp
 ·rcases List.mem_append.1 hp with hp | hp
  ·exact h3 p hp
  ·exact h4 p hp
section
variable {τ R:Type}{r:R}{n:Nat}{f:St→(X→St→Prop)→Prop}{s s':St}{rb:St→Prop}{Q:X→St→Prop}
theorem ob2{A:Option τ}{B:τ→Option R}{G:Prop}(h:Ha A B=some r)(k:∀x,A=some x→B x=some r→G):G:=by
 obtain⟨x,h1,h2⟩:=Go.Kp.obind h;exact k x h1 h2
theorem ob3{A:Option τ}{B:τ→Option R}{G:Prop}{x:τ}(h:Ha A B=some r)(h0:A=some x)(k:B x=some r→G):G:=by subst h0;exact k h
noncomputable def hvO (s:St) (hv hb:List HR):HV hv hb:=⟨lkV s hv,lkB s hb⟩
theorem sq{π:Type}(k:Nat){A:Option τ}{B:τ→Option R}(h:Ha A B=some r)(live obs:List Nat)(hv hb:List HR)(p:π)(tm:π→τ→HV hv hb→List (Nat×AV))(ob:π→τ→HV hv hb→List (Nat×Ob))
  (ha:TyG (fun x=>A=some x) fun x=>f s fun e s'=>match e with
   | .nrm=>∃y:HV hv hb,True∧Sub n s' (C5 s live (tm p x y)) (CY s.ob obs (ob p x y))
   | e=>Q e s')
  (hB:TyG (fun x=>B x=some r) fun x=>∀y,mkD n s live (tm p x y) obs (ob p x y) rb):SeqG k n (f s) rb Q:=by
 obtain⟨x,hx,hBx⟩:=Go.Kp.obind h
 exact SeqG.mk (HV hv hb) (fun y=>C5 s live (tm p x y)) (fun y=>CY s.ob obs (ob p x y)) (fun _=>True) (ha.h x hx) fun y _=>by
  have:=hB.h x hBx y
  rwa[F2]at this
theorem lf{hv hb:List HR}{live obs:List Nat}{tm:HV hv hb→List (Nat×AV)}{ob:HV hv hb→List (Nat×Ob)}{s0:St}
  (h:GV n s0 s' live (tm (hvO s' hv hb)) obs (ob (hvO s' hv hb))):∃y:HV hv hb,True∧Sub n s' (C5 s0 live (tm y)) (CY s0.ob obs (ob y)) :=
 ⟨hvO s' hv hb,trivial,Sub.dif h⟩
structure TV(τ:Type)(hv hb:List HR) where
 x:τ
 y:HV hv hb
theorem st{π:Type}(k:Nat){F:τ→Option R}(r:R)(live obs:List Nat)(hv hb:List HR)(p:π)(tm:π→TV τ hv hb→List (Nat×AV))(ob:π→TV τ hv hb→List (Nat×Ob))
  (ha:f s fun e s'=>match e with
   | .nrm=>∃y:TV τ hv hb,F y.x=some r∧Sub n s' (C5 s live (tm p y)) (CY s.ob obs (ob p y))
   | e=>Q e s')
  (hB:TyG (fun y:TV τ hv hb=>F y.x=some r) fun y=>mkD n s live (tm p y) obs (ob p y) rb):SeqG k n (f s) rb Q :=
 SeqG.mk (TV τ hv hb) (fun y=>C5 s live (tm p y)) (fun y=>CY s.ob obs (ob p y)) (fun y=>F y.x=some r) ha fun y hy=>by
  have:=hB.h y hy
  rwa[F2]at this
theorem lt{F:τ→Option R}{hv hb:List HR}{live obs:List Nat}{tm:TV τ hv hb→List (Nat×AV)}{ob:TV τ hv hb→List (Nat×Ob)}{s0:St}(x:τ)(hi:F x=some r)
  (h:GV n s0 s' live (tm ⟨x,hvO s' hv hb⟩) obs (ob ⟨x,hvO s' hv hb⟩)):∃y:TV τ hv hb,F y.x=some r∧Sub n s' (C5 s0 live (tm y)) (CY s0.ob obs (ob y)) :=
 ⟨⟨x,hvO s' hv hb⟩,hi,Sub.dif h⟩
structure LY(τ:Type)(hv hb:List HR) where
 k:Nat
 x:τ
 y:HV hv hb
theorem lp{π:Type}(k:Nat){N:Nat}{b:(τ→Option R)→τ→Option R}{x0:τ}(h:Go.Kp.loopN b N x0=some r)(live obs:List Nat)(hv hb:List HR)(p:π)(tm:π→LY τ hv hb→List (Nat×AV))(ob:π→LY τ hv hb→List (Nat×Ob))
  (h0:GV n s s live (tm p ⟨N,x0,hvO s hv hb⟩) obs (ob p ⟨N,x0,hvO s hv hb⟩))
  (hs:∀m,TyG (fun x=>b (Go.Kp.loopN b m) x=some r) fun x=>∀y:HV hv hb,mkD n s live (tm p ⟨m+1,x,y⟩) obs (ob p ⟨m+1,x,y⟩) fun s1=>f s1 fun e s'=>match e with
   | .nrm=>∃y:LY τ hv hb,Go.Kp.loopN b y.k y.x=some r∧Sub n s' (C5 s live (tm p y)) (CY s.ob obs (ob p y))∧y.k<m+1
   | e=>Q e s'):LoopG k n f s Q :=
 LoopG.mk (LY τ hv hb) (fun y=>C5 s live (tm p y)) (fun y=>CY s.ob obs (ob p y)) (fun y=>Go.Kp.loopN b y.k y.x=some r) (fun y=>y.k) ⟨N,x0,hvO s hv hb⟩ h (Sub.dif h0) (by
  rintro⟨k,x,y⟩ hy
  obtain⟨m,rfl,hb'⟩:=Go.Kp.loopN_some hy
  have:=(hs m).h x hb' y
  rw[F2]at this
  exact this)
theorem ll{hv hb:List HR}{b:(τ→Option R)→τ→Option R}{m:Nat}{x:τ}(hx:Go.Kp.loopN b m x=some r){live obs:List Nat}{tm:LY τ hv hb→List (Nat×AV)}{ob:LY τ hv hb→List (Nat×Ob)}{s0:St}
  (h:GV n s0 s' live (tm ⟨m,x,hvO s' hv hb⟩) obs (ob ⟨m,x,hvO s' hv hb⟩)) :
  ∃y:LY τ hv hb,Go.Kp.loopN b y.k y.x=some r∧Sub n s' (C5 s0 live (tm y)) (CY s0.ob obs (ob y))∧y.k<m+1 :=
 ⟨⟨m,x,hvO s' hv hb⟩,hx,Sub.dif h,Nat.lt_succ_self m⟩
end
section
variable {α β:Type}{f:α→D}{l m y:List α}{a b i n:Int}{x z:α}{N sz:Nat}
theorem dln{K:AV→Prop}(k:K (.d (.int .i64 l.length))):LnA (l.map f) K:=.mk _ (Ia _) k
theorem dlm{K:Int→Prop}(k:K l.length):LnN (l.map f).length K:=.mk _ (Ia _) k
theorem dix{K:D→Prop}(h:Go.Kp.idx l i=some x)(k:K (f x)):Ix (l.map f) i K:=.mk _ (Go.Kp.idx_0 h) (Go.Kp.idx_map f h) k
theorem nn{r:β}{G:Prop}(h:(none:Option β)=some r):G:=nomatch h
theorem I3{len:Nat}{K:Nat→Prop}(h:decide (i=0)=true)(hl:0<len)(k:K 0):IxG i len K:=.mk 0 (of_decide_eq_true h) hl k
theorem I4{len:Nat}{K:Nat→Prop}(h:decide (i=1)=true)(hl:1<len)(k:K 1):IxG i len K:=.mk 1 (of_decide_eq_true h) hl k
theorem I5{len:Nat}{K:Nat→Prop}(h:decide (i=2)=true)(hl:2<len)(k:K 2):IxG i len K:=.mk 2 (of_decide_eq_true h) hl k
theorem I6{len:Nat}{K:Nat→Prop}(h:decide (i=3)=true)(hl:3<len)(k:K 3):IxG i len K:=.mk 3 (of_decide_eq_true h) hl k
theorem aix{K:Prop}(h:Go.Kp.idx l i=some x)(k:K):Need (0≤i∧i.toNat<(l.map f).length) K:=.mk (Go.Kp.idx_need f h) k
theorem I7{K:Prop}{j:Nat}(h:Go.Kp.idx l i=some x)(k:K):Need (0≤i∧i.toNat<((l.set j z).map f).length) K:=.mk (Go.Kp.idx_need_set f h) k
theorem ael{K:D→Prop}(h:Go.Kp.idx l i=some x)(k:K (f x)):Ix (l.map f) ((i.toNat:Nat):Int) K:=.mk _ (Int.natCast_nonneg _) (Go.Kp.idx_el f h) k
theorem ast{K:List D→Prop}{j:Nat}{d:D}(x:α)(h:d=f x)(k:K ((l.set j x).map f)):Eqv ((l.map f).set j d) K:=.mk _ (Go.Kp.set_map f l j x h) k
theorem ane{K:Prop}(h:Go.Kp.nz n=some ())(k:K):Need (n≠0) K:=.mk (Go.Kp.nz_ne h) k
theorem ang{K:Prop}(h:Go.Kp.nng n=some ())(k:K):Need (0≤n) K:=.mk (Go.Kp.nng_ok h) k
theorem asl{K:List D→Prop}{s:Nat}(h:Go.Kp.slc l a b=some y)(k:K (y.map f)):Need (0≤a∧a≤b∧b≤((l.map f).length:Int)∧s=s) (Eqv (((l.map f).take b.toNat).drop a.toNat) K):=.mk (Go.Kp.slc_need f h) (.mk _ (Go.Kp.slc_map f h) k)
theorem I8{K:List D→Prop}{s:Nat}(h:Go.Kp.slc l a (l.length:Int)=some y)(k:K (y.map f)):Need (0≤a∧a≤((l.map f).length:Int)∧((l.map f).length:Int)≤((l.map f).length:Int)∧s=s) (Eqv (((l.map f).take (((l.map f).length:Int)).toNat).drop a.toNat) K):=.mk (Go.Kp.slc_needL f h) (.mk _ (Go.Kp.slc_mapL f h) k)
theorem I9{K:List D→Prop}{s:Nat}(h:Go.Kp.slc l a b=some y)(k:K (y.map f)):Need (0≤a∧a≤b∧b≤((l.map f).length:Int)∧b=b∧s=s) (Eqv (((l.map f).take b.toNat).drop a.toNat) K):=.mk (Go.Kp.slc_need3 f h) (.mk _ (Go.Kp.slc_map f h) k)
theorem Ja{K:List D→Prop}(h:Go.Kp.slc l 0 b=some y)(k:K (y.map f)):Need (0≤b∧b≤((l.map f).length:Int)) (Eqv ((l.map f).take b.toNat) K):=.mk (Go.Kp.slc_need0 f h) (.mk _ (Go.Kp.slc_map0 f h) k)
theorem aap{K:List D→Prop}{c:Nat}{L M:List D}(f:α→D)(l m:List α)(hN:N≤1073741824)(hl:L=l.map f)(hm:M=m.map f)(h:Go.Kp.app N l m=some y)(hc:c≤65536)(k:K (y.map f)):Need ((L.length+M.length)*c≤140737488355328∧L.length+M.length≤9223372036854775807) (Eqv (L++M) K):=by
 subst hl hm;exact .mk (Go.Kp.app_need hN h hc) (.mk _ (Go.Kp.app_map f h) k)
theorem Ht{K:List D→Prop}{c:Nat}{M:List D}(f:α→D)(m:List α)(hN:N≤1073741824)(hm:M=m.map f)(h:Go.Kp.app N [] m=some y)(hc:c≤65536)(k:K (y.map f)):Need (M.length*c≤140737488355328∧M.length≤9223372036854775807) (Eqv M K):=by
 subst hm;exact .mk (Go.Kp.app_need0 hN h hc) (.mk _ (Go.Kp.app_map0 f h) k)
theorem amk{K:List D→Prop}{c:Nat}{w:D}(hN:N≤1073741824)(h:Go.Kp.mkl N n z=some y)(hc:c≤65536)(hw:w=f z)(k:K (y.map f)):Need (0≤n∧n≤n∧n*c≤140737488355328∧n≤9223372036854775807) (Eqv (List.replicate n.toNat w) K):=.mk (Go.Kp.mkl_need hN h hc) (.mk _ (Go.Kp.mkl_map f h hw) k)
theorem aeq[DecidableEq α]{K:Bool→Prop}{P:Prop}{u v:α}(hp:P){A B:List D}(he:∀x y:α,eU (cellsOf (f x)) (cellsOf (f y))=decide (x=y))(hA:A=cellsOf (f u))(hB:B=cellsOf (f v))(k:K (decide (u=v))):Need P (EqB (eU A B) K):=.mk hp (.mk _ (by rw[hA,hB];exact he u v) k)
end
section
variable {κ ω:Type}[DecidableEq κ]{eK:κ→D}{eV:ω→D}{m:List (κ×ω)}
theorem alk{K:D→Bool→Prop}{dk dz:D}(he:∀x y:κ,eU (cellsOf (eK x)) (cellsOf (eK y))=decide (x=y))(k:κ)(z:ω)(hk:dk=eK k)(hz:dz=eV z){v:ω}{b:Bool}(h:Go.Kp.mgt m k z=some (v,b))(kk:K (eV v) b) :
  LkG (kI (cellsOf dk) (m.map fun p=>(eK p.1,eV p.2))) dz K:=by
 subst hk hz;exact .mk _ _ (ji he h) (jj he h) kk
theorem amu{K:List (D×D)→Prop}{dk dv:D}(he:∀x y:κ,eU (cellsOf (eK x)) (cellsOf (eK y))=decide (x=y))(k:κ)(v:ω)(hk:dk=eK k)(hv:dv=eV v)(kk:K ((Go.Kp.mput m k v).map fun p=>(eK p.1,eV p.2))) :
  MEqv (NY (cellsOf dk) dk dv (m.map fun p=>(eK p.1,eV p.2))) K:=by
 subst hk hv;exact .mk _ (fS he m k v) kk
theorem EU{ki:TI}{Q:Prop}(h:∀x,gX ki (eK x)=true)(k:Q):Need (∀e∈m.map (fun p=>(eK p.1,eV p.2)),gX ki e.1=true) Q:=.mk (MB eK eV h) k
end
section
variable {P:Program}
noncomputable def F3 (k:Nat) (os:List (Nat×Ob)):Bool:=Jn (motive:=fun _=>Bool) false (fun p _ ih=>match IF p.1 k with | true=>true | false=>ih) os
noncomputable def Fu (os ob:List (Nat×Ob)):(List (Nat×Ob)→Prop)→Prop:=Jn (motive:=fun _=>(List (Nat×Ob)→Prop)→Prop) (fun K=>K []) (fun p _ ih K=>match F3 p.1 os with | true=>ih K | false=>ih fun r=>K (p::r)) ob
noncomputable def IG (l r:List (Nat×Ob)):(List (Nat×Ob)→Prop)→Prop:=Jn (motive:=fun _=>(List (Nat×Ob)→Prop)→Prop) (fun K=>K r) (fun p _ ih K=>ih fun q=>K (p::q)) l
theorem GA(l r:List (Nat×Ob))(K:List (Nat×Ob)→Prop):IG l r K=K (l++r):=by
 induction l generalizing K with
 | nil=>rfl
 | cons p l ih=>exact ih fun q=>K (p::q)
theorem EH{k:Nat}:∀{os:List (Nat×Ob)},F3 k os=false→look os k=none
 | [],_=>look_nil k
 | p::os,h=>by
  have h':(match IF p.1 k with | true=>true | false=>F3 k os)=false:=h
  obtain⟨a,o⟩:=p
  rw[aT]
  cases e:IF a k with
  | true=>simp only[e]at h';cases h'
  | false=>simp only[e]at h';exact EH h'
theorem EY{k:Nat}:∀{os:List (Nat×Ob)},F3 k os=true→∃o,look os k=some o
 | [],h=>by cases h
 | p::os,h=>by
  have h':(match IF p.1 k with | true=>true | false=>F3 k os)=true:=h
  obtain⟨a,o⟩:=p
  rw[aT]
  cases e:IF a k with
  | true=>exact⟨o,rfl⟩
  | false=>simp only[e]at h';exact EY h'
theorem Ee(os:List (Nat×Ob)):∀(ob:List (Nat×Ob)) (K:List (Nat×Ob)→Prop),Fu os ob K→∃rest,K rest∧(∀k o,look rest k=some o→look ob k=some o)∧∀k o,look os k=some o→look rest k=none
 | [],K,h=>⟨[],h,fun _ _ h=>h,fun _ _ _=>look_nil _⟩
 | p::ob,K,h=>by
  have h':(match F3 p.1 os with | true=>Fu os ob K | false=>Fu os ob fun r=>K (p::r)):=h
  obtain⟨a,o⟩:=p
  cases e:F3 a os with
  | true =>
   simp only[e]at h'
   obtain⟨rest,h1,h2,h3⟩:=Ee os ob K h'
   refine⟨rest,h1,fun k o' hk=>?_,h3⟩
   rw[aT]
   cases q:IF a k with
   | true =>
    have:=Ik q;subst this
    obtain⟨o2,e2⟩:=EY e
    rw[h3 a o2 e2]at hk;cases hk
   | false=>exact h2 k o' hk
  | false =>
   simp only[e]at h'
   obtain⟨rest,h1,h2,h3⟩:=Ee os ob _ h'
   refine⟨(a,o)::rest,h1,fun k o' hk=>?_,fun k o' hk=>?_⟩
   ·rw[aT]at hk ⊢
    cases q:IF a k with
    | true=>rw[q]at hk;exact hk
    | false=>rw[q]at hk;exact h2 k o' hk
   ·rw[aT]
    cases q:IF a k with
    | true =>
     have:=Ik q;subst this
     rw[EH e]at hk;cases hk
    | false=>exact h3 k o' hk
theorem co{f:FuncId}{args:List AV}{ob:List (Nat×Ob)}{K:AV→List (Nat×Ob)→Prop}{Kp:D→List (Nat×Ob)→Prop}{os:List (Nat×Ob)}{β:Type}{R:β→Prop}{r:β→AV}{L:β→List (Nat×Ob)}
  (h:ACalls P f args os fun ae os'=>∃y,R y∧ae=.ret (r y)∧os'=L y) (kk:Fu os ob fun rest=>∀y,R y→IG (L y) rest fun ob2=>K (r y) ob2) (hos:inO id ob os:=by((repeat (first|exact trivial|refine⟨rfl,?_⟩|fail));done)):CallG P f args ob K Kp:=by
 obtain⟨rest,h1,h2,h3⟩:=Ee os ob _ kk
 refine .gen args os _ id rest (ac _) (fun k o hk=>aA hos (k,o) (bC hk)) ⟨fun k k' o o' _ _ e=>e,fun k o hk=>h3 k o hk⟩ h2 h ?_ ?_
 ·rintro q os' ⟨y,hy,e1,rfl⟩
  cases e1
  refine⟨r y,AV.le_refl _,?_⟩
  have:=h1 y hy
  rw[GA]at this
  have e:js id (L y)=L y:=by unfold js;simp
  rw[e];exact this
 ·rintro d os' ⟨y,_,e1,_⟩;cases e1
end
theorem cq{P:Program}{f:FuncId}{args:List AV}{ob:List (Nat×Ob)}{K:AV→List (Nat×Ob)→Prop}{Kp:D→List (Nat×Ob)→Prop}{os:List (Nat×Ob)}{β:Type}{R:β→Prop}{d:D}{L:β→List (Nat×Ob)}
  (h:ACalls P f args os fun ae os'=>∃y,R y∧ae=.pan d∧os'=L y) (kk:Fu os ob fun rest=>∀y,R y→IG (L y) rest fun ob2=>Kp d ob2) (hos:inO id ob os:=by((repeat (first|exact trivial|refine⟨rfl,?_⟩|fail));done)):CallG P f args ob K Kp:=by
 obtain⟨rest,h1,h2,h3⟩:=Ee os ob _ kk
 refine .gen args os _ id rest (ac _) (fun k o hk=>aA hos (k,o) (bC hk)) ⟨fun k k' o o' _ _ e=>e,fun k o hk=>h3 k o hk⟩ h2 h ?_ ?_
 ·rintro q os' ⟨y,_,e1,_⟩;cases e1
 ·rintro q os' ⟨y,hy,e1,rfl⟩
  cases e1
  have:=h1 y hy
  rw[GA]at this
  have e:js id (L y)=L y:=by unfold js;simp
  rw[e];exact this
theorem cp{P:Program}{f:FuncId}{args:List AV}{ob:List (Nat×Ob)}{K:AV→List (Nat×Ob)→Prop}{Kp:D→List (Nat×Ob)→Prop}{r:AV}(h:ACalls P f args [] fun e os=>e=.ret r∧os=[])(k:K r ob):CallG P f args ob K Kp:=.pure r h k
theorem dr{P:Program}{tt:TT}{an:Ann}{Y:YT}{ops:Array Oper}{s:St}{K:X→St→Prop}(j d:Nat)(pl:Plan)(hk:kw ops j=some d)(h:uY ops pl=true)(run:d7 P tt an Y ops K pl s):DrawG P tt an Y ops s K:=.mk pl h run
section
variable {τ R:Type}{r:R}{n:Nat}{f:St→(X→St→Prop)→Prop}{s:St}{rb:St→Prop}{Q:X→St→Prop}
theorem sq0(k:Nat){A:Option τ}{B:τ→Option R}(h:Ha A B=some r)(live:List Nat)(tm:τ→List (Nat×AV))
  (ha:TyG (fun x=>A=some x) fun x=>f s fun e s'=>match e with
   | .nrm=>∃y:HV [] [],True∧Sub n s' (C5 s live (tm x)) (CY s.ob [] [])
   | e=>Q e s')
  (hB:TyG (fun x=>B x=some r) fun x=>∀y:HV [] [],mkD n s live (tm x) [] [] rb):SeqG k n (f s) rb Q:=sq k h live [] [] [] () (fun _ x _=>tm x) (fun _ _ _=>[]) ha hB
theorem st0(k:Nat){F:τ→Option R}(r:R)(live:List Nat)(tm:TV τ [] []→List (Nat×AV))
  (ha:f s fun e s'=>match e with
   | .nrm=>∃y:TV τ [] [],F y.x=some r∧Sub n s' (C5 s live (tm y)) (CY s.ob [] [])
   | e=>Q e s')
  (hB:TyG (fun y:TV τ [] []=>F y.x=some r) fun y=>mkD n s live (tm y) [] [] rb):SeqG k n (f s) rb Q:=st k r live [] [] [] () (fun _=>tm) (fun _ _=>[]) ha hB
theorem lp0(k:Nat){N:Nat}{b:(τ→Option R)→τ→Option R}{x0:τ}(h:Go.Kp.loopN b N x0=some r)(live:List Nat)(tm:LY τ [] []→List (Nat×AV))
  (h0:GV n s s live (tm ⟨N,x0,hvO s [] []⟩) [] [])
  (hs:∀m,TyG (fun x=>b (Go.Kp.loopN b m) x=some r) fun x=>∀y:HV [] [],mkD n s live (tm ⟨m+1,x,y⟩) [] [] fun s1=>f s1 fun e s'=>match e with
   | .nrm=>∃y:LY τ [] [],Go.Kp.loopN b y.k y.x=some r∧Sub n s' (C5 s live (tm y)) (CY s.ob [] [])∧y.k<m+1
   | e=>Q e s'):LoopG k n f s Q:=lp k h live [] [] [] () (fun _=>tm) (fun _ _=>[]) h0 hs
end
theorem itx{n j:Int}{len:Nat}{K:Nat→Prop}{R:Type}{x y:Option R}{r:R}(h:(if decide (n=j)then x else y)=some r)(a:decide (n=j)=true→x=some r→IxG n len K)(b:decide (n=j)=false→y=some r→IxG n len K):IxG n len K:=by
 cases c:decide (n=j)
 ·exact b c (Go.Kp.ite_f c h)
 ·exact a c (Go.Kp.ite_t c h)
theorem np{p:Prop}(h:p):p:=h
theorem itd{n j:Int}{G:Prop}{R:Type}{x y:Option R}{r:R}(h:(if decide (n=j)then x else y)=some r)(a:decide (n=j)=true→x=some r→G)(b:decide (n=j)=false→y=some r→G):G:=by
 cases c:decide (n=j)
 ·exact b c (Go.Kp.ite_f c h)
 ·exact a c (Go.Kp.ite_t c h)
theorem lun{n:Nat}{f:St→(X→St→Prop)→Prop}{s:St}{Q:X→St→Prop}(k m:Nat)(h:wk f Q m s):LoopG k n f s Q:=LoopG.unr m h
noncomputable def wBk (s:St) (k:Nat) (K:Nat→Prop):Prop:=match look s.ob k with | some (.cells b _)=>K b | some (.map b _)=>K b | _=>False
theorem II{s:St}{k:Nat}{K:Nat→Prop}(h:wBk s k K):∃b,K b:=by
 unfold wBk at h
 split at h
 ·exact⟨_,h⟩
 ·exact⟨_,h⟩
 ·exact h.elim
section
variable {τ R:Type}{r:R}{n:Nat}{f:St→(X→St→Prop)→Prop}{s:St}{rb:St→Prop}{Q:X→St→Prop}
theorem sqb(k:Nat){A:Option τ}{B:τ→Option R}(h:Ha A B=some r)(live obs:List Nat)(hv hb:List HR)(j:Nat)(tm:Nat→τ→HV hv hb→List (Nat×AV))(ob:Nat→τ→HV hv hb→List (Nat×Ob))
  (hh:wBk s j fun p=>Both (TyG (fun x=>A=some x) fun x=>f s fun e s'=>match e with
   | .nrm=>∃y:HV hv hb,True∧Sub n s' (C5 s live (tm p x y)) (CY s.ob obs (ob p x y))
   | e=>Q e s') (TyG (fun x=>B x=some r) fun x=>∀y,mkD n s live (tm p x y) obs (ob p x y) rb)):SeqG k n (f s) rb Q:=by
 obtain⟨p,ha,hB⟩:=II hh
 exact sq k h live obs hv hb p tm ob ha hB
end
noncomputable def tkA (n:Nat):Nat→Plan→Plan:=Nat.rec (motive:=fun _=>Nat→Plan→Plan) (fun _ p=>p) (fun _ ih a p=>.take a (ih (Nat.succ a) p)) n
/-! Many steps as one. -/
structure W(p:Prop) where
 K:Prop
 f:K→p
def W.id {p:Prop}:W p:=⟨p,fun x=>x⟩
def wc {q p:Prop}(r:q→p)(w:W q):W p:=⟨w.K,fun k=>r (w.f k)⟩
def wn {q p:Prop}(e:p=q:=by(conv=>lhs;whnf)<;>rfl)(w:W q):W p:=⟨w.K,fun k=>e▸w.f k⟩
theorem s2{α β:Sort _}{a:α}{b:β}{K:Prop}(k:K):Side (a=a∧b=b) K:=.mk ⟨rfl,rfl⟩ k
theorem s3{α β γ:Sort _}{a:α}{b:β}{c:γ}{K:Prop}(k:K):Side (a=a∧b=b∧c=c) K:=.mk ⟨rfl,rfl,rfl⟩ k
theorem bt1{K:Prop}(k:K):Both K True:=.mk k trivial
theorem ix0{n:Int}{len:Nat}{K:Nat→Prop}(j:Nat)(h:n=j:=by rfl)(hl:j<len:=by decide)(k:K j):IxG n len K:=.mk j h hl k
theorem dby{b:List UInt8}{i:Int}{c:UInt8}{K:Int→Prop}(h:Go.Kp.idx b i=some c)(k:K c.toNat):ByG b i K:=.mk c (Go.Kp.idx_0 h) (Go.Kp.idx_byte h) k
theorem tk3{α:Type}{f:α→D}{l:List α}{a b c:α}{K:List D→Prop}(h0:Go.Kp.idx l 0=some a)(h1:Go.Kp.idx l 1=some b)(h2:Go.Kp.idx l 2=some c)(k:K [f a,f b,f c]):Eqv ((l.map f).take 3) K:=.mk _ (Go.Kp.take3_map f h0 h1 h2) k
theorem cf{P:Program}{f:FuncId}{args:List AV}{n:Nat}{tm:T AV}{ob:List (Nat×Ob)}{K:St→Prop}{Kp:D→List (Nat×Ob)→Prop}(d k:Nat){e sz:Nat}{xs:List D}
  (h:ACalls P f args [] fun ae os'=>∃hd,ae=.ret (.sl 0 hd)∧os'=[(0,.arr hd e sz false xs)]) (kk:∀hd:Value,St.put ⟨n,tm,(k,.arr hd e sz false xs)::ob⟩ (some d) (.sl k hd) K):CallG P f args ob (fun r ob'=>St.put ⟨n,tm,ob'⟩ (some d) r K) Kp:=CallG.fresh k h kk
theorem s4{α β γ δ:Sort _}{a:α}{b:β}{c:γ}{d:δ}{K:Prop}(k:K):Side (a=a∧b=b∧c=c∧d=d) K:=.mk ⟨rfl,rfl,rfl,rfl⟩ k
theorem s5{α β γ δ ε:Sort _}{a:α}{b:β}{c:γ}{d:δ}{e:ε}{K:Prop}(k:K):Side (a=a∧b=b∧c=c∧d=d∧e=e) K:=.mk ⟨rfl,rfl,rfl,rfl,rfl⟩ k
theorem s6{α β γ δ ε ζ:Sort _}{a:α}{b:β}{c:γ}{d:δ}{e:ε}{f:ζ}{K:Prop}(k:K):Side (a=a∧b=b∧c=c∧d=d∧e=e∧f=f) K:=.mk ⟨rfl,rfl,rfl,rfl,rfl,rfl⟩ k
theorem s2d{α β:Sort _}{a:α}{b:β}{p K:Prop}(h:p:=by decide)(k:K):Side (a=a∧b=b∧p) K:=.mk ⟨rfl,rfl,h⟩ k
section
variable {ob:Option Ob}{e sz re rsz b km mb:Nat}{fz:Bool}{K:Prop}{h:Value}{xs:List D}{hs:Nat→Value}{es rem:List (D×D)}{last:Option (D×D)}{cs cs':List AV}
theorem on(k:K):Need (OLe ob (.arr (.slice none 0 0) e sz fz [])) K:=.mk (.nil _ _ _ _) k
theorem oa(k:K):Need (OLe (some (.arr h e sz false xs)) (.arr h e sz fz xs)) K:=.mk (.arr _ _ _ _ _) k
theorem om(k:K):Need (OLe (some (.mit b km mb es rem last)) (.mit b km mb es rem none)) K:=.mk (.mit _ _ _ _ _ _) k
theorem orw(k:K):Need (OLe ob (.rows (.slice none 0 0) e re rsz hs none [])) K:=.mk (.nilrows _ _ _ _ _) k
theorem oc(hl:leL cs' cs True:=by(repeat (first|exact trivial|((conv=>whnf);refine nr ?_)|fail)))(k:K):Need (OLe (some (.cells b cs')) (.cells b cs)) K:=.mk (.cells _ _ _ hl) k
end
section
variable {n:Nat}{f:St→(X→St→Prop)→Prop}{s s':St}{rb:St→Prop}{Q:X→St→Prop}
theorem sk{k:Nat}(α:Type)(live obs:List Nat)(tm:α→List (Nat×AV))(ob:α→List (Nat×Ob))(F:α→Prop)
  (ha:f s fun e s'=>match e with
   | .nrm=>∃y,F y∧Sub n s' (C5 s live (tm y)) (CY s.ob obs (ob y))
   | e=>Q e s')
  (hB:∀y,F y→mkD n s live (tm y) obs (ob y) rb):SeqG k n (f s) rb Q :=
 SeqG.mk α (fun y=>C5 s live (tm y)) (fun y=>CY s.ob obs (ob y)) F ha fun y hy=>by
  have:=hB y hy
  rwa[F2]at this
theorem lk{k:Nat}(α:Type)(live obs:List Nat)(tm:α→List (Nat×AV))(ob:α→List (Nat×Ob))(F:α→Prop)(μ:α→Nat)(x0:α)(i0:F x0)(h0:Sub n s (C5 s live (tm x0)) (CY s.ob obs (ob x0)))
  (h:∀x,F x→mkD n s live (tm x) obs (ob x) fun s1=>f s1 fun e s'=>match e with
   | .nrm=>∃y,F y∧Sub n s' (C5 s live (tm y)) (CY s.ob obs (ob y))∧μ y<μ x
   | e=>Q e s'):LoopG k n f s Q :=
 LoopG.mk α (fun y=>C5 s live (tm y)) (fun y=>CY s.ob obs (ob y)) F μ x0 i0 h0 fun x hx=>by
  have:=h x hx
  rw[F2]at this
  exact this
theorem Cl{live:List Nat}{u:List (Nat×AV)}{obs:List Nat}{w:List (Nat×Ob)}(h:GV n s s' live u obs w:=by(repeat ((conv=>whnf);first|refine nr ?_|refine no ?_|refine nl ?_|refine on ?_|refine oa ?_|refine om ?_|refine orw ?_|refine oc (k:=?_)|fail));exact trivial):Sub n s' (C5 s live u) (CY s.ob obs w):=Sub.dif h
end
section
variable {P:Program}{tt:TT}{DR:Ann→YT→Array Oper→St→(X→St→Prop)→Prop}
theorem Cs(htt:cn P tt=true)(hdr:∀an,MW P (DR an))(l:List Nat)(o:Nat){f:FuncId}{fn:Func}{c:Code}{args:List AV}{r:AV}
  (hf:P.funcs[f]? = some fn) (hb:fn.body=some c) (hok:cI P f) (hn:Nat.ble args.length fn.ntmps=true) (h:nq P tt ⟨[],[],[],[],l,o,[]⟩ (tN P tt ⟨[],[],[],[],l,o,[]⟩ DR) fn c false args [] fun e _=>e=.ret r):ACalls P f args [] fun e os=>e=.ret r∧os=[] :=
 ah htt hdr _ hf hb hok hn h
theorem Jv(htt:cn P tt=true)(hdr:∀an,MW P (DR an))(l:List Nat)(o:Nat){f:FuncId}{fn:Func}{c:Code}{args:List AV}{os:List (Nat×Ob)}{Q:AE→List (Nat×Ob)→Prop}
  (hf:P.funcs[f]? = some fn) (hb:fn.body=some c) (hok:cI P f) (hn:Nat.ble args.length fn.ntmps=true)
  (h:nq P tt ⟨[],[],[],[],l,o,[]⟩ (tN P tt ⟨[],[],[],[],l,o,[]⟩ DR) fn c false args os fun ae os'=>∃L,Q ae L∧∀p∈L,look os' p.1=some p.2):ACalls P f args os Q:=bt htt hdr _ hf hb hok hn h
theorem Ij(htt:cn P tt=true)(hdr:∀an,MW P (DR an))(l:List Nat)(o:Nat){f:FuncId}{fn:Func}{c:Code}{args:List AV}{os:List (Nat×Ob)}{β:Type}{R:β→Prop}{r:β→AV}{L:β→List (Nat×Ob)}
  (hf:P.funcs[f]? = some fn) (hb:fn.body=some c) (hok:cI P f) (hn:Nat.ble args.length fn.ntmps=true)
  (h:nq P tt ⟨[],[],[],[],l,o,[]⟩ (tN P tt ⟨[],[],[],[],l,o,[]⟩ DR) fn c false args os fun ae os'=>∃y,R y∧ae=.ret (r y)∧∀p∈L y,look os' p.1=some p.2) :
  ACalls P f args os fun ae os'=>∃y,R y∧ae=.ret (r y)∧os'=L y:=aJ htt hdr _ hf hb hok hn h
end
theorem am{p:Prop}(h:p:=by with_reducible assumption):p:=h
theorem u{p K:Prop}(e:W p:=by
  refine wn (w:=?_)
  first|refine wc sr ?_|refine wc nr ?_|refine wc no ?_|refine wc nl ?_|refine wc s2 ?_|refine wc s3 ?_|refine wc bt1 ?_|refine wc dln ?_|refine wc dlm ?_|refine wc (dix am) ?_|refine wc (ael am) ?_|refine wc (aix am) ?_|refine wc s2d ?_|refine wc s4 ?_|refine wc s5 ?_|refine wc s6 ?_|refine wc (I7 am) ?_|refine wc (dby am) ?_|refine wc (tk3 am am am) ?_|refine wc (asl am) ?_|refine wc (I8 am) ?_|refine wc (I9 am) ?_|refine wc (Ja am) ?_|refine wc (ix0 0) ?_|refine wc (ix0 1) ?_|refine wc (ix0 2) ?_|refine wc (I3 am (by decide)) ?_|refine wc (I4 am (by decide)) ?_|refine wc (I5 am (by decide)) ?_|refine wc (I6 am (by decide)) ?_|refine wc (ane am) ?_|refine wc (aap _ _ _ hN rfl rfl am (by decide)) ?_|refine wc (aap I _ [_] hN rfl rfl am (by decide)) ?_|refine wc (aap D.str _ [_] hN rfl rfl am (by decide)) ?_|refine wc (Ht _ _ hN rfl am (by decide)) ?_|refine wc (Ht I [_] hN rfl am (by decide)) ?_|refine wc (ast _ rfl) ?_|refine wc (ang am) ?_|refine wc on ?_|refine wc oa ?_|refine wc om ?_|refine wc orw ?_|refine wc oc ?_|refine wc (Need.mk (AV.le_bool am)) ?_|fail
  repeat (refine wn (w:=?_);first|refine wc sr ?_|refine wc nr ?_|refine wc no ?_|refine wc nl ?_|refine wc s2 ?_|refine wc s3 ?_|refine wc bt1 ?_|refine wc dln ?_|refine wc dlm ?_|refine wc (dix am) ?_|refine wc (ael am) ?_|refine wc (aix am) ?_|refine wc s2d ?_|refine wc s4 ?_|refine wc s5 ?_|refine wc s6 ?_|refine wc (I7 am) ?_|refine wc (dby am) ?_|refine wc (tk3 am am am) ?_|refine wc (asl am) ?_|refine wc (I8 am) ?_|refine wc (I9 am) ?_|refine wc (Ja am) ?_|refine wc (ix0 0) ?_|refine wc (ix0 1) ?_|refine wc (ix0 2) ?_|refine wc (I3 am (by decide)) ?_|refine wc (I4 am (by decide)) ?_|refine wc (I5 am (by decide)) ?_|refine wc (I6 am (by decide)) ?_|refine wc (ane am) ?_|refine wc (aap _ _ _ hN rfl rfl am (by decide)) ?_|refine wc (aap I _ [_] hN rfl rfl am (by decide)) ?_|refine wc (aap D.str _ [_] hN rfl rfl am (by decide)) ?_|refine wc (Ht _ _ hN rfl am (by decide)) ?_|refine wc (Ht I [_] hN rfl am (by decide)) ?_|refine wc (ast _ rfl) ?_|refine wc (ang am) ?_|refine wc on ?_|refine wc oa ?_|refine wc om ?_|refine wc orw ?_|refine wc oc ?_|refine wc (Need.mk (AV.le_bool am)) ?_|fail)
  exact W.id) (hK:e.K=K:=by(conv=>lhs;whnf)<;>rfl) (k:K):p:=e.f (hK.symm▸k)
structure HS{R α:Type}(E:Option R)(P:α→Prop)(E':α→Option R):Prop where
 f:∀r,E=some r→∃x,P x∧E' x=some r
theorem hT{R:Type}{c:Bool}{x y:Option R}(hc:c=true):HS (if c then x else y) (fun _:Unit=>True) fun _=>x:=⟨fun _ h=>⟨(),trivial,Go.Kp.ite_t hc h⟩⟩
theorem hF{R:Type}{c:Bool}{x y:Option R}(hc:c=false):HS (if c then x else y) (fun _:Unit=>True) fun _=>y:=⟨fun _ h=>⟨(),trivial,Go.Kp.ite_f hc h⟩⟩
theorem h3{R τ:Type}{A:Option τ}{B:τ→Option R}{x:τ}(h0:A=some x):HS (Ha A B) (fun _:Unit=>True) fun _=>B x:=⟨fun _ h=>⟨(),trivial,ob3 h h0 id⟩⟩
theorem h2{R τ:Type}{A:Option τ}{B:τ→Option R}:HS (Ha A B) (fun x=>A=some x) B:=⟨fun _ h=>ob2 h fun x a b=>⟨x,a,b⟩⟩
theorem hs{R α:Type}{E:Option R}{r:R}{G:Prop}{P:α→Prop}{E':α→Option R}(h:E=some r)(k:∀x,P x→E' x=some r→G)(e:HS E P E':=by first|with_reducible exact h3 am|with_reducible exact h2|(with_reducible refine hT ?_;assumption)|(with_reducible refine hF ?_;assumption)|((with_reducible refine hT ?_);assumption)|((with_reducible refine hF ?_);assumption)|fail):G :=
 have⟨x,a,b⟩:=e.f r h;k x a b
theorem ia{ob l:List (Nat×Ob)}(h:inO id ob l:=by(repeat (first|exact trivial|refine⟨rfl,?_⟩|fail));done):∀p∈l,look ob p.1=some p.2:=aA (ren:=id) h
theorem v{p:Prop}(t:p:=by
  first|exact trivial|with_reducible exact nn h|(show @Eq AE _ _;cases h;exact rfl)|(show @Exists (HV _ _) _;cases h;refine lf ?_;(repeat (first|refine u (k:=?_)|exact trivial|fail));done)|(show @Exists (LY _ _ _) _;refine ll h ?_;(repeat (first|refine u (k:=?_)|exact trivial|fail));done)|(show @Exists (TV _ _ _) _;(first|refine lt _ h ?_|refine lt () h ?_|refine lt (_,_) h ?_|refine lt (_,_,_) h ?_|refine lt (_,_,_,_) h ?_|refine lt (_,_,_,_,_) h ?_|fail);(repeat (first|refine u (k:=?_)|exact trivial|fail));done)|(show ∃_,_;cases h;first|exact⟨_,_,rfl,rfl⟩|exact⟨_,trivial,rfl,ia⟩|exact⟨_,⟨_,trivial,rfl,rfl⟩,ia⟩|exact⟨(),trivial,rfl,ia⟩|exact⟨_,⟨(),trivial,rfl,rfl⟩,ia⟩|exact⟨(_,_),trivial,rfl,ia⟩|exact⟨_,⟨(_,_),trivial,rfl,rfl⟩,ia⟩|exact⟨(_,_,_),trivial,rfl,ia⟩|exact⟨_,⟨(_,_,_),trivial,rfl,rfl⟩,ia⟩|exact⟨(_,_,_,_),trivial,rfl,ia⟩|exact⟨_,⟨(_,_,_,_),trivial,rfl,rfl⟩,ia⟩|fail)|(cases h;done)|fail):p:=t
end Go.Abs
