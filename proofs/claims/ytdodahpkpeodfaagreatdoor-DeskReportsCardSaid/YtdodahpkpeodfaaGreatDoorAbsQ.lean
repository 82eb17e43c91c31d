/-
 How the walks of typed functions begin.
-/
import Derived.Test.YtdodahpkpeodfaaGreatDoorAbsS
import Derived.Test.YtdodahpkpeodfaaGreatDoorPre
import Derived.KernelRfl
set_option linter.all false
namespace Go.Abs
open Go
abbrev I (n:Int):D:=.int .i64 n
section
variable {P:Program}{tt:TT}{DR:Ann→YT→Array Oper→St→(X→St→Prop)→Prop}
theorem NextG.of{rem:List (D×D)}{K0:Prop}{K1:(D×D)→List (D×D)→Prop}{α:Type}(f:α→D×D)(l:List α)(hl:l.map f=rem)(h0:l=[]→K0)(h1:∀e r,Go.Kp.Pick l e r→K1 (f e) (r.map f)):NextG rem K0 K1 :=
 .mk f l hl h0 fun pre e post hs=>h1 e _ ⟨pre,post,hs,rfl⟩
theorem ACalls.forget{f:FuncId}{args:List AV}{os:List (Nat×Ob)}{Q:AE→Prop}(h:ACalls P f args os fun e _=>Q e):ACalls P f args os fun e os'=>Q e∧os'=[]:=by
 refine⟨h.ok,fun M w vs h1 h2 h3=>(h.run M w vs h1 h2 h3).mono ?_⟩
 rintro e w' ⟨os',M',_,b,c,g⟩
 refine⟨[],M',fa _ _,b,⟨c.fr,fun _ ⟨_,_,h,_⟩=>by simp[look_nil]at h⟩,?_⟩
 rcases g with⟨r,v,rfl,hq,hg⟩ | ⟨x,v,rfl,hq,hg⟩
 ·exact .inl ⟨r,v,rfl,⟨hq,rfl⟩,hg⟩
 ·exact .inr ⟨x,v,rfl,⟨hq,rfl⟩,hg⟩
theorem ah(htt:cn P tt=true)(hdr:∀an,MW P (DR an))(an:Ann){f:FuncId}{fn:Func}{c:Code}{fresh:Bool}{args:List AV}{r:AV}
  (hf:P.funcs[f]? = some fn) (hb:fn.body=some c) (hok:cI P f) (hn:Nat.ble args.length fn.ntmps=true) (h:nq P tt an (tN P tt an DR) fn c fresh args [] fun e _=>e=.ret r):ACalls P f args [] fun e os=>e=.ret r∧os=[] :=
 ACalls.forget (jY htt hdr an hf hb hok hn h)
end
end Go.Abs
namespace Go.Abs
open Go
section
variable {P:Program}{tt:TT}{DR:Ann→YT→Array Oper→St→(X→St→Prop)→Prop}
theorem fH{o o':Ob}{k:Nat}(h:look [(0,o)] k=some o'):k=0∧o'=o:=by
 rw[aT]at h
 cases hb:Nat.beq 0 k with
 | true=>rw[hb]at h;cases h;exact⟨(Nat.eq_of_beq_eq_true hb).symm,rfl⟩
 | false=>rw[hb]at h;cases h
theorem ACalls.fresh{f:FuncId}{args:List AV}{os:List (Nat×Ob)}{e sz:Nat}{xs:List D}(h:ACalls P f args os fun ae os'=>∃k hd,ae=.ret (.sl k hd)∧look os' k=some (.arr hd e sz false xs)) :
  ACalls P f args os fun ae os'=>∃hd,ae=.ret (.sl 0 hd)∧os'=[(0,.arr hd e sz false xs)]:=by
 refine⟨h.ok,fun M w vs h1 h2 h3=>(h.run M w vs h1 h2 h3).mono ?_⟩
 rintro ae w' ⟨os',M',ho,b,c,g⟩
 rcases g with⟨r,v,rfl,⟨k,hd,e1,e2⟩,hg⟩ | ⟨x,v,rfl,⟨k,hd,e1,_⟩,_⟩
 ·cases e1
  refine⟨[(0,.arr hd e sz false xs)],M',⟨fun k' o hk=>?_,fun k1 k2 o1 o2 bb q1 q2 _ _=>?_⟩,b,⟨c.fr,fun bb ⟨k',o,q1,q2⟩=>?_⟩,.inl ⟨.sl 0 hd,v,rfl,⟨hd,rfl,rfl⟩,AV.le_key k 0 hd _ _ hg⟩⟩
  ·obtain⟨_,rfl⟩:=fH hk;exact ho.ok k _ e2
  ·rw[(fH q1).1,(fH q2).1]
  ·obtain⟨_,rfl⟩:=fH q1;exact c.ow bb ⟨k,_,e2,q2⟩
 ·cases e1
theorem ACalls.nil_own{f:FuncId}{args:List AV}{e sz n:Nat}(h:ACalls P f args [] fun ae os'=>ae=.ret (.nils n)∧os'=[]) :
  ACalls P f args [] fun ae os'=>∃hd,ae=.ret (.sl 0 hd)∧os'=[(0,.arr hd e sz false [])]:=by
 refine⟨h.ok,fun M w vs h1 h2 h3=>(h.run M w vs h1 h2 h3).mono ?_⟩
 rintro ae w' ⟨os',M',ho,b,c,g⟩
 rcases g with⟨r,v,rfl,⟨e1,rfl⟩,hg⟩ | ⟨x,v,rfl,⟨e1,_⟩,_⟩
 ·cases e1
  cases hg
  refine⟨[(0,.arr (.slice none 0 0) e sz false [])],M',⟨fun k' o hk=>?_,fun k1 k2 o1 o2 bb q1 q2 _ _=>?_⟩,b,⟨c.fr,fun bb ⟨k',o,q1,q2⟩=>?_⟩,.inl ⟨.sl 0 (.slice none 0 0),_,rfl,⟨_,rfl,rfl⟩,.sl _ _ _ _⟩⟩
  ·obtain⟨_,rfl⟩:=fH hk;exact⟨[],World.ownsRow_nil _ 0 e sz,.nil,by simp,by simp,fun b hb=>by simp[Value.ownBlock]at hb⟩
  ·rw[(fH q1).1,(fH q2).1]
  ·obtain⟨_,rfl⟩:=fH q1;simp[bu,Value.ownBlock]at q2
 ·cases e1
theorem gk(htt:cn P tt=true)(hdr:∀an,MW P (DR an))(an:Ann){f:FuncId}{fn:Func}{c:Code}{args:List AV}{e sz:Nat}{xs:List D}
  (hf:P.funcs[f]? = some fn) (hb:fn.body=some c) (hok:cI P f) (hn:Nat.ble args.length fn.ntmps=true)
  (h:nq P tt an (tN P tt an DR) fn c true args [] fun ae os'=>∃k hd,ae=.ret (.sl k hd)∧look os' k=some (.arr hd e sz false xs)):ACalls P f args [] fun ae os'=>∃hd,ae=.ret (.sl 0 hd)∧os'=[(0,.arr hd e sz false xs)] :=
 ACalls.fresh (jY htt hdr an hf hb hok hn h)
theorem ac(l:List AV):All2 AV.le l l:=⟨rfl,fun i x y hx hy=>by rw[hx]at hy;cases hy;exact AV.le_refl _⟩
theorem CallG.fresh{f:FuncId}{args:List AV}{ob:List (Nat×Ob)}{K:AV→List (Nat×Ob)→Prop}{Kp:D→List (Nat×Ob)→Prop}(k:Nat){e sz:Nat}{xs:List D}
  (h:ACalls P f args [] fun ae os'=>∃hd,ae=.ret (.sl 0 hd)∧os'=[(0,.arr hd e sz false xs)]) (kk:∀hd:Value,K (.sl k hd) ((k,.arr hd e sz false xs)::ob)):CallG P f args ob K Kp :=
 .gen args [] _ (fun _=>k) ob (ac args) (fun _ _ h=>by simp[look_nil]at h) ⟨fun _ _ _ _ h=>by simp[look_nil]at h,fun _ _ h=>by simp[look_nil]at h⟩ (fun _ _ h=>h) h
  (by rintro r os' ⟨hd,e1,rfl⟩;cases e1;exact⟨.sl k hd,AV.le_key 0 k hd,kk hd⟩) (by rintro d os' ⟨hd,e1,_⟩;cases e1)
end
section
variable {P:Program}{tt:TT}{DR:Ann→YT→Array Oper→St→(X→St→Prop)→Prop}
theorem AV.le_bool{e b:Bool}(h:e=b):AV.le (.d (.bool e)) (.b b):=by
 subst h
 intro M v hv
 cases hv with | d _ _ hv=>?_
 cases hv with | bool=>?_
 exact .b _
theorem ACalls.nils_or{f:FuncId}{sz:Nat}{xs:List D}{Q:AE→List (Nat×Ob)→Prop}(h0:xs=[]→ACalls P f [.nils sz] [] Q)(h1:ACalls P f [.nn sz xs] [] Q):ACalls P f [.d (.list sz xs)] [] Q:=by
 refine⟨h1.ok,fun M w vs hr ha ho=>?_⟩
 obtain⟨v,vs',rfl,hv,ht⟩:=ha.inv
 have:=ht.inv_nil
 subst this
 cases hv with | d _ _ hv=>?_
 have hv':=hv
 generalize hl:D.list sz xs=dd at hv
 cases hv with
 | nils=>cases hl;exact(h0 rfl).run M w _ hr (.cons (.nils _) .nil) ho
 | list=>cases hl;exact h1.run M w _ hr (.cons (.nn _ _ _ _ _ hv') .nil) ho
 | listz=>cases hl;exact h1.run M w _ hr (.cons (.nn _ _ _ _ _ hv') .nil) ho
 | _=>cases hl
theorem ACalls.keep{f:FuncId}{args:List AV}{os:List (Nat×Ob)}{β:Type}{R:β→Prop}{r:β→AV}{L:β→List (Nat×Ob)}
  (h:ACalls P f args os fun ae os'=>∃y,R y∧ae=.ret (r y)∧∀p∈L y,look os' p.1=some p.2):ACalls P f args os fun ae os'=>∃y,R y∧ae=.ret (r y)∧os'=L y:=by
 refine⟨h.ok,fun M w vs h1 h2 h3=>(h.run M w vs h1 h2 h3).mono ?_⟩
 rintro ae w' ⟨os',M',ho,b,c,g⟩
 rcases g with⟨q,v,rfl,⟨y,hy,e1,e2⟩,hg⟩ | ⟨x,v,rfl,⟨y,_,e1,_⟩,_⟩
 ·cases e1
  have hl:∀k o,look (L y) k=some o→look os' k=some o:=fun k o hk=>e2 (k,o) (bC hk)
  exact⟨L y,M',⟨fun k o hk=>ho.ok k o (hl k o hk),fun k1 k2 o1 o2 bb q1 q2 q3 q4=>ho.dj k1 k2 o1 o2 bb (hl _ _ q1) (hl _ _ q2) q3 q4⟩,b,
   ⟨c.fr,fun bb ⟨k,o,q1,q2⟩=>c.ow bb ⟨k,o,hl _ _ q1,q2⟩⟩,.inl ⟨r y,v,rfl,⟨y,hy,rfl,rfl⟩,hg⟩⟩
 ·cases e1
theorem ACalls.pred{f:FuncId}{args:List AV}{os:List (Nat×Ob)}{Q:AE→List (Nat×Ob)→Prop}
  (h:ACalls P f args os fun ae os'=>∃L,Q ae L∧∀p∈L,look os' p.1=some p.2):ACalls P f args os Q:=by
 refine⟨h.ok,fun M w vs h1 h2 h3=>(h.run M w vs h1 h2 h3).mono ?_⟩
 rintro ae w' ⟨os',M',ho,b,c,g⟩
 have key:∀L:List (Nat×Ob),(∀p∈L,look os' p.1=some p.2)→Obs M' w' L∧Stp os M w L M' w':=by
  intro L e2
  have hl:∀k o,look L k=some o→look os' k=some o:=fun k o hk=>e2 (k,o) (bC hk)
  exact⟨⟨fun k o hk=>ho.ok k o (hl k o hk),fun k1 k2 o1 o2 bb q1 q2 q3 q4=>ho.dj k1 k2 o1 o2 bb (hl _ _ q1) (hl _ _ q2) q3 q4⟩,
   ⟨c.fr,fun bb ⟨k,o,q1,q2⟩=>c.ow bb ⟨k,o,hl _ _ q1,q2⟩⟩⟩
 rcases g with⟨q,v,rfl,⟨L,hq,e2⟩,hg⟩ | ⟨x,v,rfl,⟨L,hq,e2⟩,hg⟩
 ·exact⟨L,M',(key L e2).1,b,(key L e2).2,.inl ⟨q,v,rfl,hq,hg⟩⟩
 ·exact⟨L,M',(key L e2).1,b,(key L e2).2,.inr ⟨x,v,rfl,hq,hg⟩⟩
theorem bt(htt:cn P tt=true)(hdr:∀an,MW P (DR an))(an:Ann){f:FuncId}{fn:Func}{c:Code}{fresh:Bool}{args:List AV}{os:List (Nat×Ob)}{Q:AE→List (Nat×Ob)→Prop}
  (hf:P.funcs[f]? = some fn) (hb:fn.body=some c) (hok:cI P f) (hn:Nat.ble args.length fn.ntmps=true)
  (h:nq P tt an (tN P tt an DR) fn c fresh args os fun ae os'=>∃L,Q ae L∧∀p∈L,look os' p.1=some p.2):ACalls P f args os Q :=
 ACalls.pred (jY htt hdr an hf hb hok hn h)
theorem tP{α:Type}{f:α→D}{sz:Nat}(l:List α)(h:∀a,(cellsOf (f a)).length=sz):∀x∈l.map f,(cellsOf x).length=sz:=by
 intro x hx
 obtain⟨a,_,rfl⟩:=List.mem_map.1 hx
 exact h a
theorem aJ(htt:cn P tt=true)(hdr:∀an,MW P (DR an))(an:Ann){f:FuncId}{fn:Func}{c:Code}{fresh:Bool}{args:List AV}{os:List (Nat×Ob)}{β:Type}{R:β→Prop}{r:β→AV}{L:β→List (Nat×Ob)}
  (hf:P.funcs[f]? = some fn) (hb:fn.body=some c) (hok:cI P f) (hn:Nat.ble args.length fn.ntmps=true)
  (h:nq P tt an (tN P tt an DR) fn c fresh args os fun ae os'=>∃y,R y∧ae=.ret (r y)∧∀p∈L y,look os' p.1=some p.2) :
  ACalls P f args os fun ae os'=>∃y,R y∧ae=.ret (r y)∧os'=L y :=
 ACalls.keep (jY htt hdr an hf hb hok hn h)
def inO (ren:Nat→Nat)(ob:List (Nat×Ob)):List (Nat×Ob)→Prop
 | []=>True
 | p::l=>look ob (ren p.1)=some p.2∧inO ren ob l
def uW (ren:Nat→Nat)(rest:List (Nat×Ob)):List (Nat×Ob)→Prop
 | []=>True
 | p::l=>look rest (ren p.1)=none∧uW ren rest l
def lv (ren:Nat→Nat):List (Nat×Ob)→Bool
 | []=>true
 | p::l=>l.all (fun q=>ren q.1 != ren p.1)&&lv ren l
theorem aA{ren:Nat→Nat}{ob:List (Nat×Ob)}:∀{l:List (Nat×Ob)},inO ren ob l→∀p∈l,look ob (ren p.1)=some p.2
 | [],_,_,h=>by simp at h
 | q::l,h,p,hp=>by
  rcases List.mem_cons.1 hp with rfl | hp
  ·exact h.1
  ·exact aA h.2 p hp
theorem pQ{ren:Nat→Nat}{rest:List (Nat×Ob)}:∀{l:List (Nat×Ob)},uW ren rest l→∀p∈l,look rest (ren p.1)=none
 | [],_,_,h=>by simp at h
 | q::l,h,p,hp=>by
  rcases List.mem_cons.1 hp with rfl | hp
  ·exact h.1
  ·exact pQ h.2 p hp
theorem lw{ren:Nat→Nat}:∀{l:List (Nat×Ob)},lv ren l=true→∀p∈l,∀q∈l,ren p.1=ren q.1→p=q
 | [],_,_,h=>by simp at h
 | a::l,h,p,hp=>by
  intro q hq e
  simp only[lv,Bool.and_eq_true,List.all_eq_true,bne_iff_ne,ne_eq]at h
  rcases List.mem_cons.1 hp with e1 | hp1
  ·rcases List.mem_cons.1 hq with e2 | hq1
   ·rw[e1,e2]
   ·exact absurd (by rw[← e1];exact e.symm) (h.1 q hq1)
  ·rcases List.mem_cons.1 hq with e2 | hq1
   ·exact absurd (by rw[← e2];exact e) (h.1 p hp1)
   ·exact lw h.2 p hp1 q hq1 e
theorem AV.le_mp(k k' b:Nat):AV.le (.mp k b) (.mp k' b):=fun _ _ h=>by cases h;exact .mp _ _
theorem ACalls.keepR{f:FuncId}{args:List AV}{os:List (Nat×Ob)}{β:Type}{R:β→Prop}{r:β→AV}{L:β→List (Nat×Ob)}
  (h:ACalls P f args os fun ae os'=>∃y,R y∧(∃r0,ae=.ret r0∧AV.le r0 (r y))∧∃ren:Nat→Nat,lv ren (L y)=true∧∀p∈L y,look os' (ren p.1)=some p.2):ACalls P f args os fun ae os'=>∃y,R y∧ae=.ret (r y)∧os'=L y:=by
 refine⟨h.ok,fun M w vs h1 h2 h3=>(h.run M w vs h1 h2 h3).mono ?_⟩
 rintro ae w' ⟨os',M',ho,b,c,g⟩
 rcases g with⟨q,v,rfl,⟨y,hy,⟨r0,e1,e2⟩,ren,e3,e4⟩,hg⟩ | ⟨x,v,rfl,⟨y,_,⟨r0,e1,_⟩,_⟩,_⟩
 ·cases e1
  have hl:∀k o,look (L y) k=some o→look os' (ren k)=some o:=fun k o hk=>e4 (k,o) (bC hk)
  refine⟨L y,M',⟨fun k o hk=>ho.ok _ o (hl k o hk),fun k1 k2 o1 o2 bb q1 q2 q3 q4=>?_⟩,b,
   ⟨c.fr,fun bb ⟨k,o,q1,q2⟩=>c.ow bb ⟨_,o,hl _ _ q1,q2⟩⟩,.inl ⟨r y,v,rfl,⟨y,hy,rfl,rfl⟩,e2 _ _ hg⟩⟩
  have:=lw e3 (k1,o1) (bC q1) (k2,o2) (bC q2) (ho.dj (ren k1) (ren k2) o1 o2 bb (hl _ _ q1) (hl _ _ q2) q3 q4)
  cases this;rfl
 ·cases e1
theorem NA(htt:cn P tt=true)(hdr:∀an,MW P (DR an))(an:Ann){f:FuncId}{fn:Func}{c:Code}{fresh:Bool}{args:List AV}{os:List (Nat×Ob)}{β:Type}{R:β→Prop}{r:β→AV}{L:β→List (Nat×Ob)}
  (hf:P.funcs[f]? = some fn) (hb:fn.body=some c) (hok:cI P f) (hn:Nat.ble args.length fn.ntmps=true)
  (h:nq P tt an (tN P tt an DR) fn c fresh args os fun ae os'=>∃y,R y∧(∃r0,ae=.ret r0∧AV.le r0 (r y))∧∃ren:Nat→Nat,lv ren (L y)=true∧∀p∈L y,look os' (ren p.1)=some p.2) :
  ACalls P f args os fun ae os'=>∃y,R y∧ae=.ret (r y)∧os'=L y :=
 ACalls.keepR (jY htt hdr an hf hb hok hn h)
theorem CallG.own{f:FuncId}{args:List AV}{ob:List (Nat×Ob)}{K:AV→List (Nat×Ob)→Prop}{Kp:D→List (Nat×Ob)→Prop}{args':List AV}{os:List (Nat×Ob)}{β:Type}{R:β→Prop}{r:β→AV}{L:β→List (Nat×Ob)}
  (h:ACalls P f args' os fun ae os'=>∃y,R y∧ae=.ret (r y)∧os'=L y) (ren:Nat→Nat) (rest:List (Nat×Ob)) (r':β→AV) (ob2:β→List (Nat×Ob)) (ha:All2 AV.le args args') (hos:inO ren ob os) (hf:lv ren os=true)
  (hout:uW ren rest os) (hrest:inO id ob rest) (hr:∀y,AV.le (r y) (r' y)) (h2:∀y,js ren (L y)++rest=ob2 y) (kk:∀y,R y→K (r' y) (ob2 y)):CallG P f args ob K Kp :=
 .gen args' os _ ren rest ha (fun k o hk=>aA hos (k,o) (bC hk)) ⟨fun k k' o o' h1 h2 e=>by
   have:=lw hf (k,o) (bC h1) (k',o') (bC h2) e
   cases this;rfl,fun k o hk=>pQ hout (k,o) (bC hk)⟩ (fun k o hk=>aA hrest (k,o) (bC hk)) h
  (by rintro q os' ⟨y,hy,e1,rfl⟩;cases e1;exact⟨r' y,hr y,by rw[h2 y];exact kk y hy⟩) (by rintro d os' ⟨y,_,e1,_⟩;cases e1)
theorem CallG.panic{f:FuncId}{args:List AV}{ob:List (Nat×Ob)}{K:AV→List (Nat×Ob)→Prop}{Kp:D→List (Nat×Ob)→Prop}{args':List AV}{os:List (Nat×Ob)}{β:Type}{R:β→Prop}{d:D}{L:β→List (Nat×Ob)}
  (h:ACalls P f args' os fun ae os'=>∃y,R y∧ae=.pan d∧os'=L y) (ren:Nat→Nat) (rest:List (Nat×Ob)) (ob2:β→List (Nat×Ob)) (ha:All2 AV.le args args') (hos:inO ren ob os) (hf:lv ren os=true)
  (hout:uW ren rest os) (hrest:inO id ob rest) (h2:∀y,js ren (L y)++rest=ob2 y) (kk:∀y,R y→Kp d (ob2 y)):CallG P f args ob K Kp :=
 .gen args' os _ ren rest ha (fun k o hk=>aA hos (k,o) (bC hk)) ⟨fun k k' o o' h1 h2 e=>by
   have:=lw hf (k,o) (bC h1) (k',o') (bC h2) e
   cases this;rfl,fun k o hk=>pQ hout (k,o) (bC hk)⟩ (fun k o hk=>aA hrest (k,o) (bC hk)) h
  (by rintro q os' ⟨y,_,e1,_⟩;cases e1) (by rintro d' os' ⟨y,hy,e1,rfl⟩;cases e1;rw[h2 y];exact kk y hy)
theorem CallG.ownW{f:FuncId}{args:List AV}{ob:List (Nat×Ob)}{K:AV→List (Nat×Ob)→Prop}{Kp:D→List (Nat×Ob)→Prop}{args':List AV}{os:List (Nat×Ob)}{α β:Type}{Q:α→Prop}{R:α→β→Prop}{r:α→β→AV}{L:α→β→List (Nat×Ob)}
  (h:ACalls P f args' os fun ae os'=>∃x,Q x∧∃y,R x y∧ae=.ret (r x y)∧os'=L x y) (ren:Nat→Nat) (rest:List (Nat×Ob)) (r':α→β→AV) (ob2:α→β→List (Nat×Ob)) (ha:All2 AV.le args args') (hos:inO ren ob os) (hf:lv ren os=true)
  (hout:uW ren rest os) (hrest:inO id ob rest) (hr:∀x y,AV.le (r x y) (r' x y)) (h2:∀x y,js ren (L x y)++rest=ob2 x y) (kk:∀x y,Q x→K (r' x y) (ob2 x y)):CallG P f args ob K Kp :=
 CallG.own (β:=α×β) (R:=fun p=>Q p.1) (r:=fun p=>r p.1 p.2) (L:=fun p=>L p.1 p.2) (h.mono (by rintro ae os' ⟨x,hx,y,_,h1,h2⟩;exact⟨(x,y),hx,h1,h2⟩)) ren rest (fun p=>r' p.1 p.2) (fun p=>ob2 p.1 p.2) ha hos hf hout hrest
  (fun p=>hr _ _) (fun p=>h2 _ _) (fun p hp=>kk _ _ hp)
end
section
variable {K V:Type}[DecidableEq K]{eK:K→D}{eV:V→D}
theorem MB{ki:TI}(eK:K→D)(eV:V→D){m:List (K×V)}(h:∀x,gX ki (eK x)=true):∀e∈m.map (fun p=>(eK p.1,eV p.2)),gX ki e.1=true:=by
 intro e he
 obtain⟨p,_,rfl⟩:=List.mem_map.1 he
 exact h p.1
theorem uX(he:∀x y,eU (cellsOf (eK x)) (cellsOf (eK y))=decide (x=y))(m:List (K×V))(k:K):kI (cellsOf (eK k)) (m.map fun p=>(eK p.1,eV p.2))=(Go.Kp.mget m k).map eV:=by
 induction m with
 | nil=>rfl
 | cons p m ih =>
  simp only[List.map_cons,kI,he,Go.Kp.mget,decide_eq_true_eq,ih]
  split<;>rfl
theorem fS(he:∀x y,eU (cellsOf (eK x)) (cellsOf (eK y))=decide (x=y))(m:List (K×V))(k:K)(v:V):NY (cellsOf (eK k)) (eK k) (eV v) (m.map fun p=>(eK p.1,eV p.2))=(Go.Kp.mput m k v).map fun p=>(eK p.1,eV p.2):=by
 induction m with
 | nil=>rfl
 | cons p m ih =>
  simp only[List.map_cons,NY,he,Go.Kp.mput,decide_eq_true_eq,ih]
  split<;>rfl
theorem ji(he:∀x y,eU (cellsOf (eK x)) (cellsOf (eK y))=decide (x=y)){m:List (K×V)}{k:K}{z v:V}{b:Bool}(h:Go.Kp.mgt m k z=some (v,b)):(kI (cellsOf (eK k)) (m.map fun p=>(eK p.1,eV p.2))).getD (eV z)=eV v:=by
 rw[uX he]
 simp only[Go.Kp.mgt,Option.some.injEq,Prod.mk.injEq]at h
 rw[← h.1]
 cases Go.Kp.mget m k<;>rfl
theorem jj(he:∀x y,eU (cellsOf (eK x)) (cellsOf (eK y))=decide (x=y)){m:List (K×V)}{k:K}{z v:V}{b:Bool}(h:Go.Kp.mgt m k z=some (v,b)):(kI (cellsOf (eK k)) (m.map fun p=>(eK p.1,eV p.2))).isSome=b:=by
 rw[uX he]
 simp only[Go.Kp.mgt,Option.some.injEq,Prod.mk.injEq]at h
 rw[← h.2]
 cases Go.Kp.mget m k<;>rfl
end
theorem sQ(b:List UInt8):(b.map fun c=>D.int .u8 (c.toNat:Int))=List.map (fun x=>.int .u8 x) (Go.Kp.bytesI b):=by unfold Go.Kp.bytesI;rw[List.map_map];rfl
theorem nl{a:AV}{K:Prop}(k:K):Need (AV.le a a) K:=.mk (AV.le_refl a) k
theorem no{o:Ob}{K:Prop}(k:K):Need (OLe o o) K:=.mk (OLe.refl o) k
theorem nr{α:Sort _}{a:α}{K:Prop}(k:K):Need (a=a) K:=.mk rfl k
theorem sr{α:Sort _}{a:α}{K:Prop}(k:K):Side (a=a) K:=.mk rfl k
/-! Steps that take their own look at the goal. -/
theorem ws{p:Prop}{α:Sort _}{a:α}{K:Prop}(k:K)(e:p=Side (a=a) K:=by(conv=>lhs;whnf)<;>rfl):p:=e▸sr k
theorem wl{p:Prop}{a:AV}{K:Prop}(k:K)(e:p=Need (AV.le a a) K:=by(conv=>lhs;whnf)<;>rfl):p:=e▸nl k
theorem wb{p K:Prop}(k:K)(e:p=Both K True:=by(conv=>lhs;whnf)<;>rfl):p:=e▸Both.mk k trivial
theorem wB{p q r:Prop}(l:q)(m:r)(e:p=Br q r:=by(conv=>lhs;whnf)<;>rfl):p:=e▸Br.mk l m
end Go.Abs
