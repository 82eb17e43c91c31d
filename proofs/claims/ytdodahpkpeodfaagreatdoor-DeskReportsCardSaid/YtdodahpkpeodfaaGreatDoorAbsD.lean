/-
 Soundness, first part: tries, states, values, the operations that only read.
-/
import Derived.Test.YtdodahpkpeodfaaGreatDoorAbsC
set_option linter.all false
open Nat renaming eq_of_beq_eq_true→Ik,mod→An,mod_two_eq_zero_or_one→E3
namespace Go.Abs
open Go
theorem T.get_e{α:Type}(f p:Nat):T.get f (.e:T α) p=none:=by cases f<;>rfl
theorem T.put_ok{α:Type}{x:α}:∀{f:Nat} {t:T α} {p:Nat} {K:T α→Prop},T.put x f t p K →
  ∃t',K t'∧T.get f t' p=some x∧∀q,q≠p→T.get f t' q=T.get f t q
 | 0,_,_,_,h=>by simp[T.put_zero]at h
 | f+1,t,p,K,h=>by
  have key:∀(l r:T α) (v:Option α) (g:T α),(∀q,T.get (f+1) g q=T.get (f+1) (.n l v r) q) →
    (match p with
     | 0=>K (.n l (some x) r)
     | q+1=>match An q 2 with
      | 0=>T.put x f l (Nat.div q 2) fun l'=>K (.n l' v r)
      | _=>T.put x f r (Nat.div q 2) fun r'=>K (.n l v r')) →
    ∃t',K t'∧T.get (f+1) t' p=some x∧∀q,q≠p→T.get (f+1) t' q=T.get (f+1) g q:=by
   intro l r v g hg h
   cases p with
   | zero =>
    refine⟨_,h,rfl,fun q hq=>?_⟩
    rw[hg]
    cases q with
    | zero=>exact absurd rfl hq
    | succ q=>rfl
   | succ p =>
    simp only at h
    rcases E3 p with e | e
    ·have e':An p 2=0:=e
     simp only[e']at h
     obtain⟨t',hk,h1,h2⟩:=T.put_ok h
     refine⟨_,hk,by simp[T.get_succ,e',h1],fun q hq=>?_⟩
     rw[hg]
     cases q with
     | zero=>rfl
     | succ q =>
      rcases E3 q with eq | eq
      ·have eq':An q 2=0:=eq
       simp only[T.get_succ,eq']
       exact h2 _ (fun c=>hq (by have:q / 2=p / 2:=c;omega))
      ·have eq':An q 2=1:=eq
       simp[T.get_succ,eq']
    ·have e':An p 2=1:=e
     simp only[e']at h
     obtain⟨t',hk,h1,h2⟩:=T.put_ok h
     refine⟨_,hk,by simp[T.get_succ,e',h1],fun q hq=>?_⟩
     rw[hg]
     cases q with
     | zero=>rfl
     | succ q =>
      rcases E3 q with eq | eq
      ·have eq':An q 2=0:=eq
       simp[T.get_succ,eq']
      ·have eq':An q 2=1:=eq
       simp only[T.get_succ,eq']
       exact h2 _ (fun c=>hq (by have:q / 2=p / 2:=c;omega))
  cases t with
  | e =>
   refine key .e .e none .e (fun q=>?_) ?_
   ·cases q with
    | zero=>rfl
    | succ q =>
     rcases E3 q with eq | eq
     ·have eq':An q 2=0:=eq
      simp[T.get_succ,eq',T.get_e]
     ·have eq':An q 2=1:=eq
      simp[T.get_succ,eq',T.get_e]
   ·cases p with
    | zero=>exact h
    | succ p=>exact h
  | n l v r=>exact key l r v _ (fun _=>rfl) (by cases p<;>exact h)
theorem mQ{α:Type}{x:α}:∀{l:List (Nat×α)} {k:Nat} {K:List (Nat×α)→Prop},sZ x l k K→∃l',K l'∧look l' k=some x∧∀j,j≠k→look l' j=look l j
 | [],k,K,h=>⟨_,h,by simp[aT],fun j hj=>by
   have:Nat.beq k j=false:=by rw[← Bool.not_eq_true];exact fun e=>hj (Ik e).symm
   simp[aT,look_nil,this]⟩
 | (j,y)::r,k,K,h=>by
  simp only[O8]at h
  split at h
  ·rename_i e
   have:=Ik e
   subst this
   refine⟨_,h,by simp[aT],fun i hi=>?_⟩
   have:Nat.beq j i=false:=by rw[← Bool.not_eq_true];exact fun e=>hi (Ik e).symm
   simp[aT,this]
  ·rename_i e
   obtain⟨l',hk,h1,h2⟩:=mQ h
   refine⟨_,hk,by simp[aT,e,h1],fun i hi=>?_⟩
   simp only[aT]
   split
   ·rfl
   ·exact h2 i hi
theorem aU{α:Type}:∀(l:List α) (K:List α→Prop),force l K↔K l
 | [],_=>Iff.rfl
 | x::r,K=>by simp only[ry];exact aU r _
theorem nc(n:Nat)(K:Nat→Prop):∀l:List Nat,pm l n K↔K n
 | []=>Iff.rfl
 | k::r=>by
  simp only[ql]
  split
  ·rename_i e;rw[Ik e]
  ·exact nc n K r
theorem MP(n:Nat)(K:Nat→Prop):mX n K↔K n:=nc n K _
theorem fC(v:AV)(K:AV→Prop):kH v K↔K v:=by
 unfold kH
 split
 ·split<;>simp only[aU]<;>exact Iff.rfl
 ·split<;>exact Iff.rfl
 ·unfold ur;split<;>simp only[MP]
 ·simp only[MP]
 ·simp only[MP]
 ·simp only[aU]
 ·exact Iff.rfl
theorem St.putN_ok{s:St}{t:Nat}{v:AV}{K:St→Prop}(h:s.putN t v K) :
  ∃s',K s'∧s'.n=s.n∧s'.ob=s.ob∧t<s.n∧s'.get t=v∧∀q,q≠t→s'.get q=s.get q:=by
 obtain⟨n,tm,ob⟩:=s
 simp only[St.putN]at h
 split at h
 ·rename_i e
  obtain⟨t',hk,h1,h2⟩:=T.put_ok h
  refine⟨_,hk,rfl,rfl,Nat.le_of_ble_eq_true e,by simp[St.get,h1],fun q hq=>by simp[St.get,h2 q hq]⟩
 ·exact h.elim
theorem St.setO_ok{s:St}{k:Nat}{o:Ob}{K:St→Prop}(h:s.setO k o K) :
  ∃s',K s'∧s'.n=s.n∧(∀q,s'.get q=s.get q)∧look s'.ob k=some o∧∀j,j≠k→look s'.ob j=look s.ob j:=by
 obtain⟨n,tm,ob⟩:=s
 simp only[St.setO]at h
 obtain⟨l',hk,h1,h2⟩:=mQ h
 exact⟨_,hk,rfl,fun _=>rfl,h1,h2⟩
theorem qs(a:Act)(t:Nat)(v:Value)(q:Nat)(ht:t<a.tmps.size):(a.put (some t) v).tmps.getD q undef=if q=t then v else a.tmps.getD q undef:=by
 simp only[Act.put,Array.getD_eq_getD_getElem?]
 by_cases e:q=t
 ·subst e;simp[ht]
 ·rw[Array.getElem?_setIfInBounds_ne (Ne.symm e)];simp[e]
theorem Rel.putN{M:GM}{s:St}{a:Act}{w:World}(hR:Rel M s a w){t:Nat}{v:AV}{val:Value}{K:St→Prop}(h:s.putN t v K)(hv:GamA M v val) :
  ∃s',K s'∧Rel M s' (a.put (some t) val) w∧s'.ob=s.ob∧(∀q,q≠t→s'.get q=s.get q)∧s'.get t=v∧s'.n=s.n:=by
 obtain⟨s',hk,hn,ho,ht,hg,hq⟩:=St.putN_ok h
 refine⟨s',hk,⟨hR.df,?_,fun q=>?_,ho▸hR.ob,hR.rs⟩,ho,hq,hg,hn⟩
 ·simp[Act.put,hR.sz,hn]
 ·rw[qs a t val q (hR.sz▸ht)]
  by_cases e:q=t
  ·subst e;rw[if_pos rfl,hg];exact hv
  ·rw[if_neg e,hq q e];exact hR.tm q
theorem Rel.put{M:GM}{s:St}{a:Act}{w:World}(hR:Rel M s a w){dst:Option Nat}{v:AV}{val:Value}{K:St→Prop}(h:s.put dst v K)(hv:GamA M v val) :
  ∃s',K s'∧Rel M s' (a.put dst val) w∧s'.ob=s.ob:=by
 cases dst with
 | none=>exact⟨s,h,hR,rfl⟩
 | some t =>
  simp only[St.put,fC]at h
  obtain⟨s',hk,hr,ho,_⟩:=hR.putN h hv
  exact⟨s',hk,hr,ho⟩
theorem rD(M:GM)(v:Value):GamA M (pn v) v:=by
 unfold pn
 split<;>first | exact .i _ _ | exact .b _ | exact .d _ _ (.str _ _ rfl) | exact .nils _ | exact .d _ _ .nilptr | exact .d _ _ .nilfn | exact .d _ _ .nilifc | exact .d _ _ .nilmp | exact .top _
theorem Rel.eval{M:GM}{s:St}{a:Act}{w:World}(hR:Rel M s a w)(x:Operand):GamA M (s.eval x) (a.eval x):=by
 cases x with
 | tmp t=>exact hR.tm t
 | const v=>exact rD M v
 | global g=>exact .top _
 | func f=>exact .d _ _ (.fn _ _ _ [] [] rfl (by simp) rfl (by simp))
theorem aM{M:GM}{v:AV}{val:Value}(h:GamA M v val):GamA M v.toD val:=by
 cases h<;>first | exact .d _ _ (.bool _) | exact .d _ _ (.int _ _) | (simp only[AV.toD];exact .d _ _ (by assumption)) | (simp only[AV.toD];constructor<;>assumption)
theorem aq{P:Program}{tt:TT}(htt:cn P tt=true){t:Nat}{K:TI→Prop}(h:aE tt t K):∃i,aX P t i=true∧K i:=by
 unfold aE at h
 split at h
 ·rename_i i hi;exact⟨i,vQ htt hi,h⟩
 ·exact h.elim
theorem mR{P:Program}{tt:TT}(htt:cn P tt=true){t:Nat}{M:GM}{v:AV}{val:Value}{K:AV→Prop}(h:mA tt t v K)(hv:GamA M v val):∃v',K v'∧GamA M v' val:=by
 unfold mA at h
 split at h
 ·obtain⟨i,_,hk⟩:=aq htt h
  cases hv
  exact⟨_,hk,.nils _⟩
 ·exact⟨_,h,hv⟩
def valOf(agg:Bool)(vals:List Value):Value:=if agg then .agg ⟨vals⟩else vals.headD undef
theorem wN{M:GM}{v:AV}{d:D}{val:Value}(h:v.asD? = some d)(hv:GamA M v val):Gam M d val:=by
 unfold AV.asD? at h
 split at h<;>(first | cases h | skip)<;>cases hv<;>first | assumption | exact .bool _ | exact .int _ _ | exact .nils _
theorem Mz{M:GM}:∀{l:List AV} {ds:List D} {vals:List Value},lj l=some ds→All2 (GamA M) l vals→All2 (Gam M) ds vals
 | [],ds,vals,h,k=>by simp[ut]at h;subst h;rw[k.inv_nil];exact .nil
 | x::r,ds,vals,h,k=>by
  obtain⟨v,vs,rfl,hv,ht⟩:=k.inv
  rw[tc]at h
  split at h
  ·rename_i d hd
   split at h
   ·rename_i l hl
    simp at h;subst h
    exact .cons (wN hd hv) (Mz hl ht)
   ·cases h
  ·cases h
theorem wO{M:GM}{v:AV}{d:D}{val:Value}(h:v.asS? = some d)(hv:GamA M v val):Gam M d val:=by
 unfold AV.asS? at h
 split at h<;>(first | cases h | skip)<;>cases hv<;>first | assumption | exact .bool _ | exact .int _ _
theorem pC{M:GM}:∀{l:List AV} {ds:List D} {vals:List Value},tf l=some ds→All2 (GamA M) l vals→All2 (Gam M) ds vals
 | [],ds,vals,h,k=>by simp[uu]at h;subst h;rw[k.inv_nil];exact .nil
 | x::r,ds,vals,h,k=>by
  obtain⟨v,vs,rfl,hv,ht⟩:=k.inv
  rw[tg]at h
  split at h
  ·rename_i d hd
   split at h
   ·rename_i l hl
    simp at h;subst h
    exact .cons (wO hd hv) (pC hl ht)
   ·cases h
  ·cases h
theorem kK{M:GM}{i:TI}{l:List AV}{vals:List Value}{K:AV→Prop}(h:mkVal i l K)(hl:All2 (GamA M) l vals)(h1:∀v∈vals,v.oneCell'=true) :
  ∃av,K av∧GamA M av (valOf i.k.isAgg vals):=by
 unfold mkVal at h
 split at h
 ·rename_i e
  split at h
  ·rename_i ds hds
   have:=pC hds hl
   exact⟨_,h,by rw[valOf,if_pos e];exact .d _ _ (.agg _ _ this.1 this.2 h1)⟩
  ·rw[aU]at h
   exact⟨_,h,by rw[valOf,if_pos e];exact .agg _ _ hl.1 hl.2 h1⟩
 ·rename_i e
  split at h
  ·obtain⟨v,vs,rfl,hv,ht⟩:=hl.inv
   exact⟨_,h,by rw[valOf,if_neg (by simp[e])];exact hv⟩
  ·exact h.elim
theorem qt{P:Program}{i:TI}{d:TypeDesc}(h:fR P i d=true):(match d with | .struct _ | .array _ _=>true | _=>false)=i.k.isAgg:=by
 cases d<;>simp only[fR]at h<;>(try (cases h;done))<;>split at h<;>first | (cases h;done) | (rename_i e;simp[e,TK.isAgg])
theorem oQ{P:Program}{t:TypeId}{i:TI}(h:aX P t i=true)(w:World):(isAgg t).run P w=.ok i.k.isAgg w:=by
 obtain⟨inf,d,h1,h2,_,_,h3,_⟩:=aB h
 have:=qt h3
 rw[← this]
 unfold isAgg
 rw[Sem.run_bind,run_underlying h2 w]
 cases d<;>rfl
theorem run_sizeOf{P:Program}{t:TypeId}{i:TI}(h:aX P t i=true)(w:World):(sizeOf t).run P w=.ok i.size w:=by
 obtain⟨inf,d,h1,h2,h3,_⟩:=aB h
 simp[sizeOf,typeInfo,h1,h3]
theorem aQ{P:Program}{t:TypeId}(h:0<P.cellsOf t)(w:World):(sizeOf t).run P w=.ok (P.cellsOf t) w:=by
 cases hi:P.info? t with
 | none=>simp[Program.cellsOf,hi]at h
 | some inf=>simp[sizeOf,typeInfo,hi,Program.cellsOf]
theorem addr_add(b o n:Nat):(⟨b,o,none⟩:Addr).add n=⟨b,o+n,none⟩:=by unfold Addr.add;split<;>simp_all
theorem f9{P:Program}{t:TypeId}{i:TI}(hi:aX P t i=true){w:World}{b o:Nat}{vals:List Value}(hl:vals.length=i.size)(hagg:i.k.isAgg=false→i.size=1)
  (hc:∀j v,vals[j]? = some v→w.cell? ⟨b,o+j,none⟩=some v):(loadVar t ⟨b,o,none⟩).run P w=.ok (valOf i.k.isAgg vals) w:=by
 unfold loadVar
 rw[Sem.run_bind,oQ hi]
 simp only[Result.andThen_ok]
 cases hag:i.k.isAgg with
 | true =>
  have h2:=run_loadCells_list (P:=P) w ⟨b,o,none⟩ vals (fun j v hv=>by rw[addr_add];exact hc j v hv)
  rw[hl]at h2
  simp[run_sizeOf hi,h2,valOf]
 | false =>
  have h1:=hagg hag
  match vals,hl with
  | [v],_ =>
   have:=hc 0 v rfl
   simp only[Nat.add_zero]at this
   simp[run_load,this,valOf]
  | [],hl=>simp at hl;omega
  | _::_::_,hl=>simp at hl;omega
theorem kL{P:Program}{t:TypeId}{i:TI}(_h:aX P t i=true){l:List AV}{K:AV→Prop}(h:mkVal i l K)(hl:l.length=i.size):i.k.isAgg=false→i.size=1:=by
 intro e
 simp only[mkVal,e]at h
 split at h
 ·simpa using hl.symm
 ·exact h.elim
theorem LG{M:GM}{ds:List D}{vals:List Value}(h:All2 (Gam M) ds vals):All2 (GamA M) (ds.map .d) vals:=h.map _ fun _ _ k=>.d _ _ k
theorem uE{d:D}{v:Value}(h:iD d v=true)(M:GM):GamA M (zAV d) v:=by
 unfold zAV
 split
 ·have:v=.slice none 0 0:=by unfold iD at h;split at h<;>simp_all
  subst this;exact .nils _
 ·exact .d _ _ (m0 h M).1
theorem ln:∀{ds:List D} {vs:List Value},bF ds vs=true→∀M:GM,All2 (GamA M) (ds.map zAV) vs
 | [],[],_,M=>.nil
 | d::ds,v::vs,h,M=>by
  simp only[bF,Bool.and_eq_true]at h
  exact .cons (uE h.1 M) (ln h.2 M)
 | [],_::_,h,_=>by simp[bF]at h
 | _::_,[],h,_=>by simp[bF]at h
end Go.Abs
