/-
 Soundness of the rule for regions that draw their order.
-/
import Derived.Test.YtdodahpkpeodfaaGreatDoorAbsR
set_option linter.all false
open Bool renaming and_eq_true→wH,not_eq_true'→zZ,or_eq_true→Bt
open List renaming all_eq_true→Ce,contains_iff_mem→CR,countP_cons_of_neg→Gg,countP_cons_of_pos→EE
open Option renaming bind_some→Hj,getD_some→Bf,map_some→zn
namespace Go.Abs
open Go
section
variable {P:Program}{tt:TT}{an:Ann}{M M':GM}{s s':St}{a av:Act}{w w':World}
theorem lz(ho:s'.ob=s.ob){k:Nat}{K:Ob→Prop}:obR s' k K=obR s k K:=by unfold obR;rw[ho]
theorem qP(ho:s'.ob=s.ob){i:TI}{x:AV}{K:AV→Prop}:loadR s' i x K=loadR s i x K:=by
 unfold loadR;simp only[lz ho]
theorem rR(ho:s'.ob=s.ob){i:TI}{x:AV}{K:AV→Prop}:lenR s' i x K=lenR s i x K:=by
 unfold lenR;simp only[lz ho]
theorem rS(ho:s'.ob=s.ob){i:TI}{x:AV}{n:Int}{K:AV→Prop}:idxR s' i x n K=idxR s i x n K:=by
 unfold idxR;simp only[lz ho]
theorem iK{α β:Type}{f g:α→β}{l:List α}(h:∀x∈l,f x=g x):bN f l=bN g l:=by
 rw[bY,bY];exact List.map_congr_left h
theorem lA{o:Oper}{K:AV→Prop}(he:∀x∈o.op.operands,s'.eval x=s.eval x)(ho:s'.ob=s.ob):opR tt o s' K=opR tt o s K:=by
 obtain⟨dst,op,ty,pos,after,guard⟩:=o
 cases op<;>simp only[Op.operands]at he<;>simp only[opR]
 case move x=>rw[he x (by simp)]
 case assign x=>rw[he x (by simp)]
 case pick c x y=>rw[he c (by simp),he x (by simp),he y (by simp)]
 case load t x=>rw[he x (by simp)];simp only[qP ho]
 case nilCheck x=>rw[he x (by simp)]
 case binOp op t x y yt=>rw[he x (by simp),he y (by simp)]
 case unOp op t x=>cases op<;>simp only[he x (by simp)]
 case convert t1 t2 x=>rw[he x (by simp)]
 case makeInterface t x=>rw[he x (by simp)]
 case makeFunc fn first caps =>
  have e1:bN s'.eval first.toList=bN s.eval first.toList:=iK fun x hx=>he x (by simp at hx;simp[hx])
  have e2:bN s'.eval caps.toList=bN s.eval caps.toList:=iK fun x hx=>he x (by simp at hx;simp[hx])
  rw[e1,e2]
 case fieldAddr t x f=>rw[he x (by simp)]
 case field t x f=>rw[he x (by simp)]
 case indexAddr t x ix=>rw[he x (by simp),he ix (by simp)];simp only[rS ho]
 case index t x ix=>rw[he x (by simp),he ix (by simp)]
 case extract x n=>rw[he x (by simp)]
 case call c =>
  have e1:bN s'.eval c.args.toList=bN s.eval c.args.toList:=iK fun x hx=>he x (by simp at hx;simp[Call.operands,hx])
  have e2:bN (fun x=>(s'.eval x).toD) c.args.toList=bN (fun x=>(s.eval x).toD) c.args.toList:=iK fun x hx=>by rw[he x (by simp at hx;simp[Call.operands,hx])]
  rw[e1,e2];simp only[rR ho]
/-! Who is ready. -/
theorem pT{ops:Array Oper}{i j:Nat}:aft ops j i=true↔∃o,ops[i]? = some o∧∃e∈o.after,Region.binds .any e=true∧e.on=j:=by
 unfold aft
 split
 ·rename_i o ho
  simp only[Array.any_eq_true',wH,beq_iff_eq,pR]
  constructor
  ·rintro⟨e,h1,h2,h3⟩;exact⟨o,ho,e,h1,h2,h3⟩
  ·rintro⟨o',h0,e,h1,h2,h3⟩;rw[ho]at h0;cases h0;exact⟨e,h1,h2,h3⟩
 ·rename_i ho
  constructor
  ·intro h;cases h
  ·rintro⟨o',h0,_⟩;rw[ho]at h0;cases h0
theorem KE{ops:Array Oper}{L:Array Bool}(hL:L.size=ops.size){i:Nat} :
  i∈Region.ready .any ops L↔i<ops.size∧L.getD i false=false∧∀j,aft ops j i=true→L.getD j false=true:=by
 simp only[Region.ready,List.mem_filter,List.mem_range,wH,zZ]
 constructor
 ·rintro⟨h1,h2,h3⟩
  have e:L.getD i true=L.getD i false:=by simp[Array.getD,hL,h1]
  refine⟨h1,e▸h2,fun j hj=>?_⟩
  obtain⟨o,ho,ed,he1,he2,rfl⟩:=pT.1 hj
  rw[ho]at h3
  simp only[zn,Bf,Array.all_eq_true',Bt,zZ]at h3
  rcases h3 ed he1 with h | h
  ·rw[he2]at h;cases h
  ·exact h
 ·rintro⟨h1,h2,h3⟩
  have e:L.getD i true=L.getD i false:=by simp[Array.getD,hL,h1]
  refine⟨h1,e▸h2,?_⟩
  have ho:ops[i]? = some ops[i]:=by simp[h1]
  rw[ho]
  simp only[zn,Bf,Array.all_eq_true',Bt,zZ]
  intro ed he
  cases hbd:Region.binds .any ed with
  | false=>exact .inl rfl
  | true=>exact .inr (h3 _ (pT.2 ⟨_,ho,ed,he,hbd,rfl⟩))
theorem uZ{ops:Array Oper}(hb:iJ ops=true){i j:Nat}(h:aft ops j i=true):j<i∧i<ops.size:=by
 obtain⟨o,ho,e,he,hbd,rfl⟩:=pT.1 h
 have hi:i<ops.size:=(Array.getElem?_eq_some_iff.1 ho).1
 have:=List.all_eq_true.1 hb i (List.mem_range.2 hi)
 simp only[ho,wH,Array.all_eq_true',Bt,zZ,decide_eq_true_eq]at this
 rcases this.1 e he with h | h
 ·simp[pR,hbd]at h
 ·exact⟨h,hi⟩
theorem OL{ops:Array Oper}(hb:iJ ops=true){i:Nat}{o:Oper}(ho:ops[i]? = some o):(∀cs b,o.op≠.select cs b)∧∀c,o.op≠.defer c:=by
 have hi:i<ops.size:=(Array.getElem?_eq_some_iff.1 ho).1
 have:=List.all_eq_true.1 hb i (List.mem_range.2 hi)
 simp only[ho,wH]at this
 constructor
 ·intro cs b e;rw[e]at this;exact absurd this.2 (by simp)
 ·intro c e;rw[e]at this;exact absurd this.2 (by simp)
theorem iv{L:Array Bool}{i:Nat}(hi:i<L.size)(j:Nat):(L.setIfInBounds i true).getD j false=if j=i then true else L.getD j false:=by
 simp only[Array.getD_eq_getD_getElem?]
 by_cases e:j=i
 ·subst e;simp[hi]
 ·rw[Array.getElem?_setIfInBounds_ne (Ne.symm e)];simp[e]
def left (n:Nat)(L:Array Bool):Nat:=(List.range n).countP fun i=>!L.getD i false
theorem oY{α:Type}{p q:α→Bool}:∀{l:List α},(∀x∈l,q x=true→p x=true)→(∃x∈l,p x=true∧q x=false)→l.countP q<l.countP p
 | [],_,h=>by obtain⟨x,h,_⟩:=h;cases h
 | y::l,h,hx=>by
  have hle:l.countP q≤l.countP p:=List.countP_mono_left fun x hx=>h x (by simp[hx])
  obtain⟨x,hm,h1,h2⟩:=hx
  rcases List.mem_cons.1 hm with rfl | hm
  ·rw[EE h1,Gg (by simp[h2])];omega
  ·have ih:=oY (fun x hx=>h x (by simp[hx])) ⟨x,hm,h1,h2⟩
   by_cases hq:q y=true
   ·rw[EE hq,EE (h y (by simp) hq)];omega
   ·rw[Gg hq]
    by_cases hp:p y=true
    ·rw[EE hp];omega
    ·rw[Gg hp];exact ih
theorem qQ{n:Nat}{L:Array Bool}{i:Nat}(hL:L.size=n)(hi:i<n)(h0:L.getD i false=false):left n (L.setIfInBounds i true)<left n L:=by
 refine oY (fun x _ h=>?_) ⟨i,List.mem_range.2 hi,by simp[h0],by rw[iv (by omega)];simp⟩
 rw[iv (by omega)]at h
 by_cases e:x=i
 ·simp[e]at h
 ·simpa [e]using h
theorem iL{M:GM}{all:Array Oper}{o:Oper}{b:Bool}(hR:Rel M s (bare av) w)(h:cX all o s=some b):Region.wanted o (yielded all av.tmps)=b:=by
 unfold cX at h
 split at h
 ·rename_i hg
  simp at h;subst h;exact me hg
 ·rename_i g want hg
  split at h
  ·rename_i t ht
   have hv:=hR.tm t
   split at h
   ·rename_i c hc
    rw[hc]at hv
    generalize hvt:(bare av).tmps.getD t undef=vt at hv
    cases hv
    rw[show av.tmps=(bare av).tmps from rfl,nt hg ht hvt]
    split at h<;>simp at h<;>subst h
    ·rfl
    ·rfl
    ·rename_i h1 h2
     cases c<;>cases want<;>first | rfl | exact absurd rfl (fun e=>h1 rfl e) | exact absurd rfl (fun e=>h2 rfl e)
   ·rename_i hc
    rw[hc]at hv
    generalize hvt:(bare av).tmps.getD t undef=vt at hv
    cases hv
    simp at h;subst h
    rw[show av.tmps=(bare av).tmps from rfl,oX hg ht hvt]
   ·cases h
  ·cases h
def RV (tt:TT)(all:Array Oper)(s:St)(i:Nat):Prop:=∃o d,all[i]? = some o∧isR o.op=true∧o.dst=some d ∧
 ((cX all o s=some true∧opR tt o s fun y=>AV.le y (s.get d))∨(cX all o s=some false∧s.get d=.un))
theorem kU{ops:Array Oper}{i:Nat}{o:Oper}(ho:ops[i]? = some o):looks ops i=o.looksAt ops:=by unfold looks;rw[ho]
theorem jZ{ops:Array Oper}{o:Oper}{x:Operand}(hx:x∈o.op.operands){t:Nat}(ht:x=.tmp t):t∈o.looksAt ops:=by
 subst ht
 exact List.mem_append_left _ (List.mem_filterMap.2 ⟨.tmp t,by simpa using hx,rfl⟩)
theorem mf{ops:Array Oper}{o:Oper}{g:Nat}{want:Bool}(hg:o.guard=some (g,want)){t:Nat}(ht:kw ops g=some t):t∈o.looksAt ops:=by
 refine List.mem_append_right _ ?_
 rw[jW]at ht
 simp[hg,ht]
theorem L5{ops:Array Oper}{o:Oper}(h:∀t∈o.looksAt ops,s'.get t=s.get t):cX ops o s'=cX ops o s:=by
 unfold cX
 split
 ·rfl
 ·rename_i g want hg
  split
  ·rename_i t ht;rw[h t (mf hg ht)]
  ·rfl
theorem RV.frame{ops:Array Oper}{i d0:Nat}(h:RV tt ops s i)(hd:fI ops i=some d0)(hl:∀t∈looks ops i,s'.get t=s.get t)(hg:s'.get d0=s.get d0)(ho:s'.ob=s.ob):RV tt ops s' i:=by
 obtain⟨o,d,h1,h2,h3,h4⟩:=h
 have hdd:d=d0:=by simp only[fI,h1,Hj,h3,Option.some.injEq]at hd;exact hd
 subst hdd
 rw[kU h1]at hl
 refine⟨o,d,h1,h2,h3,?_⟩
 rw[L5 hl,hg,lA (fun x hx=>ky fun t ht=>hl t (jZ hx ht)) ho]
 exact h4
structure PInv(P:Program)(tt:TT)(ops:Array Oper)(s0:St)(M0:GM)(w0:World)(L V:Array Bool)(pend:List Nat)(s:St)(M:GM)(a av:Act)(w:World):Prop where
 szL:L.size=ops.size
 szV:V.size=ops.size
 sub:∀i,L.getD i false=true→V.getD i false=true
 pd:∀i,V.getD i false=true→L.getD i false=false→i∈pend
 preL:∀i j,L.getD i false=true→aft ops j i=true→L.getD j false=true
 preV:∀i j,V.getD i false=true→aft ops j i=true→V.getD j false=true
 clash:∀j,V.getD j false=true→L.getD j false=false→∀i,i<ops.size→L.getD i false=false→Abs.clash ops j i=false∨aft ops j i=true
 vsz:av.tmps.size=a.tmps.size
 vdf:av.defers=a.defers
 virt:∀t,(∀j,V.getD j false=true→L.getD j false=false→fI ops j≠some t)→av.tmps.getD t undef=a.tmps.getD t undef
 rel:Rel M s (bare av) w
 rv:∀i,V.getD i false=true→L.getD i false=false→RV tt ops s i
 stp:Stp s0.ob M0 w0 s.ob M w
theorem lB{ops:Array Oper}{j i d:Nat}(h:clash ops j i=false)(hd:fI ops j=some d):d∉looks ops i:=by
 unfold clash at h
 rw[hd]at h
 simpa using h
theorem cr{a:Act}{d:Option Nat}{v:Value}{t:Nat}(h:d≠some t):(a.put d v).tmps.getD t undef=a.tmps.getD t undef:=by
 cases d with
 | none=>rfl
 | some d =>
  have:d≠t:=fun e=>h (by rw[e])
  simp only[Act.put,Array.getD_eq_getD_getElem?]
  rw[Array.getElem?_setIfInBounds_ne this]
theorem mg{a a':Act}{d:Nat}{v:Value}(hs:a.tmps.size=a'.tmps.size):(a.put (some d) v).tmps.getD d undef=(a'.put (some d) v).tmps.getD d undef:=by
 simp only[Act.put,Array.getD_eq_getD_getElem?,Array.getElem?_setIfInBounds,hs,if_true]
 all_goals (by_cases e:d<a'.tmps.size<;>simp[e]<;>rw[Array.getElem?_eq_none (by omega),Array.getElem?_eq_none (by omega)])
theorem size_put(a:Act)(d:Option Nat)(v:Value):(a.put d v).tmps.size=a.tmps.size:=by cases d<;>simp[Act.put]
theorem PInv.agree{P:Program}{tt:TT}{ops:Array Oper}{s0:St}{M0:GM}{w0:World}{L V:Array Bool}{pend:List Nat}{s:St}{M:GM}{a av:Act}{w:World}(h:PInv P tt ops s0 M0 w0 L V pend s M a av w)
  {i:Nat} (hi:i∈Region.ready .any ops L) {t:Nat} (ht:t∈looks ops i):av.tmps.getD t undef=a.tmps.getD t undef:=by
 obtain⟨h1,h2,h3⟩:=(KE h.szL).1 hi
 refine h.virt t fun j hj hl e=>?_
 rcases h.clash j hj hl i h1 h2 with hc | hc
 ·exact lB hc e ht
 ·have:=h3 j hc;rw[hl]at this;cases this
theorem PInv.eval{P:Program}{tt:TT}{ops:Array Oper}{s0:St}{M0:GM}{w0:World}{L V:Array Bool}{pend:List Nat}{s:St}{M:GM}{a av:Act}{w:World}(h:PInv P tt ops s0 M0 w0 L V pend s M a av w)(hb:iJ ops=true)
  {i:Nat} (hi:i∈Region.ready .any ops L) {o:Oper} (ho:ops[i]? = some o):execOp a.eval o=execOp av.eval o∧Region.wanted o (yielded ops a.tmps)=Region.wanted o (yielded ops av.tmps):=by
 have key:∀t∈o.looksAt ops,av.tmps[t]? = a.tmps[t]?:=by
  intro t ht
  have:=h.agree hi (by rw[kU ho];exact ht)
  rw[Array.getD_eq_getD_getElem?,Array.getD_eq_getD_getElem?]at this
  by_cases hlt:t<a.tmps.size
  ·have hlt':t<av.tmps.size:=by rw[h.vsz];exact hlt
   simp only[hlt,hlt',Array.getElem?_eq_getElem,Bf]at this ⊢
   rw[this]
  ·have hlt':¬t<av.tmps.size:=by rw[h.vsz];exact hlt
   rw[Array.getElem?_eq_none (Nat.le_of_not_lt hlt'),Array.getElem?_eq_none (Nat.le_of_not_lt hlt)]
 constructor
 ·refine execOp_congr o (OL hb ho).1 fun x hx=>?_
  cases x with
  | tmp t =>
   have:=key t (jZ hx rfl)
   simp only[Act.eval,Array.getD_eq_getD_getElem?,this]
  | _=>rfl
 ·unfold Region.wanted
  cases hg:o.guard with
  | none=>rfl
  | some p =>
   obtain⟨g,want⟩:=p
   have:yielded ops a.tmps g=yielded ops av.tmps g:=by
    unfold yielded
    cases hd:(ops[g]?).bind (·.dst)with
    | none=>rfl
    | some t =>
     simp only[Hj]
     rw[key t (mf hg (by rw[jW];exact hd))]
   show(yielded ops a.tmps g == some want)=(yielded ops av.tmps g == some want)
   rw[this]
theorem u0{rd:Option Nat}{o:Oper}{v:Value}{w1:World}{K:Act→World→Prop}{Q:Exit→Act→World→Prop}(hnd:∀c,o.op≠.defer c)(h:(execOp a.eval o).run P w=.ok (.value v) w1)(hk:K (a.put o.dst v) w1) :
  o.wpIn (FR rd) 0 P a w K Q:=by
 refine⟨fun _ _=>trivial,?_⟩
 rw[Oper.semAt_eq _ _ _ hnd,h]
 exact hk
theorem wpIn_move{rd:Option Nat}{o:Oper}{K:Act→World→Prop}{Q0 Q:Exit→Act→World→Prop}(hnd:∀c,o.op≠.defer c)(he:execOp a.eval o=execOp av.eval o)(h:o.wpIn (FR rd) 0 P av w K Q0)(hK:∀a' w',K a' w'→a'.defers=av.defers)
  (hq:∀e w',Q0 e av w'→Q e a w') (hno:∀a0 w0,¬Q0 .outgrown a0 w0) :
  o.wpIn (FR rd) 0 P a w (fun a' w'=>∃u,a'=a.put o.dst u∧K (av.put o.dst u) w') Q:=by
 refine⟨fun _ _=>trivial,?_⟩
 have h2:=h.2
 rw[Oper.semAt_eq _ _ _ hnd]at h2 ⊢
 rw[he]
 generalize(execOp av.eval o).run P w=r at h2
 unfold Oper.uponIn at h2 ⊢
 split at h2
 ·exact⟨_,rfl,h2⟩
 ·exact⟨_,rfl,h2⟩
 ·have:=hK _ _ h2;rw[put_defers]at this;exact absurd this (by simp)
 ·refine⟨h2.1,h2.2.mono ?_⟩
  intro e w' hh
  cases e with
  | returned v=>exact⟨_,rfl,hh⟩
  | panicked chain=>exact hq _ _ hh
  | outgrown=>obtain⟨_,_,hh⟩:=hh;exact absurd hh (hno _ _)
 ·exact⟨h2.1,h2.2.mono fun _ _ hh=>⟨_,rfl,hh⟩⟩
 ·refine⟨h2.1,h2.2.mono ?_⟩
  intro e w' hh
  cases e with
  | returned v=>exact⟨_,rfl,hh⟩
  | panicked chain=>exact hq _ _ hh
  | outgrown=>obtain⟨_,_,hh⟩:=hh;exact absurd hh (hno _ _)
 ·exact hq _ _ h2
 ·exact h2.elim
theorem Rel.val(hR:Rel M s (bare a) w){d:Nat}{v:Value}(hv:GamA M (s.get d) v):Rel M s (bare (a.put (some d) v)) w:=by
 refine⟨rfl,by show(a.put (some d) v).tmps.size=_;rw[size_put];exact hR.sz,fun t=>?_,hR.ob,hR.rs⟩
 by_cases e:d=t
 ·subst e
  by_cases hlt:d<a.tmps.size
  ·show GamA M _ ((a.put (some d) v).tmps.getD d undef)
   rw[qs a d v d hlt,if_pos rfl];exact hv
  ·have h1:(bare (a.put (some d) v)).tmps.getD d undef=(bare a).tmps.getD d undef:=by
    show(a.put (some d) v).tmps.getD d undef=a.tmps.getD d undef
    simp only[Act.put,Array.getD_eq_getD_getElem?]
    rw[Array.getElem?_eq_none (by simp;omega),Array.getElem?_eq_none (by omega)]
   rw[h1];exact hR.tm d
 ·have h1:(bare (a.put (some d) v)).tmps.getD t undef=(bare a).tmps.getD t undef:=cr (a:=a) (by simpa using e)
  rw[h1];exact hR.tm t
theorem oZ{ops:Array Oper}:∀{l:List Nat} {K:Prop},fT tt ops l s K→(∀i∈l,pS ops i=true→RV tt ops s i)∧K
 | [],K,h=>⟨by simp,h⟩
 | i::l,K,h=>by
  rw[qO]at h
  simp only[f7,Array.getElem?_toList]at h
  split at h
  ·rename_i o ho
   split at h
   ·rename_i d hd
    have fin:(pS ops i=true→RV tt ops s i)→fT tt ops l s K→(∀j∈i::l,pS ops j=true→RV tt ops s j)∧K:=by
     intro h1 h2
     obtain⟨h3,h4⟩:=oZ h2
     refine⟨fun j hj=>?_,h4⟩
     rcases List.mem_cons.1 hj with rfl | hj
     ·exact h1
     ·exact h3 j hj
    have hisr:pS ops i=true→isR o.op=true:=by
     intro h;simp only[pS,ho,wH]at h;exact h.1
    split at h
    ·rename_i hw
     obtain⟨y,⟨hle,hk⟩,hm⟩:=Det.opR _ h
     exact fin (fun hi=>⟨o,d,ho,hisr hi,hd,.inl ⟨hw,hm _ hle⟩⟩) hk
    ·rename_i hw
     exact fin (fun hi=>⟨o,d,ho,hisr hi,hd,.inr ⟨hw,h.l⟩⟩) h.r
    ·exact h.elim
   ·exact h.elim
  ·exact h.elim
theorem lC{ops:Array Oper}{V:Array Bool}{pend acc:List Nat}{i:Nat}{p:Plan}(h:fJ ops V pend acc (.take i p)=true) :
  i∈Region.ready .any ops V∧pS ops i=true∧(∀k,k<ops.size→(V.getD k true=true∧k∉pend)∨clash ops i k=false∨(V.getD k true=false∧k≠i∧aft ops i k=true)) ∧
  (∀k∈pend,fI ops k≠fI ops i)∧fJ ops (V.setIfInBounds i true) (i::pend) [] p=true:=by
 simp only[fJ,wH,Ce,List.mem_range,Bt,zZ,bne_iff_ne,CR]at h
 obtain⟨⟨⟨⟨⟨_,h1⟩,h2⟩,h3⟩,h4⟩,h5⟩:=h
 refine⟨h1,h2,fun k hk=>?_,h4,h5⟩
 rcases h3 k hk with(⟨a,b⟩ | b) | ⟨⟨a,b⟩,c⟩
 ·exact .inl ⟨a,fun hm=>by rw[← CR]at hm;rw[hm]at b;cases b⟩
 ·exact .inr (.inl b)
 ·exact .inr (.inr ⟨a,b,c⟩)
theorem getD_in{L:Array Bool}{n k:Nat}(hL:L.size=n)(hk:k<n)(b:Bool):L.getD k b=L.getD k false:=by simp[Array.getD,hL,hk]
section
variable {Y:YT}{MY:GM}{ops:Array Oper}{s0:St}{M0:GM}{w0:World}{L V:Array Bool}{pend:List Nat}{K:X→St→Prop}{rd:Option Nat}{Q:Exit→Act→World→Prop}{ds:List Deferred}
theorem PInv.take(htt:cn P tt=true)(h:PInv P tt ops s0 M0 w0 L V pend s M a av w){i:Nat}{p:Plan}{acc:List Nat}(hc:fJ ops V pend acc (.take i p)=true)(hr:d7 P tt an Y ops K (.take i p) s) :
  ∃s' av',d7 P tt an Y ops K p s'∧PInv P tt ops s0 M0 w0 L (V.setIfInBounds i true) (i::pend) s' M a av' w:=by
 obtain⟨c1,c2,c3,c4,_⟩:=lC hc
 obtain⟨hi,hv0,hpre⟩:=(KE h.szV).1 c1
 have hL0:L.getD i false=false:=by
  cases hl:L.getD i false with
  | false=>rfl
  | true=>rw[h.sub i hl]at hv0;cases hv0
 have hiV:i<V.size:=by rw[h.szV];exact hi
 have step:∀(o:Oper) (d:Nat) (x:AV) (val:Value),ops[i]? = some o→o.dst=some d→s.put (some d) x (d7 P tt an Y ops K p)→GamA M x val→(∀s':St,s'.get d=x→(∀t,t≠d→s'.get t=s.get t)→s'.ob=s.ob→RV tt ops s' i) →
   ∃s' av',d7 P tt an Y ops K p s'∧PInv P tt ops s0 M0 w0 L (V.setIfInBounds i true) (i::pend) s' M a av' w:=by
  intro o d x val ho hd hput hval hrv
  have hdst:fI ops i=some d:=by simp[fI,ho,hd]
  simp only[St.put,fC]at hput
  obtain⟨s',k1,r1,o1,g1,g2,n1⟩:=h.rel.putN hput hval
  refine⟨s',av.put (some d) val,k1,?_⟩
  have hV':∀j,(V.setIfInBounds i true).getD j false=if j=i then true else V.getD j false:=iv hiV
  refine⟨h.szL,by simp[h.szV],fun j hj=>?_,fun j hj hl=>?_,h.preL,fun j k hj ha=>?_,fun j hj hl k hk hlk=>?_,?_,?_,fun t ht=>?_,by rw[fG];exact r1,fun j hj hl=>?_,o1▸h.stp⟩
  ·rw[hV'];split
   ·rfl
   ·exact h.sub j hj
  ·rw[hV']at hj;split at hj
   ·rename_i e;simp[e]
   ·exact List.mem_cons_of_mem _ (h.pd j hj hl)
  ·rw[hV']at hj ⊢;split
   ·rfl
   ·split at hj
    ·rename_i e;subst e;exact hpre k ha
    ·exact h.preV j k hj ha
  ·rw[hV']at hj
   by_cases e:j=i
   ·subst e
    rcases c3 k hk with⟨q1,q2⟩ | q | ⟨q1,q2,q3⟩
    ·rw[getD_in h.szV hk]at q1
     exact absurd (h.pd k q1 hlk) q2
    ·exact .inl q
    ·exact .inr q3
   ·rw[if_neg e]at hj
    exact h.clash j hj hl k hk hlk
  ·rw[size_put];exact h.vsz
  ·rw[put_defers];exact h.vdf
  ·have hne:d≠t:=fun e=>ht i (by rw[hV'];simp) hL0 (by rw[hdst,e])
   rw[cr (by simpa using hne)]
   exact h.virt t fun j hj hl=>ht j (by rw[hV'];split<;>simp_all) hl
  ·rw[hV']at hj
   by_cases e:j=i
   ·subst e;exact hrv s' g2 g1 o1
   ·rw[if_neg e]at hj
    have hjp:=h.pd j hj hl
    have hrvj:=h.rv j hj hl
    obtain⟨oj,dj,h1,h2,h3,h4⟩:=hrvj
    have hdj:fI ops j=some dj:=by simp[fI,h1,h3]
    have hjlt:j<ops.size:=(Array.getElem?_eq_some_iff.1 h1).1
    have hcj:Abs.clash ops i j=false:=by
     rcases c3 j hjlt with⟨_,q2⟩ | q | ⟨q1,_,_⟩
     ·exact absurd hjp q2
     ·exact q
     ·rw[getD_in h.szV hjlt,hj]at q1;cases q1
    have hnd:d∉looks ops j:=lB hcj hdst
    have hne:dj≠d:=by
     intro e';subst e'
     exact c4 j hjp (by rw[hdj,hdst])
    exact RV.frame ⟨oj,dj,h1,h2,h3,h4⟩ hdj (fun t ht=>g1 t fun e'=>hnd (e'▸ht)) (g1 dj hne) o1
 change(match jr ops.toList i with
   | some o=>match o.dst with
    | some d=>match cX ops o s with
     | some true=>opR tt o s fun y=>s.put (some d) y (d7 P tt an Y ops K p)
     | some false=>s.put (some d) .un (d7 P tt an Y ops K p)
     | none=>False
    | none=>False
   | none=>False)at hr
 simp only[f7,Array.getElem?_toList]at hr
 split at hr
 ·rename_i o ho
  have hisr:isR o.op=true:=by simp only[pS,ho,wH]at c2;exact c2.1
  split at hr
  ·rename_i d hd
   have hnl:d∉looks ops i:=by
    have hcl:Abs.clash ops i i=false:=by
     rcases c3 i hi with⟨q1,_⟩ | q | ⟨_,q,_⟩
     ·rw[getD_in h.szV hi,hv0]at q1;cases q1
     ·exact q
     ·exact absurd rfl q
    exact lB hcl (by simp[fI,ho,hd])
   rw[kU ho]at hnl
   split at hr
   ·rename_i hw
    obtain⟨y,hk,hm⟩:=Det.opR _ hr
    obtain⟨av0,val,hrun,hg,rfl⟩:=NL htt h.rel (hm (fun z=>z=y) rfl)
    refine step o d av0 val ho hd hk hg fun s' q1 q2 q3=>⟨o,d,ho,hisr,hd,.inl ⟨?_,?_⟩⟩
    ·rw[L5 (s:=s) fun t ht=>q2 t fun e=>hnl (e▸ht)];exact hw
    ·rw[lA (s:=s) (fun x hx=>ky fun t ht=>q2 t fun e=>hnl (e▸jZ hx ht)) q3]
     exact hm _ (by rw[q1];exact AV.le_refl _)
   ·rename_i hw
    refine step o d .un undef ho hd hr .un fun s' q1 q2 q3=>⟨o,d,ho,hisr,hd,.inr ⟨?_,q1⟩⟩
    rw[L5 (s:=s) fun t ht=>q2 t fun e=>hnl (e▸ht)];exact hw
   ·exact hr.elim
  ·exact hr.elim
 ·exact hr.elim
theorem PInv.spl(h:PInv P tt ops s0 M0 w0 L V pend s M a av w){t:Nat}{p:Plan}{acc:List Nat}(hc:fJ ops V pend acc (.spl t p)=true)(hr:d7 P tt an Y ops K (.spl t p) s) :
  ∃s',d7 P tt an Y ops K p s'∧PInv P tt ops s0 M0 w0 L V pend s' M a av w:=by
 simp only[fJ,wH,Ce,zZ]at hc
 obtain⟨⟨_,c1⟩,_⟩:=hc
 change(match s.get t with
   | .b _=>d7 P tt an Y ops K p s
   | .un=>d7 P tt an Y ops K p s
   | .d (.bool c)=>Br (c=true→s.putN t (.b true) (d7 P tt an Y ops K p)) (c=false→s.putN t (.b false) (d7 P tt an Y ops K p))
   | _=>False)at hr
 have hv:=h.rel.tm t
 split at hr
 ·exact⟨s,hr,h⟩
 ·exact⟨s,hr,h⟩
 ·rename_i c hcc
  have go:s.putN t (.b c) (d7 P tt an Y ops K p)→∃s',d7 P tt an Y ops K p s'∧PInv P tt ops s0 M0 w0 L V pend s' M a av w:=by
   intro hput
   obtain⟨s',k1,kn,ko,kt,kg,kq⟩:=St.putN_ok hput
   refine⟨s',k1,{h with rel:=⟨rfl,by rw[kn];exact h.rel.sz,fun q=>?_,ko▸h.rel.ob,h.rel.rs⟩,rv:=fun j hj hl=>?_,stp:=ko▸h.stp}⟩
   ·by_cases e:q=t
    ·subst e
     rw[kg]
     rw[hcc]at hv
     generalize(bare av).tmps.getD q undef=vq at hv
     cases hv with | d _ _ hv=>?_
     cases hv;exact .b c
    ·rw[kq q e];exact h.rel.tm q
   ·obtain⟨o,d,h1,h2,h3,h4⟩:=h.rv j hj hl
    have hnl:∀q∈looks ops j,s'.get q=s.get q:=fun q hq=>kq q fun e=>by
     subst e
     have:=c1 j (h.pd j hj hl)
     rw[← Bool.not_eq_true,CR]at this
     exact this hq
    by_cases e:d=t
    ·subst e
     rw[kU h1]at hnl
     rcases h4 with⟨hw,ho⟩ | ⟨hw,ho⟩
     ·refine⟨o,d,h1,h2,h3,.inl ⟨by rw[L5 hnl];exact hw,?_⟩⟩
      rw[lA (s:=s) (fun x hx=>ky fun q hq=>hnl q (jZ hx hq)) ko]
      obtain⟨y,hy,hm⟩:=Det.opR _ ho
      refine hm _ ?_
      rw[kg]
      rw[hcc]at hy
      intro M1 v1 g1
      have:=hy M1 v1 g1
      cases this with | d _ _ this=>?_
      cases this;exact .b c
     ·rw[hcc]at ho;cases ho
    ·exact RV.frame ⟨o,d,h1,h2,h3,h4⟩ (by simp[fI,h1,h3]) hnl (kq d e) ko
  cases c with
  | true=>exact go (hr.l rfl)
  | false=>exact go (hr.r rfl)
 ·exact hr.elim
theorem PInv.pending(htt:cn P tt=true)(hb:iJ ops=true)(h:PInv P tt ops s0 M0 w0 L V pend s M a av w){i:Nat}(hi:i∈Region.ready .any ops L)(hV:V.getD i false=true){KK:Act→World→Prop}
  (hk:∀a' av',a'.defers=a.defers→PInv P tt ops s0 M0 w0 (L.setIfInBounds i true) V pend s M a' av' w→KK a' w):wpOpIn (FR rd) 0 P ops Q i KK a w:=by
 obtain⟨hlt,hl0,hpre⟩:=(KE h.szL).1 hi
 obtain⟨o,d,ho,hR,hd,hcase⟩:=h.rv i hV hl0
 obtain⟨he,hw⟩:=h.eval hb hi ho
 have hiL:i<L.size:=by rw[h.szL];exact hlt
 have hL':=iv hiL
 have step:∀v:Value,GamA M (s.get d) v→KK (a.put o.dst v) w:=by
  intro v hv
  rw[hd]
  refine hk (a.put (some d) v) (av.put (some d) v) (put_defers _ _ _) ⟨by simp[h.szL],h.szV,fun j hj=>?_,fun j hj hl=>?_,fun j k hj ha=>?_,h.preV,fun j hj hl k hk' hlk=>?_,by rw[size_put,size_put];exact h.vsz,by rw[put_defers,put_defers];exact h.vdf,fun t ht=>?_,h.rel.val hv,fun j hj hl=>?_,h.stp⟩
  ·rw[hL']at hj;split at hj
   ·rename_i e;subst e;exact hV
   ·exact h.sub j hj
  ·rw[hL']at hl;split at hl
   ·cases hl
   ·exact h.pd j hj hl
  ·rw[hL']at hj ⊢;split
   ·rfl
   ·split at hj
    ·rename_i e;subst e;exact hpre k ha
    ·exact h.preL j k hj ha
  ·rw[hL']at hl hlk
   split at hl
   ·cases hl
   ·split at hlk
    ·cases hlk
    ·exact h.clash j hj hl k hk' hlk
  ·by_cases e:d=t
   ·subst e;exact mg h.vsz
   ·rw[cr (by simpa using e),cr (by simpa using e)]
    refine h.virt t fun j hj hl=>?_
    by_cases ej:j=i
    ·subst ej;simp[fI,ho,hd];exact e
    ·exact ht j hj (by rw[hL',if_neg ej];exact hl)
  ·rw[hL']at hl;split at hl
   ·cases hl
   ·exact h.rv j hj hl
 unfold wpOpIn
 simp only[ho]
 rcases hcase with⟨hwa,hop⟩ | ⟨hwa,htop⟩
 ·have hw1:=iL (w:=w) h.rel hwa
  rw[if_pos (by rw[hw,hw1])]
  obtain⟨av0,val,hrun,hg,hle⟩:=NL htt h.rel hop
  exact u0 (OL hb ho).2 (by rw[he];exact hrun) (step val (hle M val hg))
 ·have hw1:=iL (w:=w) h.rel hwa
  rw[if_neg (by rw[hw,hw1];simp)]
  exact⟨fun _ _=>trivial,step undef (by rw[htop];exact .un)⟩
theorem u4{ops:Array Oper}(hb:iJ ops=true){L:Array Bool}{i:Nat}(hL:L.size=ops.size)(hpre:∀j k,L.getD j false=true→aft ops k j=true→L.getD k false=true)(hi:∀j,aft ops j i=true→L.getD j false=true)
  (h:sR ops i=true):∀j,j<ops.size→j=i∨L.getD j false=true:=by
 have key:∀(l:List Nat),∀j∈l.foldr (fun j S=>if Nat.beq j i||S.any (fun k=>match ops[k]? with | some o=>o.after.any fun e=>Region.binds .any e&&e.on == j | none=>false)then j::S else S) [],j=i∨L.getD j false=true:=by
  intro l
  induction l with
  | nil=>intro j hj;cases hj
  | cons x l ih =>
   intro j hj
   rw[List.foldr_cons]at hj
   split at hj
   ·rename_i hc
    rcases List.mem_cons.1 hj with e | hj
    ·subst e
     rcases Bt _ _▸hc with e | e
     ·exact .inl (Nat.eq_of_beq_eq_true e)
     ·obtain⟨k,hk,ha⟩:=List.any_eq_true.1 e
      rcases ih k hk with e | e
      ·subst e;exact .inr (hi _ ha)
      ·exact .inr (hpre _ _ e ha)
    ·exact ih j hj
   ·exact ih j hj
 intro j hj
 have:=List.all_eq_true.1 h j (List.mem_range.2 hj)
 exact key _ j (List.contains_iff_mem.1 this)
theorem PInv.alt(htt:cn P tt=true)(hY:YOk P Y rd MY)(hMY:MY.le M0)(hb:iJ ops=true)(h:PInv P tt ops s0 M0 w0 L V pend s M a av w){i:Nat}(hi:i∈Region.ready .any ops L)(hVi:V.getD i false=false){rv:List Nat}(hrv:∀k∈pend,k∈rv∨aft ops k i=true){K1:St→Prop}{Kp:D→St→Prop}
  (hr:match jr ops.toList i with
   | some o=>match cX ops o s with
    | some true=>opY P tt an Y o s (fun s'=>fT tt ops rv s' (K1 s')) (fun d s'=>Side (sR ops i=true) (Kp d s'))
    | some false=>s.put o.dst .un fun s'=>fT tt ops rv s' (K1 s')
    | none=>False
   | none=>False) {KK:Act→World→Prop}
  (hk:∀s' M' a' av' w',K1 s'→a'.defers=a.defers→PInv P tt ops s0 M0 w0 (L.setIfInBounds i true) (V.setIfInBounds i true) (pend.filter fun k=>!aft ops k i) s' M' a' av' w'→KK a' w')
  (hq:∀d v s' M' w',Kp d s'→Gam M' d v→Rel M' s' (bare a) w'→Stp s0.ob M0 w0 s'.ob M' w'→Q (.panic [{v,recovered:=false}]) a w'):wpOpIn (FR rd) 0 P ops Q i KK a w:=by
 obtain⟨hlt,hl0,hpre⟩:=(KE h.szL).1 hi
 have hiL:i<L.size:=by rw[h.szL];exact hlt
 have hiV:i<V.size:=by rw[h.szV];exact hlt
 have hL':=iv hiL
 have hV':=iv hiV
 simp only[f7,Array.getElem?_toList]at hr
 split at hr
 ·rename_i o ho
  obtain⟨he,hw⟩:=h.eval hb hi ho
  have step:∀(s':St) (M':GM) (u:Value) (w':World),fT tt ops rv s' (K1 s')→Rel M' s' (bare (av.put o.dst u)) w'→Stp s.ob M w s'.ob M' w'→KK (a.put o.dst u) w':=by
   intro s' M' u w' hrev hrel hst
   obtain⟨hrvs,hK⟩:=oZ hrev
   refine hk s' M' (a.put o.dst u) (av.put o.dst u) w' hK (put_defers _ _ _) ⟨by simp[h.szL],by simp[h.szV],fun j hj=>?_,fun j hj hl=>?_,fun j k hj ha=>?_,fun j k hj ha=>?_,fun j hj hl k hk' hlk=>?_,by rw[size_put,size_put];exact h.vsz,by rw[put_defers,put_defers];exact h.vdf,fun t ht=>?_,hrel,fun j hj hl=>?_,h.stp.trans hst⟩
   ·rw[hL']at hj;rw[hV'];split
    ·rfl
    ·rename_i e;rw[if_neg e]at hj;exact h.sub j hj
   ·rw[hV']at hj;rw[hL']at hl
    split at hl
    ·cases hl
    ·rename_i e;rw[if_neg e]at hj
     refine List.mem_filter.2 ⟨h.pd j hj hl,?_⟩
     cases ha:aft ops j i with
     | false=>rfl
     | true=>have:=hpre j ha;rw[hl]at this;cases this
   ·rw[hL']at hj ⊢;split
    ·rfl
    ·split at hj
     ·rename_i e;subst e;exact hpre k ha
     ·exact h.preL j k hj ha
   ·rw[hV']at hj ⊢;split
    ·rfl
    ·split at hj
     ·rename_i e;subst e;exact h.sub k (hpre k ha)
     ·exact h.preV j k hj ha
   ·rw[hV']at hj;rw[hL']at hl hlk
    split at hl
    ·cases hl
    ·rename_i e;rw[if_neg e]at hj
     split at hlk
     ·cases hlk
     ·exact h.clash j hj hl k hk' hlk
   ·have other:(∀j,V.getD j false=true→L.getD j false=false→fI ops j≠some t):=by
     intro j hj hl
     by_cases ej:j=i
     ·subst ej;rw[hVi]at hj;cases hj
     ·exact ht j (by rw[hV',if_neg ej];exact hj) (by rw[hL',if_neg ej];exact hl)
    by_cases e:o.dst=some t
    ·rw[e];exact mg h.vsz
    ·rw[cr e,cr e]
     exact h.virt t other
   ·rw[hV']at hj;rw[hL']at hl
    split at hl
    ·cases hl
    ·rename_i e;rw[if_neg e]at hj
     obtain⟨oj,dj,h1,h2,h3,_⟩:=h.rv j hj hl
     rcases hrv j (h.pd j hj hl)with q | q
     ·exact hrvs j q (by simp[pS,h1,h2,h3])
     ·have:=hpre j q;rw[hl]at this;cases this
  unfold wpOpIn
  simp only[ho]
  split at hr
  ·rename_i hwa
   have hw1:=iL (w:=w) h.rel hwa
   rw[if_pos (by rw[hw,hw1])]
   unfold opY at hr
   split at hr
   ·rename_i hy
    have h2:=hY o s _ M av w hy hr (GM.le_trans hMY h.stp.fr.mle) h.rel
    have h3:=wpIn_move (Q:=Q) (OL hb ho).2 he h2 (by rintro a' w' ⟨q,_⟩;exact q) (fun _ _ h=>h.elim) (fun _ _ h=>h.elim)
    refine Oper.wpIn_mono' h3 ?_ fun _ _ _ q=>q
    rintro a' w' ⟨u,rfl,hd,s',M',k1,k2,k3⟩
    exact step s' M' u w' k1 k2 k3
   have h1:=rJ htt h.rel hr
   have h2:=OI (rd:=rd) (a:=av) (OL hb ho).2 (by rintro a' w' ⟨s',M',_,k,_⟩;exact k.df) (by rintro a' w' ⟨d,v,s',M',k,_⟩;cases k) h1
   have h3:=wpIn_move (Q:=Q) (OL hb ho).2 he h2 (by rintro a' w' ⟨q,_⟩;exact q) (by
    rintro e w' ⟨_,d,v,s',M',rfl,k1,k2,k3,k4⟩
    have hall:=u4 hb (L:=L) h.szL h.preL hpre k2.l
    refine hq d v s' M' w' k2.r k1 ⟨rfl,by show a.tmps.size=_;rw[← h.vsz];exact k3.sz,fun t=>?_,k3.ob,k3.rs⟩ (h.stp.trans k4)
    show GamA M' _ (a.tmps.getD t undef)
    rw[← h.virt t fun j hj hl=>by
     have hlt':j<ops.size:=by
      by_cases hlt:j<ops.size
      ·exact hlt
      ·have:V.getD j false=false:=by simp[Array.getD,h.szV,hlt]
       rw[this]at hj;cases hj
     rcases hall j hlt' with e | e
     ·subst e;rw[hVi]at hj;cases hj
     ·rw[e]at hl;cases hl]
    exact k3.tm t) (by rintro a0 w0 ⟨_,d,v,s',M',k,_⟩;cases k)
   refine Oper.wpIn_mono' h3 ?_ fun _ _ _ q=>q
   rintro a' w' ⟨u,rfl,hd,s',M',k1,k2,k3⟩
   exact step s' M' u w' k1 k2 k3
  ·rename_i hwa
   have hw1:=iL (w:=w) h.rel hwa
   rw[if_neg (by rw[hw,hw1];simp)]
   obtain⟨s',k1,k2,k3⟩:=h.rel.put hr .un
   exact⟨fun _ _=>trivial,step s' M undef w k1 (by rw[fG];exact k2) ((Stp.refl _ _ _).ob_eq k3)⟩
  ·exact hr.elim
 ·exact hr.elim
theorem u6:∀{pl:Plan} {acc:List Nat},(acc≠[]∨∃i rv p q,pl=.alt i rv p q)→fJ ops V pend acc pl=true→d7 P tt an Y ops K pl s→∀i∈Region.ready .any ops V,i∉acc →
  ∃rv p,(∀k∈pend,k∈rv∨aft ops k i=true)∧fJ ops (V.setIfInBounds i true) (pend.filter fun k=>!aft ops k i) [] p=true ∧
   (match jr ops.toList i with
   | some o=>match cX ops o s with
    | some true=>opY P tt an Y o s (fun s'=>fT tt ops rv s' (d7 P tt an Y ops K p s')) (fun d s'=>Side (sR ops i=true) (K (.pan d) s'))
    | some false=>s.put o.dst .un fun s'=>fT tt ops rv s' (d7 P tt an Y ops K p s')
    | none=>False
   | none=>False):=by
 intro pl
 induction pl with
 | done=>intro acc ha hc;rcases ha with ha | ⟨_,_,_,_,e⟩;(simp[fJ]at hc;exact absurd hc.1 ha);cases e
 | take i p _=>intro acc ha hc;rcases ha with ha | ⟨_,_,_,_,e⟩;(simp[fJ]at hc;exact absurd hc.1.1.1.1.1 ha);cases e
 | spl t p _=>intro acc ha hc;rcases ha with ha | ⟨_,_,_,_,e⟩;(simp[fJ]at hc;exact absurd hc.1.1 ha);cases e
 | alt j rv p q _ ihq =>
  intro acc _ hc hr i hi hia
  simp only[fJ,wH,Ce,Bt,CR]at hc
  obtain⟨⟨⟨h1,h2⟩,h3⟩,h4⟩:=hc
  have hr:Both _ (d7 P tt an Y ops K q s):=hr
  by_cases e:i=j
  ·subst e
   exact⟨rv,p,h2,h3,hr.l⟩
  ·exact ihq (.inl (by simp)) h4 hr.r i hi (by simp[e,hia])
 | nil =>
  intro acc _ hc _ i hi hia
  simp only[fJ,wH,Ce,CR]at hc
  exact absurd (hc.2 i hi) hia
theorem kz(hb:iJ ops=true)(hL:L.size=ops.size)(h:Region.ready .any ops L=[]):∀i,i<ops.size→L.getD i false=true:=by
 intro i
 induction i using Nat.strongRecOn with
 | ind i ih =>
  intro hi
  cases hl:L.getD i false with
  | true=>rfl
  | false =>
   have:i∈Region.ready .any ops L:=(KE hL).2 ⟨hi,hl,fun j hj=>ih j (uZ hb hj).1 (by have:=uZ hb hj;omega)⟩
   rw[h]at this;cases this
theorem PInv.fin(h:PInv P tt ops s0 M0 w0 L V pend s M a av w)(hall:∀i,i<ops.size→L.getD i false=true):Rel M s (bare a) w:=by
 have hv:∀t,av.tmps.getD t undef=a.tmps.getD t undef:=fun t=>h.virt t fun j hj hl=>by
  by_cases hlt:j<ops.size
  ·rw[hall j hlt]at hl;cases hl
  ·have:V.getD j false=false:=by simp[Array.getD,h.szV,hlt]
   rw[this]at hj;cases hj
 exact⟨rfl,by show a.tmps.size=_;rw[← h.vsz];exact h.rel.sz,fun t=>by
  show GamA M _ (a.tmps.getD t undef)
  rw[← hv];exact h.rel.tm t,h.rel.ob,h.rel.rs⟩
theorem tQ(htt:cn P tt=true)(hY:YOk P Y rd MY)(hMY:MY.le M0)(hb:iJ ops=true)(hQ:∀s M a w,K .nrm s→Rel M s (bare a) w→Stp s0.ob M0 w0 s.ob M w→a.defers=ds→Q .normal a w)
  (hQp:∀d v s M a w,K (.pan d) s→Gam M d v→Rel M s (bare a) w→Stp s0.ob M0 w0 s.ob M w→a.defers=ds→Q (.panic [{v,recovered:=false}]) a w) :
  ∀(fuel:Nat) {pl:Plan} {L V:Array Bool} {pend:List Nat} {s:St} {M:GM} {a av:Act} {w:World},fJ ops V pend [] pl=true→PInv P tt ops s0 M0 w0 L V pend s M a av w→d7 P tt an Y ops K pl s →
   left ops.size L≤fuel→a.defers=ds→wpAnyIn (FR rd) 0 P .any ops Q fuel L a w:=by
 intro fuel
 induction fuel with
 | zero =>
  intro pl
  induction pl with
  | take i p ih =>
   intro L V pend s M a av w hc h hr hf hd
   obtain⟨s',av',k1,k2⟩:=h.take htt hc hr
   exact ih (lC hc).2.2.2.2 k2 k1 hf hd
  | spl t p ih =>
   intro L V pend s M a av w hc h hr hf hd
   obtain⟨s',k1,k2⟩:=h.spl hc hr
   simp only[fJ,wH]at hc
   exact ih hc.2 k2 k1 hf hd
  | done =>
   intro L V pend s M a av w hc h hr hf hd
   have hall:∀i,i<ops.size→L.getD i false=true:=by
    intro i hi
    cases hl:L.getD i false with
    | true=>rfl
    | false =>
     have:0<left ops.size L:=List.countP_pos_iff.2 ⟨i,List.mem_range.2 hi,by simp[hl]⟩
     omega
   refine⟨?_,hQ s M a w hr (h.fin hall) h.stp hd⟩
   refine List.eq_nil_iff_forall_not_mem.2 fun i hi=>?_
   obtain⟨h1,h2,_⟩:=(KE h.szL).1 hi
   rw[hall i h1]at h2;cases h2
  | alt i rv p q _ _ =>
   intro L V pend s M a av w hc h hr hf hd
   exfalso
   simp only[fJ,wH,CR]at hc
   obtain⟨h1,h2,_⟩:=(KE h.szV).1 hc.1.1.1
   cases hl:L.getD i false with
   | true=>rw[h.sub i hl]at h2;cases h2
   | false =>
    have:0<left ops.size L:=List.countP_pos_iff.2 ⟨i,List.mem_range.2 h1,by simp[hl]⟩
    omega
  | nil=>intro L V pend s M a av w hc;simp[fJ]at hc
 | succ fuel ihf =>
  intro pl
  induction pl with
  | take i p ih =>
   intro L V pend s M a av w hc h hr hf hd
   obtain⟨s',av',k1,k2⟩:=h.take htt hc hr
   exact ih (lC hc).2.2.2.2 k2 k1 hf hd
  | spl t p ih =>
   intro L V pend s M a av w hc h hr hf hd
   obtain⟨s',k1,k2⟩:=h.spl hc hr
   simp only[fJ,wH]at hc
   exact ih hc.2 k2 k1 hf hd
  | done =>
   intro L V pend s M a av w hc h hr hf hd
   refine⟨fun hre=>hQ s M a w hr (h.fin (kz hb h.szL hre)) h.stp hd,fun i hi=>?_⟩
   obtain⟨h1,h2,h3⟩:=(KE h.szL).1 hi
   have hVall:V.getD i false=true:=by
    simp only[fJ,wH,List.isEmpty_iff]at hc
    exact kz hb h.szV hc.2 i h1
   refine h.pending htt hb hi hVall fun a' av' hd' h'=>ihf hc h' hr ?_ (hd'.trans hd)
   have:=qQ h.szL h1 h2
   omega
  | alt j rv p q _ _ =>
   intro L V pend s M a av w hc h hr hf hd
   refine⟨fun hre=>?_,fun i hi=>?_⟩
   ·exfalso
    simp only[fJ,wH,CR]at hc
    obtain⟨h1,h2,_⟩:=(KE h.szV).1 hc.1.1.1
    have:=h.sub j (kz hb h.szL hre j h1)
    rw[h2]at this;cases this
   ·obtain⟨h1,h2,h3⟩:=(KE h.szL).1 hi
    have hlt:=qQ h.szL h1 h2
    cases hV:V.getD i false with
    | true=>exact h.pending htt hb hi hV fun a' av' hd' h'=>ihf hc h' hr (by omega) (hd'.trans hd)
    | false =>
     have hiV:i∈Region.ready .any ops V:=(KE h.szV).2 ⟨h1,hV,fun k hk=>h.sub k (h3 k hk)⟩
     obtain⟨rv',p',q1,q2,q3⟩:=u6 (.inr ⟨j,rv,p,q,rfl⟩) hc hr i hiV (by simp)
     exact h.alt htt hY hMY hb hi hV q1 q3 (fun s' M' a' av' w' k1 hd' h'=>ihf q2 h' k1 (by omega) (hd'.trans hd)) fun d v s' M' w' k1 k2 k3 k4=>hQp d v s' M' a w' k1 k2 k3 k4 hd
  | nil=>intro L V pend s M a av w hc;simp[fJ]at hc
end
theorem wU(htt:cn P tt=true)(hm:P.follows .mixedOrders=true):MW P (drR P tt an):=by
 rintro Y rd MY hY id ops s K M a w n0 ⟨pl,hok,hr⟩ hMY hn hR hk
 simp only[uY,wH]at hok
 refine wpIn_region_any hm ?_
 obtain⟨r1,p1⟩:=hR.upd0 (M':=M) (w':={w with drawn:=w.drawn+1}) ⟨rfl,rfl,rfl,Nat.le_refl _,fun _ _ _=>rfl,M.le_refl,fun _ _ _ _=>rfl,fun _ _ _=>rfl⟩
  ⟨fun b o v e=>hR.rs.c b o v e,fun b x e=>hR.rs.m b x e,hR.rs.t⟩
 have hzero:∀j,(Array.replicate ops.size false).getD j false=false:=by intro j;simp[Array.getD]
 refine tQ (rd:=rd) (K:=K) (s0:=s) (M0:=M) (w0:=w) (ds:=a.defers) htt hY hMY hok.1 (fun s' M' a' w' h1 h2 h3 h4=>⟨.nrm,s',M',h1,.nrm,h2,h3,h4▸hk.stp h3⟩) (fun d v s' M' a' w' h1 h2 h3 h4 h5=>⟨.pan d,s',M',h1,.pan d v h2,h3,h4,h5▸hk.stp h4⟩) ops.size (pend:=[]) (M:=M) (av:=a) hok.2 ?_ hr ?_ rfl
 ·refine⟨by simp,by simp,fun i hi=>?_,fun i hi=>?_,fun i j hi=>?_,fun i j hi=>?_,fun j hj=>?_,rfl,rfl,fun _ _=>rfl,r1,fun i hi=>?_,p1⟩<;>first | (rw[hzero]at hi;cases hi) | (rw[hzero]at hj;cases hj)
 ·exact Nat.le_trans List.countP_le_length (by simp)
end
end Go.Abs
