/-
 Soundness, third part: fields, elements, arithmetic; all operations that only read together (opR_ok).
-/
import Derived.Test.YtdodahpkpeodfaaGreatDoorAbsE
import Derived.Laws.Small
set_option linter.all false
open Bool renaming and_eq_true→wH,not_eq_true'→zZ
open Int renaming natCast_nonneg→JH,toNat_natCast→JD
open List renaming flatMap_cons→yZ,getElem?_map→Jr
open Nat renaming add_assoc→Bb
open Option renaming map_eq_some_iff→BH
namespace Go.Abs
open Go
section
variable {P:Program}{tt:TT}{M:GM}{s:St}{a:Act}{w:World}
theorem qv{d:D}{b off:Nat}{vf:Nat→Value}(hm:∀(i:Nat) c,(cellsOf d)[i]? = some c→M.c b (off+i)=some (vf i))
  (hg:∀(i:Nat) c,(cellsOf d)[i]? = some c→Gam M c (vf i)) (h1:∀(i:Nat) c,(cellsOf d)[i]? = some c→(vf i).oneCell'=true) (fo fs:Nat) :
  GamA M (.d (.ref (.agg (((cellsOf d).drop fo).take fs)))) (.pointer (some ⟨b,off+fo,none⟩)):=by
 have key:∀(i:Nat) c,(((cellsOf d).drop fo).take fs)[i]? = some c→(cellsOf d)[fo+i]? = some c:=by
  intro i c h
  rw[List.getElem?_take]at h
  split at h
  ·rwa[List.getElem?_drop]at h
  ·cases h
 refine .d _ _ (.ref _ b (off+fo) (fun i=>vf (fo+i)) (fun i c h=>?_) (fun i c h=>hg _ _ (key i c h)) (fun i c h=>h1 _ _ (key i c h)))
 rw[Bb];exact hm _ _ (key i c h)
theorem oR{i:TI}{l:List (Nat×Nat)}{d:TypeDesc}(h:fR P i d=true)(hk:i.k=.struct l) :
  ∃fs,d=.struct fs∧fs.toList.map (fun f=>(f.offset,P.cellsOf f.type))=l∧∀p∈l,0<p.2∧p.1+p.2≤i.size:=by
 cases d<;>simp[fR,hk]at h
 rename_i fs
 exact⟨fs,rfl,h.1.1,fun p hp=>h.1.2 p.1 p.2 hp⟩
theorem rE{i:TI}{l:List (Nat×Nat)}{d:TypeDesc}(h:fR P i d=true)(hk:i.k=.struct l) :
  ∃fs,d=.struct fs∧fs.toList.map (fun f=>(f.offset,P.cellsOf f.type))=l∧fs.toList.map (fun f=>f.type)=i.ft:=by
 cases d<;>simp[fR,hk]at h
 rename_i fs
 exact⟨fs,rfl,h.1.1,h.2⟩
theorem bH{i:TI}{e:Nat}{d:TypeDesc}(h:fR P i d=true)(hk:i.k=.slice e):d=.slice e∧P.cellsOf e=i.esz∧0<i.esz:=by
 cases d<;>simp[fR,hk]at h
 obtain⟨⟨rfl,h1⟩,h2⟩:=h
 exact⟨rfl,h1,h2⟩
theorem ip{i:TI}{n e:Nat}{d:TypeDesc}(h:fR P i d=true)(hk:i.k=.array n e):d=.array n e∧P.cellsOf e=i.esz∧0<i.esz∧i.size=n*i.esz:=by
 cases d<;>simp[fR,hk]at h
 obtain⟨⟨⟨⟨rfl,rfl⟩,h1⟩,h2⟩,h3⟩:=h
 exact⟨rfl,h1,h2,h3⟩
theorem Od{i:TI}{k:IntKind}{d:TypeDesc}(h:fR P i d=true)(hk:i.k=.int k):d=.int k:=by
 cases d<;>simp[fR,hk]at h
 rw[h]
theorem d5{i:TI}{d:TypeDesc}(h:fR P i d=true)(hk:i.k=.string):d=.string:=by
 cases d<;>simp[fR,hk]at h
 rfl
theorem ne{i:TI}{l:List (Nat×Nat)}{fs:Array Field}(hl:fs.toList.map (fun f=>(f.offset,P.cellsOf f.type))=l)(hp:∀p∈l,0<p.2∧p.1+p.2≤i.size)
  {f fo sz:Nat} (hf:l[f]? = some (fo,sz)):∃fd,fs[f]? = some fd∧fd.offset=fo∧P.cellsOf fd.type=sz∧0<sz∧∀b o,(fieldPlace ⟨b,o,none⟩ fd).run P w=.ok ⟨b,o+fo,none⟩ w:=by
 subst hl
 simp only[Jr,BH]at hf
 obtain⟨fd,hfd,e⟩:=hf
 simp at e;obtain⟨rfl,rfl⟩:=e
 have h0:=(hp _ (List.mem_map.2 ⟨fd,List.mem_of_getElem? hfd,rfl⟩)).1
 refine⟨fd,by simpa using hfd,rfl,rfl,h0,fun b o=>?_⟩
 simp only at h0
 have:¬P.cellsOf fd.type=0:=by omega
 simp[fieldPlace,aQ h0,this,addr_add]
theorem th{t:TypeId}{i:TI}(hi:aX P t i=true){x:AV}{val:Value}(hx:GamA M x val){f:Nat}{K:AV→Prop}(h:fieldR i x f K) :
  ∃av v,(Instr.fieldAt t val f).run P w=.ok v w∧GamA M av v∧K av:=by
 unfold fieldR at h
 simp only[f7]at h
 split at h
 ·rename_i l hk
  obtain⟨inf,d,_,hd,_,_,htk,_⟩:=aB hi
  obtain⟨fs,rfl,hl,hp⟩:=oR htk hk
  split at h
  ·rename_i fo sz hf
   obtain⟨fd,hfd,_,_,_,hrun⟩:=ne (w:=w) hl hp hf
   have hrun':∀b o,(Instr.fieldAt t (.pointer (some ⟨b,o,none⟩)) f).run P w=.ok (.pointer (some ⟨b,o+fo,none⟩)) w:=by
    intro b o
    simp[Instr.fieldAt,run_underlying hd,hfd,Instr.sureAddr,hrun]
   split at h
   ·cases hx;exact⟨_,_,hrun' _ _,.ptr _ _ _,h⟩
   ·cases hx with | el _ b len cap sz' j o=>?_
    exact⟨_,_,hrun' _ _,by rw[Bb];exact .el _ _ _ _ _ _ _,h⟩
   ·rename_i d
    cases hx with | d _ _ hx=>?_
    cases hx with | ref _ b off vf hm hg h1=>?_
    simp only[partD,aU,mY,mZ]at h
    exact⟨_,_,hrun' _ _,qv hm hg h1 fo sz,h⟩
   ·exact h.elim
  ·exact h.elim
 ·exact h.elim
theorem pE{xs:List D}{sz j:Nat}{x:D}(hsz:∀y∈xs,(cellsOf y).length=sz)(hj:xs[j]? = some x){q:Nat}{c:D}(hq:(cellsOf x)[q]? = some c):(xs.flatMap cellsOf)[j*sz+q]? = some c:=by
 have key:∀(l:List D) (m:Nat),(∀y∈l,(cellsOf y).length=sz)→l[m]? = some x→(l.flatMap cellsOf)[m*sz+q]? = some c:=by
  intro l
  induction l with
  | nil=>intro m _ hm;simp at hm
  | cons y l ih =>
   intro m hl hm
   cases m with
   | zero =>
    simp at hm;subst hm
    simp only[yZ,Nat.zero_mul,Nat.zero_add]
    rw[List.getElem?_append_left (List.getElem?_eq_some_iff.1 hq).1]
    exact hq
   | succ m =>
    simp only[yZ]
    have hy:=hl y (by simp)
    rw[List.getElem?_append_right (by rw[hy,Nat.succ_mul];omega),hy]
    have:(m+1)*sz+q-sz=m*sz+q:=by rw[Nat.succ_mul];omega
    rw[this]
    exact ih m (fun z hz=>hl z (by simp[hz])) (by simpa using hm)
 exact key xs j hsz hj
theorem vY(hR:Rel M s a w){t:TypeId}{i:TI}(hi:aX P t i=true){x:AV}{val:Value}(hx:GamA M x val){k:IntKind}{n:Int}{K:AV→Prop}(h:idxR s i x n K) :
  ∃av v,(Instr.indexAt t val (.int k n)).run P w=.ok v w∧GamA M av v∧K av:=by
 obtain⟨inf,d,_,hd,_,_,htk,_⟩:=aB hi
 unfold idxR at h
 split at h
 ·rename_i len e hk
  obtain⟨rfl,he,hpos,hsz⟩:=ip htk hk
  have hso:=aQ (P:=P) (t:=e) (by omega) w
  obtain⟨j,rfl,h1',h⟩:=h
  have h0:(0:Int)≤(j:Int):=JH j
  have h1:(j:Int)<(len:Int):=by omega
  have hrun:∀b o,(Instr.indexAt t (.pointer (some ⟨b,o,none⟩)) (.int k (j:Int))).run P w=.ok (.pointer (some ⟨b,o+j*i.esz,none⟩)) w:=by
   intro b o
   have h2:((j:Nat):Int).toNat=j:=JD j
   simp[Instr.indexAt,asIntOf,run_underlying hd,Instr.sureAddr,h0,h1,h1',h2,hso,addr_add,he]
  split at h
  ·cases hx;exact⟨_,_,hrun _ _,.ptr _ _ _,h⟩
  ·cases hx
   refine⟨_,_,hrun _ _,?_,h⟩
   rw[Bb]
   exact .el _ _ _ _ _ _ _
  ·rename_i d
   cases hx with | d _ _ hx=>?_
   cases hx with | ref _ b off vf hm hg hone=>?_
   simp only[partD,aU,mY,mZ]at h
   exact⟨_,_,hrun _ _,qv hm hg hone _ _,h⟩
  ·exact h.elim
 ·rename_i e hk
  obtain⟨rfl,he,hpos⟩:=bH htk hk
  have hso:=aQ (P:=P) (t:=e) (by omega) w
  have hrun:∀b o (len cap:Nat),0≤n→n<(len:Int)→(Instr.indexAt t (.slice (some ⟨b,o,none⟩) len cap) (.int k n)).run P w=.ok (.pointer (some ⟨b,o+n.toNat*i.esz,none⟩)) w:=by
   intro b o len cap h0 h1
   simp[Instr.indexAt,asIntOf,run_underlying hd,h0,h1,hso,addr_add,he]
  split at h
  ·rename_i sz xs
   obtain⟨rfl,x,h0,hxn,h⟩:=h
   have hlt:n.toNat<xs.length:=(List.getElem?_eq_some_iff.1 hxn).1
   cases hx with | d _ _ hx=>?_
   cases hx with
   | nils=>simp at hlt
   | listz=>simp at hlt
   | list _ _ b off cap vf hc hs hm hg h1 =>
    refine⟨_,_,hrun _ _ _ _ h0 (by omega),?_,h⟩
    refine .d _ _ (.ref _ b (off+n.toNat*i.esz) (fun q=>vf (n.toNat*i.esz+q)) (fun q c hq=>?_) (fun q c hq=>hg _ _ (pE hs hxn hq)) (fun q c hq=>h1 _ _ (pE hs hxn hq)))
    rw[Bb];exact hm _ _ (pE hs hxn hq)
  ·rename_i kk hdr
   have hq0:=jt hR h;clear h;obtain⟨ob,hlk,hok,h⟩:=hq0
   split at h
   ·rename_i h' e' sz fz xs
    obtain⟨⟨rfl,rfl⟩,⟨h0,h1⟩,h⟩:=h
    cases hx
    obtain⟨vals,hown,_⟩:=hok
    rcases hown.2 with⟨_,e2⟩ | ⟨g,cap,cur,e3,_⟩
    ·omega
    ·simp only[Value.slice.injEq]at e3
     obtain⟨rfl,rfl,rfl⟩:=e3
     refine⟨_,_,hrun _ _ _ _ h0 (by omega),?_,h⟩
     have:=fun c=>GamA.el (M:=M) kk g xs.length c i.esz n.toNat 0
     simpa using this _
   ·rename_i h' e' re rsz hs hole xs
    obtain⟨⟨rfl,h1e⟩,⟨h0,h1⟩,h⟩:=h
    cases hx
    obtain⟨hown,_⟩:=hok
    rcases hown.2 with⟨_,e2⟩ | ⟨g,cap,cur,e3,_⟩
    ·omega
    ·simp only[Value.slice.injEq]at e3
     obtain⟨rfl,rfl,rfl⟩:=e3
     refine⟨_,_,hrun _ _ _ _ h0 (by omega),?_,h⟩
     rw[← h1e]
     have:=fun c=>GamA.el (M:=M) kk g xs.length c 1 n.toNat 0
     simpa using this _
   ·exact h.elim
  ·exact h.elim
 ·exact h.elim
theorem vZ{i:TI}{d:TypeDesc}(h:fR P i d=true)(hk:i.k=.bool):d=.bool:=by
 cases d<;>simp[fR,hk]at h
 rfl
theorem nf(htt:cn P tt=true){t:Nat}{p:Prop}(h:isBoolT tt t p):P.underlying t=some .bool∧p:=by
 obtain⟨i,hi,h⟩:=aq htt h
 obtain⟨inf,d,_,hd,_,_,htk,_⟩:=aB hi
 split at h
 ·rename_i hk
  exact⟨by rw[hd,vZ htk hk],h⟩
 ·exact h.elim
theorem oS{op:BinOp}{t:TypeId}{k:IntKind}{n m c:Int}(hc:pq op n m=some c):(binOp op t (.int k n) (.int k m)).run P w=.ok (.int k (k.wrap c)) w:=by
 unfold pq at hc
 split at hc<;>simp at hc<;>subst hc<;>simp[binOp,Op.intArith]
theorem sG{op:BinOp}{t:TypeId}{k:IntKind}{n m:Int}{c:Bool}(hc:vP op n m=some c):(binOp op t (.int k n) (.int k m)).run P w=.ok (.bool c) w:=by
 unfold vP at hc
 have e1:(n == m)=decide (n=m):=by by_cases e:n=m<;>simp[e]
 split at hc<;>first | (cases hc;done) | (simp only[Option.some.injEq]at hc;subst hc)
 ·simp[binOp,Op.intCmp,e1]
 ·simp[binOp,Op.intCmp,bne,e1]
 ·simp[binOp,Op.intCmp]
 ·simp[binOp,Op.intCmp]
 ·simp[binOp,Op.intCmp]
 ·simp[binOp,Op.intCmp]
theorem qw:∀{ks:List SK} {ds:List D} {vs:List Value},All2 (Gam M) ds vs→io ks ds=true→aN ks vs=true
 | [],[],vs,h,_=>by rw[h.inv_nil];rfl
 | k::ks,d::ds,vs,h,hf=>by
  obtain⟨v,vs',rfl,hv,ht⟩:=h.inv
  simp only[io,aN,wH]at hf ⊢
  refine⟨?_,qw ht hf.2⟩
  have h1:=hf.1
  cases k<;>cases d<;>simp[okD]at h1<;>cases hv<;>simp[SK.ok,h1]
 | [],_::_,_,_,hf=>by simp[io]at hf
 | _::_,[],_,_,hf=>by simp[io]at hf
theorem rF:∀{ks:List SK} {d1 d2:List D} {v1 v2:List Value},All2 (Gam M) d1 v1→All2 (Gam M) d2 v2→io ks d1=true→io ks d2=true→dW v1 v2=eU d1 d2
 | [],[],[],v1,v2,h1,h2,_,_=>by rw[h1.inv_nil,h2.inv_nil];rfl
 | k::ks,a::d1,b::d2,v1,v2,h1,h2,f1,f2=>by
  obtain⟨u,us,rfl,hu,ht⟩:=h1.inv
  obtain⟨v,vs,rfl,hv,ht2⟩:=h2.inv
  simp only[io,wH]at f1 f2
  simp only[dW,eU,rF ht ht2 f1.2 f2.2]
  congr 1
  have g1:=f1.1;have g2:=f2.1
  cases k<;>cases a<;>simp[okD]at g1<;>cases b<;>simp[okD]at g2<;>cases hu<;>cases hv
  ·simp[eqV,eqD];exact decide_eq_decide.2 Iff.rfl
  ·simp[eqV,eqD]
  ·rename_i u1 hp u2 hq
   simp only[eqV,eqD]
   rw[ByteArray.toList_eq,ByteArray.toList_eq,hp,hq,Bool.eq_iff_iff]
   simp only[beq_iff_eq,decide_eq_true_eq]
 | [],_::_,_,_,_,_,_,hf,_=>by simp[io]at hf
 | _::_,[],_,_,_,_,_,hf,_=>by simp[io]at hf
 | [],[],_::_,_,_,_,_,_,hf=>by simp[io]at hf
 | _::_,_::_,[],_,_,_,_,_,hf=>by simp[io]at hf
theorem MG{t:TypeId}{i:TI}(hi:aX P t i=true){x:D}{v:Value}(hx:Gam M x v)(h:gX i x=true) :
  flatK P 50 t=some i.ek∧P.eqGuardType P.depth t=false∧pV P t i.ek v v.cells.toList∧All2 (Gam M) (cellsOf x) v.cells.toList:=by
 simp only[gX,wH,zZ,List.isEmpty_eq_false_iff]at h
 obtain⟨⟨h1,h2⟩,h3⟩:=h
 obtain⟨e1,e2⟩:=vR hi h3
 have hc:All2 (Gam M) (cellsOf x) v.cells.toList:=by
  cases hx with
  | agg cs vs hl hg _=>exact⟨hl,hg⟩
  | _=>exact .cons (by constructor<;>assumption) .nil
 refine⟨e1,e2,⟨?_,qw hc h1⟩,hc⟩
 obtain⟨_,d,_,hd,_,_,htk,_⟩:=aB hi
 have hag:=qt htk
 unfold bP
 rw[hd]
 cases hx with
 | agg cs vs hl hg _ =>
  simp only at h2
  rw[h2]at hag
  cases d<;>simp at hag<;>simp[Value.cells]
 | _ =>
  simp only[zZ]at h2
  rw[h2]at hag
  cases d<;>simp at hag<;>simp[Value.cells]
theorem jT(htt:cn P tt=true){op:BinOp}{t:TypeId}{x y:Operand}{ax ay:AV}{vx vy:Value}(hx:GamA M ax vx)(hy:GamA M ay vy){K:AV→Prop}(h:binD tt op t ax ay K) :
  ∃av v,(do eqGuard op t x y vx vy;binOp op t vx vy:Sem Value).run P w=.ok v w∧GamA M av v∧K av:=by
 have hx:=aM hx
 have hy:=aM hy
 unfold binD at h
 split at h
 ·rename_i k n k' m ex ey
  rw[ex]at hx;rw[ey]at hy
  cases hx with | d _ _ hx=>?_
  cases hy with | d _ _ hy=>?_
  cases hx;cases hy
  split at h
  ·rename_i c hc
   obtain⟨h0,hk⟩:=h
   refine⟨_,.int k c,?_,.d _ _ (.int _ _),hk⟩
   unfold shI at hc
   split at hc
   ·simp only[Option.some.injEq]at hc
    subst hc
    simp[eqGuard,binOp,Op.shift,show ¬m<0 by omega]
   ·simp only[Option.some.injEq]at hc
    subst hc
    simp[eqGuard,binOp,Op.shift,show ¬m<0 by omega]
   ·cases hc
  split at h
  ·exact h.elim
  ·rename_i e
   have e:=of_decide_eq_true e
   subst e
   rw[eqGuard_at_int]
   split at h
   ·rename_i c hc
    exact⟨_,.int k (k.wrap c),by simpa using oS (t:=t) hc,.d _ _ (.int _ _),h⟩
   split at h
   ·rename_i c hc
    refine⟨_,.int k c,?_,.d _ _ (.int _ _),h⟩
    unfold xe at hc
    split at hc<;>first | (cases hc;done) | (simp only[Option.some.injEq]at hc;subst hc;simp[binOp,Op.intBits])
   ·rename_i hc
    split at h
    ·obtain⟨e0,hk⟩:=h
     refine⟨_,.int k (k.wrap (n.tdiv m)),?_,.d _ _ (.int _ _),hk⟩
     simp[binOp,Op.intDiv,e0]
    ·obtain⟨e0,hk⟩:=h
     refine⟨_,.int k (n.tmod m),?_,.d _ _ (.int _ _),hk⟩
     simp[binOp,Op.intDiv,e0]
    ·split at h
     ·rename_i p hp
      exact⟨_,.bool p,by simpa using sG (t:=t) hp,.d _ _ (.bool _),h⟩
     ·exact h.elim
 ·rename_i p q ex ey
  rw[ex]at hx;rw[ey]at hy
  cases hx with | d _ _ hx=>?_
  cases hy with | d _ _ hy=>?_
  cases hx;cases hy
  rw[eqGuard_at_bool]
  have heq:P.underlying t=some .bool→(Op.equal t (.bool p) (.bool q)).run P w=.ok (p == q) w:=by
   intro hu
   show(Op.equalIn 10000 t (.bool p) (.bool q)).run P w=_
   exact run_equalIn_bool' w 9999 t p q hu
  split at h
  ·obtain⟨hu,h⟩:=nf htt h
   exact⟨_,.bool (p == q),by simp[binOp,heq hu],.d _ _ (.bool _),h⟩
  ·obtain⟨hu,h⟩:=nf htt h
   exact⟨_,.bool (p != q),by simp[binOp,heq hu,bne],.d _ _ (.bool _),h⟩
  ·exact h.elim
 ·rename_i p q ex ey
  rw[ex]at hx;rw[ey]at hy
  cases hx with | d _ _ hx=>?_
  cases hy with | d _ _ hy=>?_
  cases hx with | str _ u hu=>?_
  cases hy with | str _ v hv=>?_
  rw[eqGuard_at_string]
  have e1:u.toList=p:=by rw[ByteArray.toList_eq,hu]
  have e2:v.toList=q:=by rw[ByteArray.toList_eq,hv]
  have e3:(p == q)=decide (p=q):=by by_cases e:p=q<;>simp[e]
  split at h
  ·exact⟨_,.bool (decide (p=q)),by simp[binOp,Op.stringOp,e1,e2,e3],.d _ _ (.bool _),h⟩
  ·exact⟨_,.bool (!decide (p=q)),by simp[binOp,Op.stringOp,e1,e2,e3],.d _ _ (.bool _),h⟩
  ·obtain⟨hn,hk⟩:=h
   have s1:u.size=p.length:=by rw[← hu,Array.length_toList];rfl
   have s2:v.size=q.length:=by rw[← hv,Array.length_toList];rfl
   refine⟨_,.string (u++v),?_,.d _ _ (.str _ _ ?_),hk⟩
   ·have:¬(9223372036854775807<((u.size+v.size:Nat):Int)):=by rw[s1,s2];omega
    simp only[binOp,Op.stringOp,Sem.run_bind,Sem.run_pure,Result.andThen_ok,Go.IntKind.max_i64,gt_iff_lt,this,if_false]
   ·rw[ByteArray.data_append,Array.toList_append,hu,hv]
  ·exact h.elim
 ·rename_i l m ex ey
  rw[ex]at hx;rw[ey]at hy
  cases hx with | d _ _ hx=>?_
  cases hy with | d _ _ hy=>?_
  obtain⟨i,hi,h⟩:=aq htt h
  have go:gX i (.agg l)=true→gX i (.agg m)=true→(∀(op:BinOp),(eqGuard op t x y vx vy).run P w=.ok () w)∧(Op.equalIn 10000 t vx vy).run P w=.ok (eU l m) w∧(∃xs,vx=.agg xs)∧∃ys,vy=.agg ys:=by
   intro h1 h2
   obtain⟨e1,e2,k1,c1⟩:=MG hi hx h1
   obtain⟨_,_,k2,c2⟩:=MG hi hy h2
   have he:=gb 50 9950 t i.ek e1 w vx vy _ _ k1.1 k2.1 k1.2 k2.2
   have f1:=h1;have f2:=h2
   simp only[gX,wH]at f1 f2
   have heq:dW vx.cells.toList vy.cells.toList=eU l m:=rF c1 c2 f1.1.1 f2.1.1
   rw[heq]at he
   cases hx;cases hy
   exact⟨fun op=>run_eqGuard_agg w op t x y _ _ e2,he,⟨_,rfl⟩,_,rfl⟩
  split at h
  ·obtain⟨⟨f1,f2⟩,b,rfl,h⟩:=h
   obtain⟨g1,g2,⟨xs,rfl⟩,ys,rfl⟩:=go f1 f2
   refine⟨_,.bool (eU l m),?_,.d _ _ (.bool _),h⟩
   simp only[Sem.run_bind,g1,Result.andThen_ok,run_eql_struct,g2]
  ·obtain⟨⟨f1,f2⟩,b,rfl,h⟩:=h
   obtain⟨g1,g2,⟨xs,rfl⟩,ys,rfl⟩:=go f1 f2
   refine⟨_,.bool (!eU l m),?_,.d _ _ (.bool _),h⟩
   simp only[Sem.run_bind,g1,Result.andThen_ok,run_neq_struct,g2]
  ·exact h.elim
 ·exact h.elim
theorem qx(htt:cn P tt=true){op:BinOp}{t:TypeId}{x y:Operand}{a:Option Addr}{n c:Nat}{eq:Bool}(he:a.isNone=eq){K:AV→Prop}(h:nilR2 tt op t eq K) :
  ∃av v,(do eqGuard op t x y (.slice a n c) (.slice none 0 0);binOp op t (.slice a n c) (.slice none 0 0):Sem Value).run P w=.ok v w∧GamA M av v∧K av:=by
 unfold nilR2 at h
 obtain⟨i,hi,h⟩:=aq htt h
 obtain⟨_,d,_,hd,_,_,htk,_⟩:=aB hi
 split at h
 ·rename_i e hk
  obtain⟨rfl,_⟩:=bH htk hk
  have heq:(Op.equal t (.slice a n c) (.slice none 0 0)).run P w=.ok eq w:=by
   show(Op.equalIn (9999+1) t (.slice a n c) (.slice none 0 0)).run P w=_
   generalize 9999=dd
   cases a<;>simp at he<;>subst he<;>simp[Op.equalIn,run_underlying hd]
  split at h
  ·exact⟨_,.bool eq,by simp[eqGuard,binOp,heq],.b _,h⟩
  ·exact⟨_,.bool (!eq),by simp[eqGuard,binOp,heq],.b _,h⟩
  ·exact h.elim
 ·exact h.elim
theorem wa(htt:cn P tt=true){op:BinOp}{t:TypeId}{x y:Operand}{ax ay:AV}{vx vy:Value}(hx:GamA M ax vx)(hy:GamA M ay vy){K:AV→Prop}(h:binR tt op t ax ay K) :
  ∃av v,(do eqGuard op t x y vx vy;binOp op t vx vy:Sem Value).run P w=.ok v w∧GamA M av v∧K av:=by
 unfold binR at h
 split at h
 ·split at h
  ·split at h
   ·exact jT htt hx hy h
   ·rename_i e
    have e:=of_decide_eq_true e
    subst e
    split at h
    ·rename_i v hv
     cases hx;cases hy
     rw[eqGuard_at_int]
     unfold xd at hv
     split at hv
     ·rename_i c hc
      simp only[Option.some.injEq]at hv;subst hv
      exact⟨_,_,by simpa using oS (t:=t) hc,.i _ _,h⟩
     ·split at hv
      ·rename_i c hc
       simp only[Option.some.injEq]at hv;subst hv
       exact⟨_,_,by simpa using sG (t:=t) hc,.b _,h⟩
      ·cases hv
    ·exact jT htt hx hy h
  ·exact jT htt hx hy h
 ·split at h
  ·cases hx;cases hy;exact qx htt rfl h
  ·exact jT htt hx hy h
 ·split at h
  ·cases hx;cases hy;exact qx htt rfl h
  ·exact jT htt hx hy h
 ·exact jT htt hx hy h
theorem Pw{x:AV}{val:Value}(hx:GamA M x val){n:Nat}{K:AV→Prop}(h:vT x n K):∃av v,(Instr.extract val n).run P w=.ok v w∧GamA M av v∧K av:=by
 unfold vT at h
 simp only[f7]at h
 split at h
 ·rename_i l
  split at h
  ·rename_i v hv
   cases hx with | tup _ vs hl hg=>?_
   obtain⟨y,hy,hgy⟩:=All2.get ⟨hl,hg⟩ hv
   exact⟨_,y,by simp[Instr.extract,hy],hgy,h⟩
  ·exact h.elim
 ·rename_i l
  split at h
  ·rename_i v hv
   cases hx with | d _ _ hx=>?_
   cases hx with | tup _ vs hl hg=>?_
   obtain⟨y,hy,hgy⟩:=All2.get ⟨hl,hg⟩ hv
   exact⟨_,y,by simp[Instr.extract,hy],.d _ _ hgy,h⟩
  ·exact h.elim
 ·exact h.elim
theorem uG{ta tb:TypeId}{si di:TI}(hs:aX P ta si=true)(hd:aX P tb di=true){x:AV}{val:Value}(hx:GamA M x val){K:AV→Prop}(h:sB si di x K) :
  ∃av v,(convert ta tb val).run P w=.ok v w∧GamA M av v∧K av:=by
 obtain⟨_,d1,_,hd1,_,_,htk1,_⟩:=aB hs
 obtain⟨_,d2,_,hd2,_,_,htk2,_⟩:=aB hd
 unfold sB at h
 split at h
 ·rename_i k k' n hk
  cases hx with | d _ _ hx=>?_
  cases hx
  have e:=Od htk2 hk
  subst e
  refine⟨_,.int k (k.wrap n),?_,.d _ _ (.int _ _),h⟩
  simp only[convert,Sem.run_bind,run_underlying hd1,run_underlying hd2,Result.andThen_ok]
  simp[Conv.intToInt]
 ·rename_i k k' n hk
  cases hx
  have e:=Od htk2 hk
  subst e
  refine⟨_,.int k (k.wrap n),?_,.i _ _,h⟩
  simp only[convert,Sem.run_bind,run_underlying hd1,run_underlying hd2,Result.andThen_ok]
  simp[Conv.intToInt]
 ·rename_i b hk
  split at h
  ·rename_i hk1
   cases hx with | d _ _ hx=>?_
   have e:=d5 htk2 hk
   have e1:=d5 htk1 hk1
   subst e e1
   generalize hv:val=v at hx
   cases hx with | str _ u hu=>?_
   subst hv
   refine⟨_,.string u,?_,.d _ _ (.str _ _ hu),h⟩
   simp only[convert,Sem.run_bind,run_underlying hd1,run_underlying hd2,Result.andThen_ok]
   simp
  ·exact h.elim
 ·exact h.elim
theorem All2.list_map{α β γ:Type}{R:α→β→Prop}(f:γ→α)(g:γ→β)(l:List γ)(h:∀x,R (f x) (g x)):All2 R (l.map f) (l.map g):=by
 refine⟨by simp,fun i x y hx hy=>?_⟩
 simp only[Jr,BH]at hx hy
 obtain⟨u,hu,rfl⟩:=hx
 obtain⟨v,hv,rfl⟩:=hy
 rw[hu]at hv;simp at hv;subst hv
 exact h u
theorem uH(M:GM){xs:List D}{K:AV→Prop}(h:LnA xs K):∃av,GamA M av (goInt xs.length)∧K av:=by
 rcases h with⟨n,rfl,h⟩ | ⟨n,rfl,h⟩
 ·exact⟨_,.d _ _ (.int _ _),h⟩
 ·exact⟨_,.i _ _,h⟩
theorem sH{x:AV}{val:Value}(hx:GamA M x val){l:List AV}(h:vS x=some l):∃vs,val=.agg ⟨vs⟩∧All2 (GamA M) l vs∧∀v∈vs,v.oneCell'=true:=by
 unfold vS at h
 split at h
 ·cases h
  cases hx with | agg _ vs hl hg h1=>exact⟨vs,rfl,⟨hl,hg⟩,h1⟩
 ·cases h
  cases hx with | d _ _ hx=>?_
  cases hx with | agg _ vs hl hg h1=>exact⟨vs,rfl,by rw[bY];exact LG ⟨hl,hg⟩,h1⟩
 ·cases h
theorem sI{e:TypeId}{ei:TI}(hei:aX P e ei=true){l:List AV}{vs:List Value}(hl:All2 (GamA M) l vs)(h1:∀v∈vs,v.oneCell'=true){off:Nat}{K:AV→Prop}(h:cellsR l off ei.size fun l'=>mkVal ei l' K) :
  ∃av v,(part e ⟨vs⟩ off).run P w=.ok v w∧GamA M av v∧K av:=by
 obtain⟨l',h3,h4,h5,h6⟩:=jS h hl
 obtain⟨av,k1,k2⟩:=kK h3 h4 (fun v hv=>h1 v (pD hv))
 have hone:=kL hei h3 h5
 unfold part
 simp only[Sem.run_bind,oQ hei,run_sizeOf hei,Result.andThen_ok]
 cases hag:ei.k.isAgg with
 | true =>
  refine⟨av,_,by simp[run_sizeOf hei];rfl,?_,k1⟩
  rw[hag]at k2
  simp only[valOf,if_true]at k2
  exact k2
 | false =>
  have hs:=hone hag
  rw[hs]at h4 h6 k2
  obtain⟨u,hu⟩:∃u,vs[off]? = some u:=by
   cases hv:vs[off]? with
   | some u=>exact⟨u,rfl⟩
   | none =>
    have:=List.getElem?_eq_none_iff.1 hv
    simp at h6;omega
  have e1:(vs.drop off).take 1=[u]:=by
   have hlt:=(List.getElem?_eq_some_iff.1 hu).1
   rw[List.drop_eq_getElem_cons hlt]
   have:=(List.getElem?_eq_some_iff.1 hu).2
   simp[this]
  rw[e1,hag]at k2
  refine⟨av,u,by simp[hu],?_,k1⟩
  simpa [valOf]using k2
theorem tj(htt:cn P tt=true){t:TypeId}{i:TI}(hi:aX P t i=true){x:AV}{val:Value}(hx:GamA M x val){f:Nat}{K:AV→Prop}(h:fieldV tt i x f K) :
  ∃av v,(Instr.field t val f).run P w=.ok v w∧GamA M av v∧K av:=by
 obtain⟨_,d,_,hd,_,_,htk,_⟩:=aB hi
 unfold fieldV at h
 simp only[f7]at h
 split at h
 ·rename_i l hk
  obtain⟨fs,rfl,hl,hft⟩:=rE htk hk
  split at h
  ·rename_i fo sz ft hf1 hf2
   split at h
   ·rename_i cs hcs
    obtain⟨vs,rfl,hall,h1⟩:=sH hx hcs
    obtain⟨fi,hfi,h⟩:=aq htt h
    obtain⟨av,v,r1,r2,r3⟩:=sI (w:=w) hfi hall h1 h
    refine⟨av,v,?_,r2,r3⟩
    rw[← hl,Jr,BH]at hf1
    rw[← hft,Jr,BH]at hf2
    obtain⟨fd,hfd,e1⟩:=hf1
    obtain⟨fd',hfd',e2⟩:=hf2
    rw[hfd]at hfd'
    cases hfd'
    cases e1
    cases e2
    have hfd2:fs[f]? = some fd:=by simpa using hfd
    simp only[Instr.field,Sem.run_bind,run_underlying hd,Result.andThen_ok,hfd2,asAgg,Sem.run_pure]
    exact r1
   ·exact h.elim
  ·exact h.elim
 ·exact h.elim
theorem tk(htt:cn P tt=true){t:TypeId}{i:TI}(hi:aX P t i=true){x:AV}{val:Value}(hx:GamA M x val){k:IntKind}{n:Int}{K:AV→Prop}(h:indexV tt i x n K) :
  ∃av v,(Instr.index t val (.int k n)).run P w=.ok v w∧GamA M av v∧K av:=by
 obtain⟨_,d,_,hd,_,_,htk,_⟩:=aB hi
 unfold indexV at h
 split at h
 ·rename_i len e hk
  obtain⟨rfl,_,_⟩:=ip htk hk
  split at h
  ·rename_i l hl
   obtain⟨vs,rfl,hall,h1⟩:=sH hx hl
   obtain⟨j,rfl,hj,h⟩:=h
   obtain⟨ei,hei,h⟩:=aq htt h
   obtain⟨av,v,r1,r2,r3⟩:=sI (w:=w) hei hall h1 h
   refine⟨av,v,?_,r2,r3⟩
   have hlt:((j:Int)<(len:Int)):=by omega
   simp only[Instr.index,asIntOf,Sem.run_bind,Sem.run_pure,Result.andThen_ok,run_underlying hd,run_sizeOf hei,JH,hlt,and_self,if_true,JD]
   exact r1
  ·exact h.elim
 ·rename_i hk
  have e:=d5 htk hk
  subst e
  split at h
  ·rename_i b
   obtain⟨c,h0,hc,h⟩:=h
   cases hx with | d _ _ hx=>?_
   cases hx with | str _ v hs=>?_
   refine⟨_,.int .u8 c.toNat,?_,.d _ _ (.int _ _),h⟩
   have hv:v[n.toNat]? = some c:=by
    rw[← hs]at hc
    obtain⟨h1,h2⟩:=List.getElem?_eq_some_iff.1 hc
    have h1':n.toNat<v.size:=by rw[Array.length_toList]at h1;exact h1
    rw[getElem?_pos v n.toNat h1']
    simp only[Option.some.injEq]
    exact h2
   simp[Instr.index,asIntOf,run_underlying hd,h0,hv]
  ·exact h.elim
 ·exact h.elim
theorem Px(hR:Rel M s a w){t:TypeId}{i:TI}(hi:aX P t i=true){x:AV}{val:Value}(hx:GamA M x val){K:AV→Prop}(h:lenR s i x K)(ty:TypeId) :
  ∃av v,(Builtin.len_ #[t] ty #[val]).run P w=.ok v w∧GamA M av v∧K av:=by
 obtain⟨_,d,_,hd,_,_,htk,_⟩:=aB hi
 unfold lenR at h
 split at h
 ·rename_i e hk
  obtain⟨rfl,_,_⟩:=bH htk hk
  have hsl:∀b n c,val=.slice b n c→(Builtin.len_ #[t] ty #[val]).run P w=.ok (goInt n) w:=by
   rintro b n c rfl
   simp[Builtin.len_,run_underlying hd]
  have hx:=aM hx
  split at h
  ·rename_i ex
   rw[ex]at hx
   cases hx
   exact⟨_,_,hsl _ _ _ rfl,.i _ _,h⟩
  ·rename_i sz xs ex
   rw[ex]at hx
   obtain⟨av,hav,hkk⟩:=uH M h
   cases hx with | d _ _ hx=>?_
   generalize hv:val=v at hx
   cases hx with
   | nils=>subst hv;exact⟨_,_,hsl _ _ _ rfl,hav,hkk⟩
   | list=>subst hv;exact⟨_,_,hsl _ _ _ rfl,hav,hkk⟩
   | listz=>subst hv;exact⟨_,_,hsl _ _ _ rfl,hav,hkk⟩
  ·rename_i k hdr ex
   rw[ex]at hx
   have hq0:=jt hR h;clear h;obtain⟨ob,hlk,hok,h⟩:=hq0
   split at h
   ·rename_i h' e sz fz xs
    obtain⟨rfl,h⟩:=h
    obtain⟨av,hav,h⟩:=uH M h
    cases hx
    obtain⟨vals,hown,_⟩:=hok
    rcases hown.2 with⟨e1,e2⟩ | ⟨g,cap,cur,e1,_⟩
    ·rw[e2]at hav
     exact⟨_,_,hsl _ _ _ e1,hav,h⟩
    ·exact⟨_,_,hsl _ _ _ e1,hav,h⟩
   ·rename_i h' e re rsz hs hole xs
    obtain⟨rfl,n,hn,h⟩:=h
    subst hn
    cases hx
    obtain⟨hown,_⟩:=hok
    rcases hown.2 with⟨e1,e2⟩ | ⟨g,cap,cur,e1,_⟩
    ·rw[e2]at h
     exact⟨_,_,hsl _ _ _ e1,.d _ _ (.int _ _),h⟩
    ·exact⟨_,_,hsl _ _ _ e1,.d _ _ (.int _ _),h⟩
   ·exact h.elim
  ·exact h.elim
 ·rename_i hk
  have e:=d5 htk hk
  subst e
  split at h
  ·rename_i b
   cases hx with | d _ _ hx=>?_
   cases hx with | str _ v hs=>?_
   refine⟨_,.int .i64 v.size,by simp[Builtin.len_,run_underlying hd,goInt],?_,h⟩
   have:v.size=b.length:=by rw[← hs,Array.length_toList];rfl
   rw[this];exact .d _ _ (.int _ _)
  ·exact h.elim
 ·rename_i n e hk
  obtain⟨rfl,_⟩:=ip htk hk
  exact⟨_,.int .i64 n,by simp[Builtin.len_,run_underlying hd,goInt],.i _ _,h⟩
 ·rename_i kt et hk
  have e:d=.map kt et:=by cases d<;>simp[fR,hk]at htk;rw[htk.1,htk.2]
  subst e
  have hm:∀(b:Nat) (arr:List MapEntry) (clock n:Nat),w.heap[b]? = some (.map ⟨arr⟩ clock)→n=arr.length→(Builtin.len_ #[t] ty #[.map (some b)]).run P w=.ok (.int .i64 n) w:=by
   intro b arr clock n hb hn
   simp[Builtin.len_,run_underlying hd,MapKept.run_getObj_map hb,goInt,hn]
  split at h
  ·rename_i kk b
   have hq0:=jt hR h;clear h;obtain⟨ob,hlk,hok,h⟩:=hq0
   split at h
   ·rename_i b' es
    obtain⟨rfl,n,hn,h⟩:=h
    subst hn
    cases hx
    obtain⟨arr,clock,hb,hl,_⟩:=hok
    exact⟨_,_,hm _ _ _ _ hb hl,.d _ _ (.int _ _),h⟩
   ·exact h.elim
  ·rename_i es
   obtain⟨n,hn,h⟩:=h
   subst hn
   cases hx with | d _ _ hx=>?_
   cases hx with | mp _ b arr clock hmm hl _ _ _ _=>?_
   exact⟨_,_,hm _ _ _ _ (hR.rs.m _ _ hmm) hl,.d _ _ (.int _ _),h⟩
  ·cases hx with | d _ _ hx=>?_
   cases hx
   exact⟨_,.int .i64 0,by simp[Builtin.len_,run_underlying hd,goInt],.i _ _,h⟩
  ·exact h.elim
 ·exact h.elim
theorem Py(htt:cn P tt=true){op:BinOp}{t:TypeId}{x:Operand}{ax:AV}{vx:Value}(hx:GamA M ax vx){K:AV→Prop}(h:wL tt op t ax K) :
  ∃av v,(do eqGuard op t x (.const .nilIface) vx .nilIface;binOp op t vx .nilIface:Sem Value).run P w=.ok v w∧GamA M av v∧K av:=by
 unfold wL at h
 obtain⟨i,hi,h⟩:=aq htt h
 obtain⟨_,d,_,hd,_,_,htk,_⟩:=aB hi
 split at h
 ·rename_i hk
  have hdd:∃ms,d=.interface ms:=by
   cases d<;>simp only[fR,hk]at htk<;>first | exact⟨_,rfl⟩ | cases htk
  obtain⟨ms,rfl⟩:=hdd
  split at h
  ·cases hx with | d _ _ hx=>?_
   cases hx
   have heq:(Op.equal t .nilIface .nilIface).run P w=.ok true w:=by
    show(Op.equalIn (9999+1) t .nilIface .nilIface).run P w=_
    generalize 9999=dd
    simp[Op.equalIn,run_underlying hd]
   split at h
   ·exact⟨_,.bool true,by simp[eqGuard,binOp,heq],.b _,h⟩
   ·exact⟨_,.bool false,by simp[eqGuard,binOp,heq],.b _,h⟩
   ·exact h.elim
  ·cases hx with | d _ _ hx=>?_
   cases hx
   have heq:∀(q:TypeId) (u:Value),(Op.equal t (.iface q u) .nilIface).run P w=.ok false w:=by
    intro q u
    show(Op.equalIn (9999+1) t (.iface q u) .nilIface).run P w=_
    generalize 9999=dd
    simp[Op.equalIn,run_underlying hd]
   split at h
   ·exact⟨_,.bool false,by simp[eqGuard,binOp,heq],.b _,h⟩
   ·exact⟨_,.bool true,by simp[eqGuard,binOp,heq],.b _,h⟩
   ·exact h.elim
  ·exact h.elim
 ·exact h.elim
theorem NL(htt:cn P tt=true)(hR:Rel M s a w){o:Oper}{K:AV→Prop}(h:opR tt o s K):RdOk P o a M w K:=by
 unfold RdOk
 have hv:∀(S:Sem Value),(∃av v,S.run P w=.ok v w∧GamA M av v∧K av)→∃av v,(do pure (.value (← S)):Sem Next).run P w=.ok (.value v) w∧GamA M av v∧K av:=by
  rintro S ⟨av,v,h1,h2,h3⟩
  exact⟨av,v,by simp[h1],h2,h3⟩
 unfold opR at h
 split at h
 ·rename_i x e
  simp only[execOp,e]
  obtain⟨v',hk,hg⟩:=mR htt h (hR.eval x)
  exact⟨v',_,by simp,hg,hk⟩
 ·rename_i x e
  simp only[execOp,e]
  obtain⟨v',hk,hg⟩:=mR htt h (hR.eval x)
  exact⟨v',_,by simp,hg,hk⟩
 ·rename_i c x y e
  simp only[execOp,e]
  have hc:=hR.eval c
  split at h
  ·rename_i ec;rw[ec]at hc
   generalize a.eval c=vc at hc
   cases hc
   exact⟨_,_,by simp[asBool],hR.eval x,h⟩
  ·rename_i ec;rw[ec]at hc
   generalize a.eval c=vc at hc
   cases hc
   exact⟨_,_,by simp[asBool],hR.eval y,h⟩
  ·exact h.elim
 ·rename_i t x f e
  simp only[execOp,e]
  obtain⟨i,hi,h⟩:=aq htt h
  exact hv _ (th hi (hR.eval x) h)
 ·rename_i t x ix e
  simp only[execOp,e]
  have hx:=aM (hR.eval ix)
  split at h
  ·rename_i k n en;rw[en]at hx
   generalize a.eval ix=vi at hx
   cases hx with | d _ _ hx=>?_
   cases hx
   obtain⟨i,hi,h⟩:=aq htt h
   exact hv _ (vY hR hi (aM (hR.eval x)) h)
  ·exact h.elim
 ·rename_i t x e
  simp only[execOp,e]
  obtain⟨i,hi,h⟩:=aq htt h
  exact hv _ (qu hR hi (hR.eval x) h)
 ·rename_i t x ix e
  simp only[execOp,e]
  have hx:=aM (hR.eval ix)
  split at h
  ·rename_i k n en;rw[en]at hx
   generalize a.eval ix=vi at hx
   cases hx with | d _ _ hx=>?_
   cases hx
   obtain⟨i,hi,h⟩:=aq htt h
   exact hv _ (tk htt hi (hR.eval x) h)
  ·exact h.elim
 ·rename_i t x f e
  simp only[execOp,e]
  obtain⟨i,hi,h⟩:=aq htt h
  exact hv _ (tj htt hi (hR.eval x) h)
 ·rename_i x e
  simp only[execOp,e]
  have hx:=hR.eval x
  split at h
  ·rename_i ex;rw[ex]at hx
   generalize a.eval x=vx at hx
   cases hx
   exact⟨_,_,rfl,.ptr _ _ _,h⟩
  ·rename_i ex;rw[ex]at hx
   generalize a.eval x=vx at hx
   cases hx with | d _ _ hx=>?_
   cases hx with | ref _ b off vf hm hg h1=>exact⟨_,_,rfl,.d _ _ (.ref _ b off vf hm hg h1),h⟩
  ·rename_i ex;rw[ex]at hx
   generalize a.eval x=vx at hx
   cases hx with | d _ _ hx=>?_
   cases hx with | fn _ _ _ fv cv h1 h2 h3 h4=>exact⟨_,_,rfl,.d _ _ (.fn _ _ _ fv cv h1 h2 h3 h4),h⟩
  ·rename_i ex;rw[ex]at hx
   generalize a.eval x=vx at hx
   cases hx with | fn _ _ _ fv cv h1 h2 h3 h4=>exact⟨_,_,rfl,.fn _ _ _ fv cv h1 h2 h3 h4,h⟩
  ·exact h.elim
 ·rename_i op t x y yt e
  simp only[execOp,e]
  split at h
  ·exact hv _ (Py htt (hR.eval x) h)
  ·exact hv _ (wa htt (hR.eval x) (hR.eval y) h)
 ·rename_i t x e
  simp only[execOp,e]
  have hx:=hR.eval x
  split at h
  ·rename_i ex;rw[ex]at hx
   generalize a.eval x=vx at hx
   cases hx;exact⟨_,.bool false,by simp[Op.unary],.b _,h⟩
  ·rename_i ex;rw[ex]at hx
   generalize a.eval x=vx at hx
   cases hx;exact⟨_,.bool true,by simp[Op.unary],.b _,h⟩
  ·rename_i b ex;rw[ex]at hx
   generalize a.eval x=vx at hx
   cases hx with | d _ _ hx=>?_
   cases hx;exact⟨_,.bool (!b),by simp[Op.unary],.d _ _ (.bool _),h⟩
  ·exact h.elim
 ·rename_i t x e
  simp only[execOp,e]
  have hx:=hR.eval x
  split at h
  ·rename_i k n ex;rw[ex]at hx
   generalize a.eval x=vx at hx
   cases hx with | d _ _ hx=>?_
   cases hx
   exact⟨_,.int k (k.wrap (-n)),by simp[Op.unary,Op.intArith],.d _ _ (.int _ _),h⟩
  ·rename_i k n ex;rw[ex]at hx
   generalize a.eval x=vx at hx
   cases hx
   exact⟨_,.int k (k.wrap (-n)),by simp[Op.unary,Op.intArith],.i _ _,h⟩
  ·exact h.elim
 ·rename_i x n e
  simp only[execOp,e]
  exact hv _ (Pw (hR.eval x) h)
 ·rename_i fn first caps e
  simp only[bY]at h
  simp only[execOp,e]
  have h1:All2 (GamA M) (first.toList.map s.eval) (first.map a.eval).toList:=by rw[Array.toList_map];exact .list_map _ _ _ hR.eval
  have h2:All2 (GamA M) (caps.toList.map s.eval) (caps.map a.eval).toList:=by rw[Array.toList_map];exact .list_map _ _ _ hR.eval
  split at h
  ·rename_i u v hu hv'
   have g1:=Mz hu h1
   have g2:=Mz hv' h2
   exact⟨_,.func fn (first.map a.eval) (caps.map a.eval),by simp[Instr.makeFunc],.d _ _ (.fn _ _ _ _ _ g1.1 g1.2 g2.1 g2.2),h⟩
  ·simp only[aU]at h
   exact⟨_,.func fn (first.map a.eval) (caps.map a.eval),by simp[Instr.makeFunc],.fn _ _ _ _ _ h1.1 h1.2 h2.1 h2.2,h⟩
 ·rename_i ta tb x e
  simp only[execOp,e]
  obtain⟨si,hs,h⟩:=aq htt h
  obtain⟨di,hd,h⟩:=aq htt h
  exact hv _ (uG hs hd (hR.eval x) h)
 ·rename_i t x e
  simp only[execOp,e]
  obtain⟨i,hi,h⟩:=aq htt h
  obtain⟨_,d,_,hd,_,_,htk,_⟩:=aB hi
  split at h
  ·exact h.elim
  ·rename_i hk
   have hx:=aM (hR.eval x)
   split at h
   ·rename_i d' ex;rw[ex]at hx
    cases hx with | d _ _ hx=>?_
    refine⟨_,.iface t (a.eval x),?_,.d _ _ (.ifc _ _ _ hx),h⟩
    have hni:∀ms,d≠.interface ms:=by
     rintro ms rfl
     simp only[fR]at htk
     first
     | (cases htk;done)
     | (split at htk;(rename_i e';exact hk e');cases htk)
    simp only[Instr.makeInterface,Sem.run_bind,run_underlying hd,Result.andThen_ok]
    cases d<;>first | (simp;done) | exact absurd rfl (hni _)
   ·exact h.elim
 ·rename_i c e
  simp only[bY]at h
  simp only[execOp,e]
  have hargs':All2 (GamA M) (c.args.toList.map fun x=>(s.eval x).toD) (c.args.map a.eval).toList:=by rw[Array.toList_map];exact .list_map _ _ _ fun x=>aM (hR.eval x)
  have hargs:All2 (GamA M) (c.args.toList.map s.eval) (c.args.map a.eval).toList:=by rw[Array.toList_map];exact .list_map _ _ _ hR.eval
  split at h
  ·rename_i ec
   split at h
   ·rename_i x t ea et
    rw[ea]at hargs
    obtain⟨v,vs,e1,hv1,ht⟩:=hargs.inv
    have e2:=ht.inv_nil
    subst e2
    have ea':c.args.map a.eval=#[v]:=by rw[← Array.toList_inj];simpa using e1
    have et':c.argTypes=#[t]:=by rw[← Array.toList_inj];simpa using et
    obtain⟨i,hi,h⟩:=aq htt h
    obtain⟨av,r,h1,h2,h3⟩:=Px hR hi hv1 h o.type
    exact⟨av,r,by simp[resolve,ec,ea',et',invoke,builtin,h1],h2,h3⟩
   ·exact h.elim
  ·rename_i ec
   split at h
   ·rename_i sz t ea et
    rw[ea]at hargs
    obtain⟨v,vs,e1,hv1,ht⟩:=hargs.inv
    have e2:=ht.inv_nil
    subst e2
    have ea':c.args.map a.eval=#[v]:=by rw[← Array.toList_inj];simpa using e1
    have et':c.argTypes=#[t]:=by rw[← Array.toList_inj];simpa using et
    obtain⟨i,hi,h⟩:=aq htt h
    obtain⟨_,d,_,hd,_,_,htk,_⟩:=aB hi
    split at h
    ·rename_i el hk
     obtain⟨rfl,_,_⟩:=bH htk hk
     cases hv1
     exact⟨_,.int .i64 0,by simp[resolve,ec,ea',et',invoke,builtin,Builtin.cap_,run_underlying hd,goInt],.i _ _,h⟩
    ·exact h.elim
   ·exact h.elim
  ·rename_i ec
   split at h
   ·rename_i k x k' y ea
    rw[ea]at hargs'
    obtain⟨v,vs,e1,hv1,ht⟩:=hargs'.inv
    obtain⟨v',vs',e1',hv1',ht'⟩:=ht.inv
    have e2:=ht'.inv_nil
    subst e2 e1'
    cases hv1 with | d _ _ hv1=>?_
    cases hv1' with | d _ _ hv1'=>?_
    cases hv1;cases hv1'
    have ea':c.args.map a.eval=#[.int k x,.int k' y]:=by rw[← Array.toList_inj];simpa using e1
    split at h
    ·rename_i ek
     have ek:=of_decide_eq_true ek
     subst ek
     refine⟨_,.int k (max x y),?_,.d _ _ (.int _ _),h⟩
     have:(if y>x then y else x)=max x y:=by simp only[Int.max_def];split<;>split<;>omega
     simp[resolve,ec,ea',invoke,builtin,Builtin.max_,Builtin.max2,this]
    ·exact h.elim
   ·exact h.elim
  ·rename_i ec
   split at h
   ·rename_i k x k' y ea
    rw[ea]at hargs'
    obtain⟨v,vs,e1,hv1,ht⟩:=hargs'.inv
    obtain⟨v',vs',e1',hv1',ht'⟩:=ht.inv
    have e2:=ht'.inv_nil
    subst e2 e1'
    cases hv1 with | d _ _ hv1=>?_
    cases hv1' with | d _ _ hv1'=>?_
    cases hv1;cases hv1'
    have ea':c.args.map a.eval=#[.int k x,.int k' y]:=by rw[← Array.toList_inj];simpa using e1
    split at h
    ·rename_i ek
     have ek:=of_decide_eq_true ek
     subst ek
     refine⟨_,.int k (min x y),?_,.d _ _ (.int _ _),h⟩
     have:(if y<x then y else x)=min x y:=by simp only[Int.min_def];split<;>split<;>omega
     simp[resolve,ec,ea',invoke,builtin,Builtin.min_,Builtin.min2,this]
    ·exact h.elim
   ·exact h.elim
  ·exact h.elim
 ·exact h.elim
end
end Go.Abs
