/-
 Soundness, second part: the operations that only read (opR).
-/
import Derived.Test.YtdodahpkpeodfaaGreatDoorAbsD
set_option linter.all false
open List renaming flatMap_cons→yZ,getElem?_map→Jr,getElem?_range→yM,mem_of_getElem?→Jm,range→Jq
open Option renaming getD_some→Bf,map_some→zn
namespace Go.Abs
open Go
def RdOk (P:Program)(o:Oper)(a:Act)(M:GM)(w:World)(K:AV→Prop):Prop :=
 ∃av val,(execOp a.eval o).run P w=.ok (.value val) w∧GamA M av val∧K av
section
variable {P:Program}{tt:TT}{M:GM}{s:St}{a:Act}{w:World}
theorem jt(hR:Rel M s a w){k:Nat}{K:Ob→Prop}(h:obR s k K):∃o,look s.ob k=some o∧gW M w o∧K o:=by
 unfold obR at h
 split at h
 ·rename_i o ho;exact⟨o,ho,hR.ob.ok k o ho,h⟩
 ·exact h.elim
theorem kr{b:Nat}{vals:List Value}{elem:TypeId}{fr:Nat×Nat}(h:w.heap[b]? = some (.cells ⟨vals⟩ elem fr))(j:Nat):w.cell? ⟨b,j,none⟩=vals[j]?:=by
 rw[cell_of_row w b j _ _ _ h];simp
theorem jS{cs:List AV}{vals:List Value}{off n:Nat}{K:List AV→Prop}(h:cellsR cs off n K)(hl:All2 (GamA M) cs vals) :
  ∃l,K l∧All2 (GamA M) l ((vals.drop off).take n)∧l.length=n∧((vals.drop off).take n).length=n:=by
 unfold cellsR at h
 simp only[mY,mZ,eg]at h
 split at h
 ·rename_i e
  have e':off+n≤cs.length:=Nat.le_of_ble_eq_true e
  refine⟨_,h,(hl.drop off).take n,?_,?_⟩
  ·simp;omega
  ·have:=hl.1;simp;omega
 ·exact h.elim
theorem iF{l:List Value}{off n j:Nat}{v:Value}(h:((l.drop off).take n)[j]? = some v):l[off+j]? = some v:=by
 rw[List.getElem?_take]at h
 split at h
 ·rwa[List.getElem?_drop]at h
 ·cases h
theorem pD{l:List Value}{off n:Nat}{v:Value}(h:v∈(l.drop off).take n):v∈l:=List.mem_of_mem_drop (List.mem_of_mem_take h)
theorem uF{M:GM}{d:D}{val:Nat→Value}(h:∀(i:Nat) c,(cellsOf d)[i]? = some c→Gam M c (val i)):All2 (Gam M) (cellsOf d) ((Jq (cellsOf d).length).map val):=by
 refine⟨by simp,fun i x y hx hy=>?_⟩
 have hi:i<(cellsOf d).length:=(List.getElem?_eq_some_iff.1 hx).1
 rw[Jr,yM hi]at hy
 simp at hy;subst hy
 exact h i x hx
theorem qu(hR:Rel M s a w){t:TypeId}{i:TI}(hi:aX P t i=true){x:AV}{val:Value}(hx:GamA M x val){K:AV→Prop}(h:loadR s i x K) :
  ∃av v,(Instr.loadAt t val).run P w=.ok v w∧GamA M av v∧K av:=by
 unfold loadR at h
 simp only[bY,eg]at h
 split at h
 ·-- an owned block
  rename_i k b o
  cases hx
  have hq0:=jt hR h;clear h;obtain⟨ob,hlk,hok,h⟩:=hq0
  split at h
  ·rename_i b' cs
   obtain⟨rfl,h⟩:=h
   obtain⟨vals,elem,hb,hall,h1,_⟩:=hok
   obtain⟨l,h,hl,hn,hn'⟩:=jS h hall
   have hone:=kL hi h hn
   obtain⟨av,hk,hg⟩:=kK h hl (fun v hv=>h1 v (pD hv))
   refine⟨av,_,?_,hg,hk⟩
   simp only[Instr.loadAt,Instr.sureAddr,Sem.run_bind,Sem.run_pure,Result.andThen_ok]
   exact f9 hi hn' hone (fun j v hv=>by rw[kr hb];exact iF hv)
  ·exact h.elim
 ·-- data that stays
  rename_i d
  cases hx with | d _ _ hx=>?_
  cases hx with | ref _ b off vf hm hg h1=>?_
  split at h
  ·rename_i e
   have e':(cellsOf d).length=i.size:=Nat.eq_of_beq_eq_true e
   have hall:=uF hg
   have hmem:∀v∈(Jq (cellsOf d).length).map vf,v.oneCell'=true:=by
    intro v hv
    obtain⟨j,hj,rfl⟩:=List.mem_map.1 hv
    have hj':=List.mem_range.1 hj
    exact h1 j (cellsOf d)[j] (by simp[hj'])
   have hone:=kL hi h (by simpa using e')
   obtain⟨av,hk,hga⟩:=kK h (LG hall) hmem
   refine⟨av,_,?_,hga,hk⟩
   simp only[Instr.loadAt,Instr.sureAddr,Sem.run_bind,Sem.run_pure,Result.andThen_ok]
   refine f9 hi (by simpa using e') hone (fun j v hv=>?_)
   rw[Jr]at hv
   simp only[Option.map_eq_some_iff]at hv
   obtain⟨j',hj,rfl⟩:=hv
   have hlt:j<(cellsOf d).length:=by have:=(List.getElem?_eq_some_iff.1 hj).1;simpa using this
   rw[yM hlt]at hj
   simp at hj;subst hj
   exact hR.rs.c _ _ _ (hm j (cellsOf d)[j] (by simp[hlt]))
  ·exact h.elim
 ·-- an element of an array of the call's own
  rename_i k hd sz j o
  have hq0:=jt hR h;clear h;obtain⟨ob,hlk,hok,h⟩:=hq0
  split at h
  ·rename_i h' e sz' fz xs
   obtain⟨⟨rfl,rfl⟩,h⟩:=h
   obtain⟨x,_,hxj,h⟩:=h
   simp only[Int.toNat_natCast]at hxj
   cases hx with | el _ b len cap _ _ _=>?_
   obtain⟨vals,hown,hall,h1,hsz,_⟩:=hok
   have hjl:j<xs.length:=(List.getElem?_eq_some_iff.1 hxj).1
   have hcell:=hown.cells (g:=b) rfl
   -- the element's cells
   have hxe:(cellsOf x).length=sz:=hsz x (Jm hxj)
   have hflat:∀q c,(cellsOf x)[q]? = some c→(xs.flatMap cellsOf)[j*sz+q]? = some c:=by
    intro q c hq
    have key:∀(l:List D) (m:Nat),(∀y∈l,(cellsOf y).length=sz)→l[m]? = some x→(l.flatMap cellsOf)[m*sz+q]? = some c:=by
     intro l
     induction l with
     | nil=>intro m _ hm;simp at hm
     | cons y l ih =>
      intro m hl hm
      cases m with
      | zero =>
       simp at hm;subst hm
       simp only[yZ,Nat.zero_mul,Nat.zero_add]
       rw[List.getElem?_append_left (List.getElem?_eq_some_iff.1 hq).1]
       exact hq
      | succ m =>
       simp only[yZ]
       have hy:=hl y (by simp)
       rw[List.getElem?_append_right (by rw[hy,Nat.succ_mul];omega),hy]
       have:(m+1)*sz+q-sz=m*sz+q:=by rw[Nat.succ_mul];omega
       rw[this]
       exact ih m (fun z hz=>hl z (by simp[hz])) (by simpa using hm)
    exact key xs j hsz hxj
   let ev:=(Jq sz).map fun q=>(vals[j*sz+q]?).getD undef
   have hev:All2 (GamA M) ((cellsOf x).map .d) ev:=by
    refine LG ⟨by simp[ev,hxe],fun q c v hq hv=>?_⟩
    have hqlt:q<sz:=by have:=(List.getElem?_eq_some_iff.1 hq).1;omega
    obtain⟨v',hv',hg⟩:=hall.get (hflat q c hq)
    simp only[ev,Jr,yM hqlt,zn,hv',Bf,Option.some.injEq]at hv
    subst hv;exact hg
   have hevc:∀q v,ev[q]? = some v→vals[j*sz+q]? = some v:=by
    intro q v hv
    have hqlt:q<sz:=by have:=(List.getElem?_eq_some_iff.1 hv).1;simpa [ev]using this
    obtain⟨v',hv',_⟩:=hall.get (hflat q _ (show(cellsOf x)[q]? = some (cellsOf x)[q] by simp))
    simp only[ev,Jr,yM hqlt,zn,hv',Bf,Option.some.injEq]at hv
    subst hv;exact hv'
   obtain⟨l,h,hl,hn,hn'⟩:=jS h hev
   have hone:=kL hi h hn
   obtain⟨av,hk,hg⟩:=kK h hl (fun v hv=>by
    obtain⟨q,hq⟩:=List.mem_iff_getElem?.1 (pD hv)
    exact h1 v (Jm (hevc q v hq)))
   refine⟨av,_,?_,hg,hk⟩
   simp only[Instr.loadAt,Instr.sureAddr,Sem.run_bind,Sem.run_pure,Result.andThen_ok]
   refine f9 hi hn' hone (fun q v hv=>?_)
   have:=hcell _ v (hevc _ v (iF hv))
   rw[addr_add]at this
   simpa [Nat.add_assoc]using this
  ·rename_i h' e re rsz hs hole xs
   split at h
   ·rename_i e0 hk
    split at h
    ·rename_i e1
     have e1:i.size=1:=Nat.eq_of_beq_eq_true e1
     obtain⟨⟨rfl,rfl⟩,hjl,h⟩:=h
     cases hx with | el _ b len cap _ _ _=>?_
     obtain⟨hown,_,hsl,_⟩:=hok
     obtain⟨aa,nn,cc,hhs⟩:=hsl j hjl
     have hcell:=hown.cells (g:=b) rfl
     refine⟨_,hs j,?_,by rw[hhs];exact .rw _ _ _ _ _,h⟩
     simp only[Instr.loadAt,Instr.sureAddr,Sem.run_bind,Sem.run_pure,Result.andThen_ok]
     have hv:valOf i.k.isAgg [hs j]=hs j:=by rw[hk];rfl
     have:=f9 (P:=P) hi (w:=w) (b:=b) (o:=j*1+0) (vals:=[hs j]) (by simp[e1]) (fun _=>e1) (fun q v hv=>by
      cases q with
      | zero =>
       simp at hv;subst hv
       have:=hcell j (hs j) (by rw[Jr,yM hjl];rfl)
       rw[addr_add,Nat.zero_add]at this
       simpa using this
      | succ q=>simp at hv)
     rw[hv]at this;exact this
    ·exact h.elim
   ·exact h.elim
  ·exact h.elim
 ·exact h.elim
end
end Go.Abs
