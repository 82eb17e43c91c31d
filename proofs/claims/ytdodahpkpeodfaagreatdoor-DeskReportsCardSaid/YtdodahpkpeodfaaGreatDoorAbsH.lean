/-
 Soundness, fifth part: the other operations, one by one.
-/
import Derived.Test.YtdodahpkpeodfaaGreatDoorAbsG
import Derived.Laws.Slices
set_option linter.all false
open List renaming flatMap_cons→yZ,getElem?_range→yM,getElem?_set→Bq,length_cons→IS,mem_of_getElem?→Jm,mem_of_mem_drop→By,mem_of_mem_take→JA,range→Jq
open Nat renaming eq_of_beq_eq_true→Ik,le_of_ble_eq_true→JF,le_refl→H9,mul_le_mul_right→BO,succ_mul→zP,zero_add→Jp
namespace Go.Abs
open Go
def EOk (P:Program)(o:Oper)(a:Act)(M:GM)(w:World)(s:St)(K:St→Prop):Prop :=
 ∃r w' v,(execOp a.eval o).run P w=.ok r w'∧(r=.value v∨(r=.skip∧v=undef))∧∃s' M',K s'∧Rel M' s' (a.put o.dst v) w'∧Stp s.ob M w s'.ob M' w'
section
variable {P:Program}{tt:TT}{M M':GM}{s s':St}{a:Act}{w w':World}
theorem ga{t:TypeId}{i:TI}(hi:aX P t i=true):∃inf z,P.info? t=some inf∧inf.zero=some z∧bF i.zero z.cells.toList=true∧z.cells.size=i.size∧∀w:World,(zeroValue t).run P w=.ok z w:=by
 obtain⟨inf,d,h1,_,_,_,_,z,h2,h3,h4,_⟩:=aB hi
 exact⟨inf,z,h1,h2,h3,h4,fun w=>by simp[zeroValue,typeInfo,h1,h2]⟩
theorem Rel.set(hR:Rel M s a w){t:Nat}{v:AV}{val:Value}{K:St→Prop}(h:s.putN t v K)(hv:GamA M v val):∃s',K s'∧Rel M s' (a.put (some t) val) w∧s'.ob=s.ob:=by
 obtain⟨s',h1,h2,h3,_⟩:=hR.putN h hv
 exact⟨s',h1,h2,h3⟩
theorem Stp.ob_eq{ob:List (Nat×Ob)}(h:Stp ob M w s.ob M' w')(e:s'.ob=s.ob):Stp ob M w s'.ob M' w':=by rw[e];exact h
theorem qz{o:Oper}{K:St→Prop}(hR:Rel M s a w){t:TypeId}{i:TI}(hi:aX P t i=true)(ho:o.op=.alloc t){d kk:Nat}(hd:o.dst=some d){imm:Bool}
  (h:match imm with
   | true=>s.put o.dst (.d (.ref (.agg i.zero))) K
   | false=>force (bN zAV i.zero) fun cs=>∀b,s.setO kk (.cells b cs) fun s'=>s'.putN d (.ptr kk b 0) K):EOk P o a M w s K:=by
 obtain⟨inf,z,_,_,hz,_,hrun⟩:=ga hi
 have hz1:=fun M':GM=>cF hz M'
 have hex:(execOp a.eval o).run P w=.ok (.value (.pointer (some ⟨w.heap.size,0,none⟩))) (w.alloc (.cells ⟨z.cells.toList⟩ t)):=by
  simp[execOp,ho,Instr.alloc,hrun,newVar,newRow]
 refine⟨_,_,_,hex,.inl rfl,?_⟩
 cases imm with
 | true =>
  obtain⟨M',r1,p1,l1,c1⟩:=hR.imm z.cells.toList t
  have hg:GamA M' (.d (.ref (.agg i.zero))) (.pointer (some ⟨w.heap.size,0,none⟩)):=by
   have hall:=(hz1 M').1
   refine .d _ _ (.ref _ w.heap.size 0 (fun j=>(z.cells.toList[j]?).getD undef) (fun j c hc=>?_) (fun j c hc=>?_) (fun j c hc=>?_)) <;>
    obtain⟨u,hu,hgu⟩:=hall.get (show i.zero[j]? = some c from hc)
   ·rw[Jp,hu];exact c1 _ _ hu
   ·rw[hu];exact hgu
   ·rw[hu];exact(hz1 M').2 u (Jm hu)
  obtain⟨s',h1,h2,h3⟩:=r1.put h hg
  exact⟨s',M',h1,h2,p1.ob_eq h3⟩
 | false =>
  simp only[aU,bY]at h
  have h:=h w.heap.size
  have hfree:=hR.rs.free (H9 w.heap.size)
  obtain⟨s1,h1,r1,p1,_,_⟩:=hR.new (.cells ⟨z.cells.toList⟩ t) kk _ h ⟨z.cells.toList,t,by rw[heap_alloc_new],ln hz M,(hz1 M).2,hfree⟩ (fun b e=>by simp[bu]at e;exact e.symm)
  obtain⟨s',h1,h2,h3⟩:=r1.set h1 (.ptr kk w.heap.size 0)
  rw[hd]
  exact⟨s',M,h1,h2,p1.ob_eq h3⟩
theorem qA{o:Oper}{K:St→Prop}(hR:Rel M s a w){t:TypeId}{i:TI}(hi:aX P t i=true)(ho:o.op=.alloc t){d kk k2:Nat}(hd:o.dst=some d){e sz:Nat}(hz0:i.zero=[.list sz []])
  (h:∀b,s.setO kk (.cells b [.sl k2 (.slice none 0 0)]) fun s1=>s1.setO k2 (.arr (.slice none 0 0) e sz false []) fun s2=>s2.putN d (.ptr kk b 0) K):EOk P o a M w s K:=by
 obtain⟨inf,z,_,_,hz,_,hrun⟩:=ga hi
 rw[hz0]at hz
 have hzc:z.cells.toList=[.slice none 0 0]:=by
  generalize z.cells.toList=l at hz
  match l,hz with
  | [.slice none 0 0],_=>rfl
 have hex:(execOp a.eval o).run P w=.ok (.value (.pointer (some ⟨w.heap.size,0,none⟩))) (w.alloc (.cells ⟨z.cells.toList⟩ t)):=by
  simp[execOp,ho,Instr.alloc,hrun,newVar,newRow]
 refine⟨_,_,_,hex,.inl rfl,?_⟩
 have h:=h w.heap.size
 have hfree:=hR.rs.free (H9 w.heap.size)
 obtain⟨s1,h1,r1,p1,_,_⟩:=hR.new (.cells ⟨z.cells.toList⟩ t) kk _ h ⟨z.cells.toList,t,by rw[heap_alloc_new],by rw[hzc];exact .cons (.sl _ _ _ _) .nil,by rw[hzc];simp[Value.oneCell'],hfree⟩ (fun b e=>by simp[bu]at e;exact e.symm)
 obtain⟨s2,h2,hn,hg,ho2,hj⟩:=St.setO_ok h1
 obtain⟨r2,p2⟩:=r1.upd (S:=fun _=>False) (M':=M) k2 _ hn hg ho2 hj (.refl _ _ _) r1.rs (fun _ _ h=>h.elim)
  ⟨[],World.ownsRow_nil _ 0 e sz,.nil,by simp,by simp,fun b hb=>by simp[Value.ownBlock]at hb⟩ (fun b hb=>by simp[bu,Value.ownBlock]at hb)
 obtain⟨s',h3,h4,h5⟩:=r2.set h2 (.ptr kk w.heap.size 0)
 rw[hd]
 exact⟨s',M,h3,h4,(p1.trans p2).ob_eq h5⟩
theorem qB{o:Oper}{K:St→Prop}(hR:Rel M s a w){t:TypeId}{i:TI}(hi:aX P t i=true)(ho:o.op=.alloc t){d kk:Nat}(hd:o.dst=some d){e:Nat}(hz0:i.zero=[.nilptr,.list 1 []])
  (h:∀b,s.setO kk (.bld b t e (.slice none 0 0) []) fun s'=>s'.putN d (.ptr kk b 0) K):EOk P o a M w s K:=by
 obtain⟨inf,z,_,_,hz,_,hrun⟩:=ga hi
 rw[hz0]at hz
 have hzc:z.cells.toList=[.pointer none,.slice none 0 0]:=by
  generalize z.cells.toList=l at hz
  match l,hz with
  | [.pointer none,.slice none 0 0],_=>rfl
 have hex:(execOp a.eval o).run P w=.ok (.value (.pointer (some ⟨w.heap.size,0,none⟩))) (w.alloc (.cells ⟨z.cells.toList⟩ t)):=by
  simp[execOp,ho,Instr.alloc,hrun,newVar,newRow]
 refine⟨_,_,_,hex,.inl rfl,?_⟩
 have h:=h w.heap.size
 have hfree:=hR.rs.free (H9 w.heap.size)
 obtain⟨s1,h1,r1,p1,_,_⟩:=hR.new (.cells ⟨z.cells.toList⟩ t) kk _ h ⟨_,.inl rfl,by rw[heap_alloc_new,hzc],World.ownsRow_nil _ 0 e 1,by simp[Value.ownBlock],hfree,fun g hg=>by simp[Value.ownBlock]at hg⟩
  (fun b e=>by rcases e with e | e;exact e.symm;simp[Value.ownBlock]at e)
 obtain⟨s',h1,h2,h3⟩:=r1.set h1 (.ptr kk w.heap.size 0)
 rw[hd]
 exact⟨s',M,h1,h2,p1.ob_eq h3⟩
theorem wP(htt:cn P tt=true){o:Oper}{K:St→Prop}(hR:Rel M s a w){t:TypeId}{x:Operand}(ho:o.op=.box t x){d kk:Nat}(hd:o.dst=some d){i:TI}{imm:Bool}
  (h:mA tt t (s.eval x) fun v=>match imm with
   | true=>ma s v fun s v=>match v.cells?.bind lj with
    | some ds=>match Nat.beq (dB ds) i.size with | true=>force ds fun ds=>s.put o.dst (.d (.ref (.agg ds))) K | false=>False
    | none=>False
   | false=>match v.cells? with
    | some l=>match Nat.beq (dB l) i.size with
     | true=>force l fun cs=>∀b,s.setO kk (.cells b cs) fun s'=>s'.putN d (.ptr kk b 0) K
     | false=>False
    | none=>False):EOk P o a M w s K:=by
 have hex:(execOp a.eval o).run P w=.ok (.value (.pointer (some ⟨w.heap.size,0,none⟩))) (w.alloc (.cells ⟨(a.eval x).cells.toList⟩ t)):=by
  simp[execOp,ho,Instr.box,newVar,newRow]
 refine⟨_,_,_,hex,.inl rfl,?_⟩
 obtain⟨v,h,hv⟩:=mR htt h (hR.eval x)
 cases imm with
 | true =>
  obtain⟨s1,v1,M1,h,r1,p1,l1,g1,_,_⟩:=kN hR hv h
  split at h
  ·rename_i ds hds
   split at h
   ·simp only[aU]at h
    obtain⟨l,hl,hl2⟩:=Option.bind_eq_some_iff.1 hds
    obtain⟨c1,c2⟩:=cells_ok g1 hl
    have hall:=Mz hl2 c1
    obtain⟨M2,r2,p2,l2,k2⟩:=r1.imm (a.eval x).cells.toList t
    have hg:GamA M2 (.d (.ref (.agg ds))) (.pointer (some ⟨w.heap.size,0,none⟩)):=by
     refine .d _ _ (.ref _ w.heap.size 0 (fun j=>((a.eval x).cells.toList[j]?).getD undef) (fun j c hc=>?_) (fun j c hc=>?_) (fun j c hc=>?_)) <;>
      obtain⟨u,hu,hgu⟩:=hall.get (show ds[j]? = some c from hc)
     ·rw[Jp,hu];exact k2 _ _ hu
     ·rw[hu];exact hgu.mono l2
     ·rw[hu];exact c2 u (Jm hu)
    obtain⟨s',h1,h2,h3⟩:=r2.put h hg
    exact⟨s',M2,h1,h2,(p1.trans p2).ob_eq h3⟩
   ·exact h.elim
  ·exact h.elim
 | false =>
  dsimp only at h
  split at h
  ·rename_i l hl
   split at h
   ·simp only[aU]at h
    have h:=h w.heap.size
    obtain⟨c1,c2⟩:=cells_ok hv hl
    have hfree:=hR.rs.free (H9 w.heap.size)
    obtain⟨s1,h1,r1,p1,_,_⟩:=hR.new (.cells ⟨(a.eval x).cells.toList⟩ t) kk _ h ⟨(a.eval x).cells.toList,t,by rw[heap_alloc_new],c1,c2,hfree⟩ (fun b e=>by simp[bu]at e;exact e.symm)
    obtain⟨s',h1,h2,h3⟩:=r1.set h1 (.ptr kk w.heap.size 0)
    rw[hd]
    exact⟨s',M,h1,h2,p1.ob_eq h3⟩
   ·exact h.elim
  ·exact h.elim
theorem setRow_other(w:World)(g:Nat)(cs:Array Value){b:Nat}(h:b≠g):(w.setRow g cs).heap[b]? = w.heap[b]?:=by
 simp only[World.setRow,Array.getElem?_modify]
 rw[if_neg (Ne.symm h)]
theorem Frm.setRow(S:Nat→Prop)(M:GM)(w:World)(g:Nat)(cs:Array Value)(h:S g):Frm S M w M (w.setRow g cs) :=
 ⟨rfl,rfl,rfl,by simp,fun b _ hb=>setRow_other w g cs (fun e=>hb (e▸h)),M.le_refl,fun _ _ _ _=>rfl,fun _ _ _=>rfl⟩
theorem Resp.setRow(hr:Resp M w){g:Nat}{old new:Array Value}{e:TypeId}(hg:w.heap[g]? = some (.cells old e (0,0)))(h:∀o v,M.c g o=some v→new[o]? = old[o]?)(hm:M.m g=none):Resp M (w.setRow g new):=by
 refine⟨fun b o v hv=>?_,fun b x hx=>?_,hr.t⟩
 ·have h0:=hr.c _ _ _ hv
  by_cases e:b=g
  ·subst e
   rw[cell_of_row _ b o _ _ _ (setRow_heap w b old new _ _ hg),h o v hv,← cell_of_row w b o _ _ _ hg];exact h0
  ·rw[World.cell?_of_block (w:=w) (by exact setRow_other w g new e)];exact h0
 ·have h0:=hr.m _ _ hx
  have:b≠g:=by rintro rfl;rw[hm]at hx;cases hx
  rw[setRow_other w g new this];exact h0
theorem iG{t:TypeId}{i:TI}(hi:aX P t i=true){val:Value}(hsz:val.cells.toList.length=i.size)(h1:∀u∈val.cells.toList,u.oneCell'=true){g p:Nat}{cur:Array Value}{e:TypeId}
  (hg:w.heap[g]? = some (.cells cur e (0,0))) (hp:p+i.size≤cur.size) :
  (Instr.storeAt t (.pointer (some ⟨g,p,none⟩)) val).run P w=.ok () (w.setRow g (setMany cur.toList p val.cells.toList).toArray):=by
 have hst:=run_storeCells_at P g p e val.cells.toList 0 cur w hg (by simpa [hsz]using hp) h1
 have hs':val.cells.size=i.size:=by simpa using hsz
 rw[Nat.add_zero,← dV _ _ _ (by simpa [hs']using hp)]at hst
 simp only[Instr.storeAt,Instr.sureAddr,Sem.run_bind,Sem.run_pure,Result.andThen_ok,storeVar,run_sizeOf hi,hs',ne_eq,not_true_eq_false,if_false]
 simpa using hst
theorem My{α:Type}:∀(vs A B:List α) (p:Nat),p+vs.length≤A.length→setMany (A++B) p vs=setMany A p vs++B
 | [],_,_,_,_=>rfl
 | v::vs,A,B,p,h=>by
  simp only[bz]
  simp only[IS]at h
  rw[List.set_append_left _ _ (by omega),My vs _ _ _ (by simp;omega)]
theorem fD{α:Type}:∀(vs A B:List α) (p:Nat),setMany (A++B) (A.length+p) vs=A++setMany B p vs
 | [],_,_,_=>rfl
 | v::vs,A,B,p=>by
  simp only[bz]
  rw[List.set_append_right _ _ (by omega),show A.length+p-A.length=p from by omega,Nat.add_assoc,fD vs]
theorem kO{α:Type}:∀(vs l:List α) (p k:Nat),(setMany l p vs).take k=setMany (l.take k) p vs
 | [],_,_,_=>rfl
 | v::vs,l,p,k=>by simp only[bz];rw[kO vs,List.take_set]
theorem dH{xs:List D}{sz:Nat}(h:∀x∈xs,(cellsOf x).length=sz):(xs.flatMap cellsOf).length=xs.length*sz:=by
 induction xs with
 | nil=>simp
 | cons x xs ih =>
  simp only[yZ,List.length_append,IS]
  rw[h x (by simp),ih (fun y hy=>h y (by simp[hy])),zP];omega
theorem qC{sz o:Nat}{ds:List D}{x y:D}(hy:cellsOf y=setMany (cellsOf x) o ds)(ho:o+ds.length≤sz) :
  ∀{xs:List D} {j:Nat},(∀z∈xs,(cellsOf z).length=sz)→xs[j]? = some x→(xs.set j y).flatMap cellsOf=setMany (xs.flatMap cellsOf) (j*sz+o) ds
 | [],j,_,h=>by simp at h
 | z::xs,0,hs,h=>by
  simp at h;subst h
  simp only[List.set_cons_zero,yZ,Nat.zero_mul,Jp,hy]
  rw[My _ _ _ _ (by rw[hs z (by simp)];exact ho)]
 | z::xs,j+1,hs,h=>by
  simp only[List.set_cons_succ,yZ]
  rw[qC hy ho (fun u hu=>hs u (by simp[hu])) (by simpa using h)]
  have hz:=hs z (by simp)
  rw[show(j+1)*sz+o=(cellsOf z).length+(j*sz+o)from by rw[hz,zP];omega,fD]
theorem ng(htt:cn P tt=true){o:Oper}{K:St→Prop}(hR:Rel M s a w){t:TypeId}{x y:Operand}(ho:o.op=.store t x y)(hd:o.dst=none){i:TI}(hi:aX P t i=true)
  {v0:AV} (hv0:GamA M v0 (a.eval y)) (h:mA tt t v0 fun v=>Oc s i (s.eval x) v K):EOk P o a M w s K:=by
 obtain⟨v,h,hv⟩:=mR htt h hv0
 have hx:=hR.eval x
 have hput:a.put o.dst undef=a:=by rw[hd];rfl
 unfold Oc at h
 simp only[eg]at h
 split at h
 ·rename_i k b p ex
  rw[ex]at hx
  generalize hax:a.eval x=vx at hx
  cases hx
  split at h
  ·rename_i b' cs hk
   split at h
   ·rename_i l hl
    split at h
    ·rename_i e1
     split at h
     ·rename_i e2
      obtain⟨rfl,h⟩:=h
      simp only[aU]at h
      have e1:l.length=i.size:=Ik e1
      have e2:p+i.size≤cs.length:=JF e2
      obtain⟨c1,c2⟩:=cells_ok hv hl
      obtain⟨vals,elem,hb,hall,h1,hfree⟩:=hR.ob.ok k _ hk
      have hlen:p+i.size≤vals.length:=by rw[← hall.1];exact e2
      have hst:=iG (w:=w) hi (by rw[← c1.1];exact e1) c2 hb (by simpa using hlen)
      obtain⟨s',hks,hn,hg,ho',hj⟩:=St.setO_ok h
      have hone:∀u∈setMany vals p (a.eval y).cells.toList,u.oneCell'=true:=by
       intro u hu
       rw[dV _ _ _ (by rw[← c1.1,e1];exact hlen)]at hu
       rcases List.mem_append.1 hu with hu | hu
       ·rcases List.mem_append.1 hu with hu | hu
        ·exact h1 u (JA hu)
        ·exact c2 u hu
       ·exact h1 u (By hu)
      obtain⟨r1,p1⟩:=hR.upd (S:=fun q=>q=b) (M':=M) (w':=w.setRow b (setMany vals p (a.eval y).cells.toList).toArray) k _ hn hg ho' hj
       (Frm.setRow _ M w b _ rfl) (hR.rs.setRow hb (fun o u hu=>by rw[hfree.c]at hu;cases hu) hfree.m) (fun q _ hq=>⟨_,hk,by rw[hq];rfl⟩)
       ⟨_,elem,setRow_heap w b _ _ _ _ hb,eh c1 _ _ _ hall,hone,hfree⟩ (fun q hq=>.inr ⟨_,hk,hq⟩)
      refine⟨.skip,_,undef,?_,.inr ⟨rfl,rfl⟩,s',M,hks,by rw[hput];exact r1,p1⟩
      simp[execOp,ho,hax,hst]
     ·exact h.elim
    ·exact h.elim
   ·exact h.elim
  ·exact h.elim
 ·rename_i k hdr sz j p ex
  rw[ex]at hx
  generalize hax:a.eval x=vx at hx
  split at h
  ·rename_i h' e sz' xs hk
   obtain⟨⟨rfl,rfl⟩,h⟩:=h
   obtain⟨x0,_,hxj,h⟩:=h
   simp only[Int.toNat_natCast]at hxj
   cases hx with | el _ g len cap _ _ _=>?_
   obtain⟨vals,hown,hall,h1,hsz,hfree⟩:=hR.ob.ok k _ hk
   have hown0:=hown
   rcases hown.2 with⟨e0,_⟩ | ⟨g',cap',cur,e0,_,hgg,hnc,hcm,hcs,htake⟩
   ·cases e0
   simp only[Value.slice.injEq,Option.some.injEq,Addr.mk.injEq,and_true]at e0
   obtain⟨rfl,rfl,rfl⟩:=e0
   have hfc:∀o,M.c g o=none:=fun o=>(hfree g rfl).2 o (.inl rfl)
   have hx0:(cellsOf x0).length=sz:=hsz x0 (Jm hxj)
   have hjl:j<xs.length:=(List.getElem?_eq_some_iff.1 hxj).1
   split at h
   ·rename_i ds hds
    split at h
    ·rename_i e1
     split at h
     ·rename_i e2
      have e1:ds.length=i.size:=Ik e1
      have e2:p+i.size≤(cellsOf x0).length:=JF e2
      obtain⟨l,hl,hl2⟩:=Option.bind_eq_some_iff.1 hds
      obtain⟨c1,c2⟩:=cells_ok hv hl
      have cD:=Mz hl2 c1
      have hroom:j*sz+p+i.size≤xs.length*sz:=by
       have:(j+1)*sz≤xs.length*sz:=BO _ hjl
       rw[zP]at this;omega
      have hcap:xs.length*sz≤cur.size:=by rw[hcs];exact BO _ hnc
      have hst:=iG (w:=w) hi (p:=j*sz+p) (by rw[← cD.1];exact e1) c2 hgg (by omega)
      -- for whatever element comes out
      have fin:∀(yd:D) (K':St→Prop),cellsOf yd=setMany (cellsOf x0) p ds→(s.setO k (.arr (.slice (some ⟨g,0,none⟩) xs.length cap) e sz false (xs.set j yd)) K')→(∀q,K' q→K q)→EOk P o a M w s K:=by
       intro yd K' hy h hKK
       obtain⟨s',hks,hn,hg,ho',hj⟩:=St.setO_ok h
       have hflat:=qC (sz:=sz) hy (by omega) hsz hxj
       have hone:∀u∈setMany vals (j*sz+p) (a.eval y).cells.toList,u.oneCell'=true:=by
        intro u hu
        rw[dV _ _ _ (by rw[← cD.1,e1,hown0.1];exact hroom)]at hu
        rcases List.mem_append.1 hu with hu | hu
        ·rcases List.mem_append.1 hu with hu | hu
         ·exact h1 u (JA hu)
         ·exact c2 u hu
        ·exact h1 u (By hu)
       have hsz':∀z∈xs.set j yd,(cellsOf z).length=sz:=by
        intro z hz
        rcases List.mem_or_eq_of_mem_set hz with hz | rfl
        ·exact hsz z hz
        ·rw[hy,bO];exact hx0
       have hrow:(w.setRow g (setMany cur.toList (j*sz+p) (a.eval y).cells.toList).toArray).ownsRow 0 e sz (.slice (some ⟨g,0,none⟩) xs.length cap) (xs.set j yd).length (setMany vals (j*sz+p) (a.eval y).cells.toList):=by
        refine⟨by rw[bO,hown0.1];simp,.inr ⟨g,cap,_,by simp,Nat.zero_le _,setRow_heap w g _ _ _ _ hgg,by simpa using hnc,hcm,by simp[bO,hcs],?_⟩⟩
        simp only[List.length_set]
        rw[kO,htake]
       obtain⟨r1,p1⟩:=hR.upd (S:=fun q=>q=g) (M':=M) (w':=w.setRow g (setMany cur.toList (j*sz+p) (a.eval y).cells.toList).toArray) k _ hn hg ho' hj
        (Frm.setRow _ M w g _ rfl) (hR.rs.setRow hgg (fun o u hu=>by rw[hfc]at hu;cases hu) (hfree g rfl).1) (fun q _ hq=>⟨_,hk,by rw[hq];rfl⟩)
        ⟨_,hrow,by rw[hflat];exact eh cD _ _ _ hall,hone,hsz',fun b hb=>⟨(hfree b hb).1,fun o _=>(hfree b hb).2 o (.inl rfl)⟩⟩ (fun q hq=>.inr ⟨_,hk,hq⟩)
       refine⟨.skip,_,undef,?_,.inr ⟨rfl,rfl⟩,s',M,hKK _ hks,by rw[hput];exact r1,p1⟩
       simp[execOp,ho,hax,hst]
      split at h
      ·rename_i cs
       simp only[aU]at h
       obtain⟨zs,rfl,h⟩:=h
       exact fin _ _ rfl h (fun _ h=>h)
      ·rename_i hna
       rcases ds with _ | ⟨d,_ | ⟨d2,ds⟩⟩
       ·exact h.elim
       ·obtain⟨zs,rfl,h⟩:=h
        refine fin d _ ?_ h (fun _ h=>h)
        have hc0:cellsOf x0=[x0]:=by cases x0<;>first | rfl | exact absurd rfl (hna _)
        rw[hc0]at e2 ⊢
        simp at e1 e2
        have hp0:p=0:=by omega
        subst hp0
        obtain⟨u,us,hu,hgu,ht⟩:=cD.inv
        have hone:=c2 u (by rw[hu];simp)
        show cellsOf d=[d]
        cases hgu<;>first | rfl | (simp[Value.oneCell']at hone)
       ·exact h.elim
     ·exact h.elim
    ·exact h.elim
   ·exact h.elim
  ·-- a row's array comes back
   rename_i h' e re rsz hs q xs hk
   split at h
   ·rename_i kn h2
    split at h
    ·rename_i h3 re' rsz' zs hkn
     split at h
     ·rename_i ekn e1
      have hne:kn≠k:=Nat.ne_of_beq_eq_false ekn
      have e1:i.size=1:=Ik e1
      obtain⟨⟨rfl,rfl,rfl,rfl,rfl,rfl⟩,hjl,ys,rfl,h⟩:=h
      have h:=h (mz hs j h2)
      cases hx with | el _ g len cap _ _ _=>?_
      obtain⟨haeq,_,_,_,rfl⟩:=hv.sl_inv
      obtain⟨hown,hfree,hsl,hrow,hd1,hd2⟩:=hR.ob.ok k _ hk
      have hrown:=hR.ob.ok kn _ hkn
      have hdis:∀b,bu (.rows (.slice (some ⟨g,0,none⟩) len cap) e re rsz hs (some j) xs) b→(Value.slice _ _ _).ownBlock=some b→False:=fun b h1 h2=>hne (hR.ob.dj kn k _ _ b hkn hk h2 h1)
      rcases hown.2 with⟨e0,_⟩ | ⟨g',cap',cur,e0,_,hgg,hnc,hcm,hcs,htake⟩
      ·cases e0
      simp only[Value.slice.injEq,Option.some.injEq,Addr.mk.injEq,and_true]at e0
      obtain⟨rfl,rfl,rfl⟩:=e0
      have hfc:∀o,M.c g o=none:=fun o=>(hfree g rfl).c o
      have hcells:(a.eval y).cells.toList=[a.eval y]:=by rw[haeq];rfl
      have hst:=iG (w:=w) hi (val:=a.eval y) (p:=j*1+0) (by rw[hcells,e1];rfl) (by rw[hcells,haeq];simp[Value.oneCell']) hgg (by rw[hcs,e1];omega)
      rw[hcells]at hst
      obtain⟨s1,h,hn1,hg1,ho1,hj1⟩:=St.setO_ok h
      obtain⟨s',hks,hn,hg,ho',hj'⟩:=St.setO_ok h
      have hset:setMany cur.toList (j*1+0) [a.eval y]=cur.toList.set j (a.eval y):=by simp[bz,gS]
      have hvals:((Jq xs.length).map hs).set j (a.eval y)=(Jq xs.length).map (mz hs j (a.eval y)):=by
       apply List.ext_getElem?
       intro q
       rw[Bq]
       by_cases e:j=q
       ·subst e
        simp[hjl,yM,mz]
       ·simp only[e,if_false,List.getElem?_map]
        cases hq:(Jq xs.length)[q]? with
        | none=>rfl
        | some u =>
         have hql:q<xs.length:=by have:=(List.getElem?_eq_some_iff.1 hq).1;simpa using this
         rw[yM hql]at hq;cases hq
         simp[mz,Ne.symm e]
      have hst2:∃aa nn cc,a.eval y=.slice aa nn cc:=⟨_,_,_,haeq⟩
      have hrown':jh M w (a.eval y) re rsz false zs:=by rw[haeq];exact hrown
      have hdis':∀b,bu (.rows (.slice (some ⟨g,0,none⟩) xs.length cap) e re rsz hs (some j) xs) b→(a.eval y).ownBlock=some b→False:=fun b h1 h2=>hdis b h1 (by rw[← haeq];exact h2)
      have hkeep:∀(hd:Value) (fz:Bool) (l:List D),jh M w hd re rsz fz l→hd.ownBlock≠some g→jh M (w.setRow g (setMany cur.toList (j*1+0) [a.eval y]).toArray) hd re rsz fz l:=fun hd fz l h1 h2 =>
       gy h1 M.le_refl fun b hb=>⟨setRow_other w g _ (fun e=>h2 (by rw[hb,e])),fun _=>rfl,rfl⟩
      have hup:∀q,mz hs j (a.eval y) q=if q=j then a.eval y else hs q:=fun _=>rfl
      have hnew:gW M (w.setRow g (setMany cur.toList (j*1+0) [a.eval y]).toArray) (.rows (.slice (some ⟨g,0,none⟩) xs.length cap) e re rsz (mz hs j (a.eval y)) none (xs.set j zs)):=by
       refine⟨⟨by simp,.inr ⟨g,cap,_,by simp,Nat.zero_le _,setRow_heap w g _ _ _ _ hgg,by simpa using hnc,hcm,by simp[bO,hcs],?_⟩⟩,hfree,fun q _=>?_,fun q x hx _=>?_,fun q hq _ b hb=>?_,fun p q hp hq _ _ b hb1 hb2=>?_⟩
       ·rw[hset,List.length_set,← hvals,← htake]
        simp[List.take_set]
       ·rw[hup];split
        ·exact hst2
        ·rename_i hq _
         exact hsl q (by simpa using hq)
       ·rw[Bq]at hx
        rw[hup]
        split
        ·rename_i e;subst e
         simp[hjl]at hx;subst hx
         exact hkeep _ _ _ hrown' (fun e=>hdis' g (.inl rfl) e)
        ·rename_i e
         rw[if_neg (Ne.symm e)]at hx
         have hql:q<xs.length:=(List.getElem?_eq_some_iff.1 hx).1
         exact hkeep _ _ _ (hrow q x hx (fun e'=>e (by cases e';rfl))) (fun e'=>hd1 q hql (fun e'=>e (by cases e';rfl)) g e' rfl)
       ·rw[hup]at hb
        have hql:q<xs.length:=by simpa using hq
        split at hb
        ·intro e';exact hdis' b (.inl e') hb
        ·rename_i e;exact hd1 q hql (fun e'=>e (by cases e';rfl)) b hb
       ·rw[hup]at hb1 hb2
        have hpl:p<xs.length:=by simpa using hp
        have hql:q<xs.length:=by simpa using hq
        split at hb1<;>split at hb2
        ·rename_i e1 e2;rw[e1,e2]
        ·rename_i e1 e2;exact(hdis' b (.inr ⟨q,hql,fun e'=>e2 (by cases e';rfl),hb2⟩) hb1).elim
        ·rename_i e1 e2;exact(hdis' b (.inr ⟨p,hpl,fun e'=>e1 (by cases e';rfl),hb1⟩) hb2).elim
        ·rename_i e1 e2;exact hd2 p q hpl hql (fun e'=>e1 (by cases e';rfl)) (fun e'=>e2 (by cases e';rfl)) b hb1 hb2
      obtain⟨r1,p1⟩:=hR.upd2 (s':=s') (S:=fun q=>q=g) (M':=M) (w':=w.setRow g (setMany cur.toList (j*1+0) [a.eval y]).toArray) k kn
       (.rows (.slice (some ⟨g,0,none⟩) xs.length cap) e re rsz (mz hs j (a.eval y)) none (xs.set j zs)) (.arr (.slice none 0 0) re rsz false []) hne (by rw[hn,hn1]) (fun q=>by rw[hg,hg1])
       (by rw[haeq];exact ho') (by rw[hj' kn hne];exact ho1) (fun q h1 h2=>by rw[hj' q h1,hj1 q h2])
       (Frm.setRow _ M w g _ rfl) (hR.rs.setRow hgg (fun o u hu=>by rw[hfc]at hu;cases hu) (hfree g rfl).m) (fun q _ hq=>⟨k,_,.inl rfl,hk,.inl (by rw[hq];rfl)⟩)
       hnew ⟨[],World.ownsRow_nil _ 0 re rsz,.nil,by simp,by simp,fun b hb=>by simp[Value.ownBlock]at hb⟩
       (fun b hb=>.inr (by
        rcases hb with(hb | ⟨q,hq,_,hb⟩) | hb
        ·exact⟨k,_,.inl rfl,hk,.inl hb⟩
        ·have hql:q<xs.length:=by simpa using hq
         rw[hup]at hb
         split at hb
         ·exact⟨kn,_,.inr rfl,hkn,by rw[haeq]at hb;exact hb⟩
         ·rename_i e;exact⟨k,_,.inl rfl,hk,.inr ⟨q,hql,fun e'=>e (by cases e';rfl),hb⟩⟩
        ·simp[bu,Value.ownBlock]at hb)) (fun b _ hb=>by simp[bu,Value.ownBlock]at hb)
      refine⟨.skip,_,undef,?_,.inr ⟨rfl,rfl⟩,s',M,hks,by rw[hput];exact r1,p1⟩
      have hz:j*1+0=j:=by omega
      rw[hz]at hst hax ⊢
      simp[execOp,ho,hax,hst]
     ·exact h.elim
    ·exact h.elim
   ·exact h.elim
  ·exact h.elim
 ·exact h.elim
end
end Go.Abs
