/-
 Soundness, sixth part: arrays of the call's own (literals, make, append), structs put together, slice expressions.
-/
import Derived.Test.YtdodahpkpeodfaaGreatDoorAbsH
set_option linter.all false
namespace Go.Abs
open Go
section
variable {P:Program}{tt:TT}{M M':GM}{s s':St}{a:Act}{w w':World}
theorem oT(hR:Rel M s a w){kk d e sz:Nat}{xs:List D}{vals rest:List Value}{cap:Nat}{K:St→Prop}(h:gw s kk d e sz xs K)
  (hall:All2 (Gam M) (xs.flatMap cellsOf) vals) (h1:∀v∈vals,v.oneCell'=true) (hsz:∀x∈xs,(cellsOf x).length=sz) (hc:xs.length≤cap) (hm:cap≤maxLen) (hr:(vals++rest).length=cap*sz) :
  ∃s',K s'∧Rel M s' (a.put (some d) (.slice (some ⟨w.heap.size,0,none⟩) xs.length cap)) (w.alloc (.cells ⟨vals++rest⟩ e))∧Stp s.ob M w s'.ob M (w.alloc (.cells ⟨vals++rest⟩ e)):=by
 have h:=h (.slice (some ⟨w.heap.size,0,none⟩) xs.length cap)
 have hlen:vals.length=xs.length*sz:=by rw[← hall.1,dH hsz]
 have hfree:=hR.rs.free (Nat.le_refl w.heap.size)
 have hok:gW M (w.alloc (.cells ⟨vals++rest⟩ e)) (.arr (.slice (some ⟨w.heap.size,0,none⟩) xs.length cap) e sz false xs):=by
  refine⟨vals,⟨hlen,.inr ⟨w.heap.size,cap,⟨vals++rest⟩,rfl,Nat.zero_le _,by rw[heap_alloc_new],hc,hm,by simpa using hr,?_⟩⟩,hall,h1,hsz,fun b hb=>?_⟩
  ·show(vals++rest).take (xs.length*sz)=vals
   rw[← hlen];exact List.take_left
  ·have:b=w.heap.size:=by simp[Value.ownBlock]at hb;exact hb.symm
   subst this
   exact⟨hfree.m,fun o _=>hfree.c o⟩
 obtain⟨s1,g1,r1,p1,_,_⟩:=hR.new (.cells ⟨vals++rest⟩ e) kk _ h hok (fun b e'=>by simp[bu,Value.ownBlock]at e';exact e'.symm)
 obtain⟨s',g2,r2,g3⟩:=r1.set g1 (.sl kk _ _ _)
 exact⟨s',g2,r2,p1.ob_eq g3⟩
theorem foldl_set(off:Nat):∀(vs:List Value) (j:Nat) (cs:Array Value),(vs.zipIdx j).foldl (fun cs (x:Value×Nat)=>cs.setIfInBounds (off+x.2) x.1) cs=⟨setMany cs.toList (off+j) vs⟩
 | [],j,cs=>by simp[gS]
 | v::vs,j,cs=>by
  simp only[List.zipIdx_cons,List.foldl_cons,bz]
  rw[foldl_set off vs (j+1)]
  simp[Nat.add_assoc]
theorem tl(off:Nat)(v:Value)(cs:Array Value):v.cells.zipIdx.foldl (fun cs (x:Value×Nat)=>cs.setIfInBounds (off+x.2) x.1) cs=⟨setMany cs.toList off v.cells.toList⟩:=by
 rw[← Array.foldl_toList,Array.toList_zipIdx]
 have:=foldl_set off v.cells.toList 0 cs
 simpa using this
theorem lr{place:Nat→Option (Nat×Nat)}{cells:Array Value}{n:Nat}{v:Value}{r:List (Nat×Value)}{off sz:Nat}(hp:place n=some (off,sz))(h1:v.cells.size=sz)(h2:off+sz≤cells.size) :
  Instr.fill place cells ((n,v)::r)=Instr.fill place ⟨setMany cells.toList off v.cells.toList⟩ r:=by
 rw[Instr.fill,hp]
 have:¬(v.cells.size≠sz∨off+v.cells.size>cells.size):=by omega
 simp only[Bool.or_eq_true,decide_eq_true_eq,ne_eq,gt_iff_lt]
 rw[if_neg (by simpa using this)]
 exact congrArg (Instr.fill place · r) (tl off v cells)
def pF (M:GM)(p:Nat×AV)(q:Nat×Value):Prop:=p.1=q.1∧GamA M p.2 q.2
theorem pG(l:List Value)(i:Nat)(v:Value)(h:l[i]? = some v):setMany l i [v]=l:=by
 simp only[bz,gS]
 apply List.ext_getElem?
 intro j
 rw[List.getElem?_set]
 split
 ·rename_i e;subst e
  split
  ·rw[h]
  ·rename_i hlt
   have:=(List.getElem?_eq_some_iff.1 h).1
   exact absurd this hlt
 ·rfl
theorem nh{place:Nat→Option (Nat×Nat)}{K:List AV→Prop}:∀{parts:List (Nat×AV)} {vals:List (Nat×Value)} {cs:List AV} {cells:Array Value},All2 (pF M) parts vals→All2 (GamA M) cs cells.toList →
  (∀v∈cells.toList,v.oneCell'=true)→sA K place parts cs →
  ∃cs' cells',K cs'∧Instr.fill place cells vals=some cells'∧All2 (GamA M) cs' cells'.toList∧(∀v∈cells'.toList,v.oneCell'=true)∧cells'.size=cells.size
 | [],vals,cs,cells,hp,hc,h1,h=>⟨cs,cells,h,by rw[hp.inv_nil];rfl,hc,h1,rfl⟩
 | (n,v)::r,vals,cs,cells,hp,hc,h1,h=>by
  obtain⟨⟨n',u⟩,us,rfl,⟨hn,hu⟩,ht⟩:=hp.inv
  simp only at hn hu
  subst hn
  simp only[rA,uw,f7,eg]at h
  split at h
  ·rename_i off sz hpl
   split at h
   ·cases hu
    split at h
    ·rename_i z e1 e2
     have e1:sz=1:=Nat.eq_of_beq_eq_true e1
     subst e1
     obtain⟨y,hy,hgy⟩:=hc.get e2
     cases hgy
     have hlt:off<cells.size:=by have:=(List.getElem?_eq_some_iff.1 hy).1;simpa using this
     rw[lr hpl rfl (by omega)]
     have:(⟨setMany cells.toList off (Value.slice none 0 0).cells.toList⟩:Array Value)=cells:=by
      show(⟨setMany cells.toList off [Value.slice none 0 0]⟩:Array Value)=cells
      rw[pG _ _ _ hy]
     rw[this]
     exact nh ht hc h1 h
    ·exact h.elim
   ·split at h
    ·rename_i l hl
     split at h
     ·rename_i e1
      split at h
      ·rename_i e2
       have e1:l.length=sz:=Nat.eq_of_beq_eq_true e1
       have e2:off+sz≤cs.length:=Nat.le_of_ble_eq_true e2
       simp only[aU]at h
       obtain⟨c1,c2⟩:=cells_ok hu hl
       have hus:u.cells.size=sz:=by rw[← e1,c1.1];simp
       have hcs:cs.length=cells.size:=by rw[hc.1];simp
       rw[lr hpl hus (by omega)]
       have hone:∀v∈(⟨setMany cells.toList off u.cells.toList⟩:Array Value).toList,v.oneCell'=true:=by
        intro x hx
        have hx:x∈setMany cells.toList off u.cells.toList:=hx
        rw[dV _ _ _ (by simp;omega)]at hx
        rcases List.mem_append.1 hx with hx | hx
        ·rcases List.mem_append.1 hx with hx | hx
         ·exact h1 x (List.mem_of_mem_take hx)
         ·exact c2 x hx
        ·exact h1 x (List.mem_of_mem_drop hx)
       obtain⟨cs',cells',g1,g2,g3,g4,g5⟩:=nh ht (cells:=⟨setMany cells.toList off u.cells.toList⟩) (eh c1 _ _ _ hc) hone h
       refine⟨cs',cells',g1,g2,g3,g4,?_⟩
       rw[g5]
       show(setMany cells.toList off u.cells.toList).length=_
       rw[bO];simp
      ·exact h.elim
     ·exact h.elim
    ·exact h.elim
  ·exact h.elim
theorem ni{i:TI}{l:List (Nat×Nat)}:∀{fs:List Field},fs.map (fun f=>(f.offset,P.cellsOf f.type))=l→(∀p∈l,0<p.2∧p.1+p.2≤i.size) →
  (fs.mapM (m:=Sem) fun f=>do pure (f.offset,← sizeOf f.type)).run P w=.ok l w:=by
 intro fs
 induction fs generalizing l with
 | nil=>intro h _;simp at h;subst h;rfl
 | cons f fs ih =>
  intro h hp
  simp only[List.map_cons]at h
  subst h
  have h0:=(hp (f.offset,P.cellsOf f.type) (by simp)).1
  have:=ih rfl (fun p hp'=>hp p (by simp[hp']))
  simp only[List.mapM_cons,Sem.run_bind,aQ h0,Result.andThen_ok,Sem.run_pure,this]
theorem tn{t:TypeId}{i:TI}(hi:aX P t i=true){parts:List (Nat×AV)}{vals:List (Nat×Value)}(hp:All2 (pF M) parts vals){K:AV→Prop}(h:pr i parts K) :
  ∃av v,(Instr.build t vals.toArray).run P w=.ok v w∧GamA M av v∧K av:=by
 obtain⟨inf,z,_,_,hz,hzs,hrun⟩:=ga hi
 obtain⟨_,d,_,hd,_,_,htk,_⟩:=aB hi
 have hz1:=cF hz M
 unfold pr at h
 simp only[bY]at h
 split at h
 ·rename_i hag
  obtain⟨cs',cells',g1,g2,g3,g4,g5⟩:=nh (cells:=z.cells) hp (ln hz M) hz1.2 h
  have fin:(Instr.build t vals.toArray).run P w=.ok (.agg cells') w:=by
   unfold TK.isAgg at hag
   split at hag
   ·rename_i l hk
    obtain⟨fs,rfl,hl,hp'⟩:=oR htk hk
    have hm:=ni (P:=P) (w:=w) (i:=i) hl hp'
    have hm':(fs.mapM (m:=Sem) fun f=>do pure (f.offset,← sizeOf f.type)).run P w=.ok l.toArray w:=by
     rw[Array.mapM_eq_mapM_toList,Sem.run_map,hm];rfl
    have hpl:(fun x=>l.toArray[x]?)=m6 i:=by
     funext n;simp[m6,hk,f7]
    simp only[Instr.build,Sem.run_bind,hrun,Result.andThen_ok,run_underlying hd,hm',hpl,g2]
    rfl
   ·rename_i n e hk
    obtain⟨rfl,he,hpos,_⟩:=ip htk hk
    have hso:=aQ (P:=P) (t:=e) (by omega) w
    have hpl:(fun j=>some (j*P.cellsOf e,P.cellsOf e))=m6 i:=by
     funext j;simp[m6,hk,he]
    simp only[Instr.build,Sem.run_bind,hrun,Result.andThen_ok,run_underlying hd,hso,hpl,g2]
    rfl
   ·cases hag
  split at g1
  ·rename_i ds hds
   have:=pC hds g3
   exact⟨_,_,fin,.d _ _ (.agg _ _ this.1 this.2 g4),g1⟩
  ·exact⟨_,_,fin,.agg _ _ g3.1 g3.2 g4,g1⟩
 ·exact h.elim
theorem qD{ps:List (Nat×Operand)}{vs':List AV}{ev:Operand→Value}(h:All2 (GamA M) vs' (ps.map fun p=>ev p.2)) :
  All2 (pF M) ((ps.map fun p=>p.1).zip vs') (ps.map fun p=>(p.1,ev p.2)):=by
 induction ps generalizing vs' with
 | nil=>simp;exact .nil
 | cons p ps ih =>
  simp only[List.map_cons]at h ⊢
  cases vs' with
  | nil=>have:=h.1;simp at this
  | cons v vs' =>
   obtain⟨y,ys,e,hv,ht⟩:=h.inv
   simp only[List.cons.injEq]at e
   obtain⟨rfl,rfl⟩:=e
   exact .cons ⟨rfl,hv⟩ (ih ht)
theorem nj{own:Bool}(hR:Rel M s a w){vs:List AV}{vals:List Value}(hv:All2 (GamA M) vs vals){K:St→List AV→Prop}(h:qo own vs s K) :
  ∃s' vs' M',K s' vs'∧Rel M' s' a w∧Stp s.ob M w s'.ob M' w∧M.le M'∧All2 (GamA M') vs' vals∧(∀q,s'.get q=s.get q)∧s'.n=s.n:=by
 cases own with
 | true=>exact⟨s,vs,M,h,hR,.refl _ _ _,M.le_refl,hv,fun _=>rfl,rfl⟩
 | false=>exact jU hR hv h
theorem uI{o:Oper}{K:St→Prop}{own:Bool}(hR:Rel M s a w){t:TypeId}{i:TI}(hi:aX P t i=true){parts:Array (Nat×Operand)}(ho:o.op=.build t parts)
  (h:qo own (bN (fun p=>s.eval p.2) parts.toList) s fun s' vs=>pr i (po (bN (fun p=>p.1) parts.toList) vs) fun r=>s'.put o.dst r K):EOk P o a M w s K:=by
 simp only[bY,kJ]at h
 have hv:All2 (GamA M) (parts.toList.map fun p=>s.eval p.2) (parts.toList.map fun p=>a.eval p.2):=.list_map _ _ _ fun p=>hR.eval p.2
 obtain⟨s1,vs1,M1,h,r1,p1,l1,g1,_,_⟩:=nj hR hv h
 obtain⟨av,v,g2,g3,g4⟩:=tn (w:=w) hi (qD g1) h
 obtain⟨s',g5,g6,g7⟩:=r1.put g4 g3
 refine⟨.value v,w,v,?_,.inl rfl,s',M1,g5,g6,p1.ob_eq g7⟩
 have:parts.map (fun x=>(x.1,a.eval x.2))=(parts.toList.map fun p=>(p.1,a.eval p.2)).toArray:=by rw[← Array.toList_inj];simp
 simp only[execOp,ho,this,Sem.run_bind,g2]
 rfl
end
end Go.Abs
