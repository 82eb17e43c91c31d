/-
 Soundness: ranges over maps.
-/
import Derived.Test.YtdodahpkpeodfaaGreatDoorAbsK
import Derived.Laws.IdiomRangeMap
set_option linter.all false
open Bool renaming false_eq_true→IE
open List renaming ext_getElem?→BQ,getElem?_eq_none→AG,getElem?_range→yM,map_append→zR
namespace Go.Abs
open Go
section
variable {P:Program}{tt:TT}{M M':GM}{s s':St}{a:Act}{w w':World}
theorem pU(w:World)(ty:TypeId)(r bm n:Nat)(seen:Array Nat)(es:Array MapEntry)(hr:w.heap[r]? = some (.mapIter (some bm) n seen n))(hb:w.heap[bm]? = some (.map es n))(hold:∀x∈es.toList,x.born<n) :
  ((leftOf es seen).size=0∧(Instr.next (.pointer (some ⟨r,0,none⟩)) false ty).run P w=.ok (.tuple #[.bool false]) w) ∨
  ∃e∈(leftOf es seen).toList,∃w1:World,(w1=w∨w1=w.drew)∧(Instr.next (.pointer (some ⟨r,0,none⟩)) false ty).run P w=.ok (.tuple #[.bool true,e.key,e.val]) {w1 with heap:=w1.heap.setIfInBounds r (.mapIter (some bm) n (seen.push e.born) n)}:=by
 simp only[Instr.next,getObj,Sem.run_bind,Sem.run,hr,hb,Result.andThen,next_test_false seen es n n hold (Nat.le_refl _),IE,if_false]
 unfold leftOf
 have hmem:∀x∈(Array.filter (fun e=>!seen.contains e.born) es).toList,x.born<n:=fun x hx=>hold x (by simp at hx ⊢;exact hx.1)
 generalize Array.filter (fun e=>!seen.contains e.born) es=L at hmem ⊢
 have e1:L.filter (fun x=>decide (x.born<n))=L:=Array.filter_eq_self.2 (fun x hx=>by simpa using hmem x (by simpa using hx))
 have e2:L.filter (fun x=>decide (x.born≥n))=#[]:=by
  rw[Array.filter_eq_empty_iff]
  intro x hx
  have:=hmem x (by simpa using hx)
  simp
  omega
 simp only[e1,e2,Array.append_empty]
 by_cases h0:L.size=0
 ·left
  have:L=#[]:=Array.eq_empty_of_size_eq_zero h0
  subst this
  refine⟨rfl,?_⟩
  simp[choose,Sem.run,Question.forced]
 ·right
  have hne:L.isEmpty=false:=by simp[Array.isEmpty,h0]
  simp only[hne,IE,if_false,Array.empty_append,Array.size_map]
  have hch:∃(j:Nat) (w1:World),j<L.size∧(w1=w∨w1=w.drew)∧(choose (Question.mapNext L.size)).run P w=.ok j w1:=by
   by_cases hf:L.size≤1
   ·exact⟨0,w,by omega,.inl rfl,by simp[choose,Sem.run,Question.forced,hf]⟩
   ·exact⟨_,w.drew,Nat.mod_lt _ (by omega),.inr rfl,by
     simp only[choose,Sem.run,Question.forced,decide_eq_true_eq,hf,if_false,Question.cut]
     rfl⟩
  obtain⟨j,w1,hj,hal,hrun⟩:=hch
  have hr1:w1.heap[r]? = some (.mapIter (some bm) n seen n):=by rcases hal with rfl | rfl<;>exact hr
  refine⟨L[j],by simp,w1,hal,?_⟩
  have hset:∀(o':Obj),(setObj r o').run P w1=.ok () {w1 with heap:=w1.heap.setIfInBounds r o'}:=fun o'=>by
   simp only[setObj,Sem.run,hr1]
  simp only[hrun,Array.getElem?_map,Array.getElem?_eq_getElem hj,Option.map_some,Sem.run_bind,hset,Result.andThen]
  rfl
theorem u7{o:Oper}{K:St→Prop}(hR:Rel M s a w){t kt et:TypeId}{i:TI}(hi:aX P t i=true)(hk:i.k=.map kt et){x:Operand}(ho:o.op=.range t x){d kk:Nat}(hd:o.dst=some d)
  (h:rB s kk d (s.eval x) K):EOk P o a M w s K:=by
 obtain⟨_,dd,_,hdd,_,_,htk,_⟩:=aB hi
 have ed:dd=.map kt et:=by cases dd<;>simp[fR,hk]at htk;rw[htk.1,htk.2]
 subst ed
 unfold rB at h
 split at h
 ·rename_i k b em
  have hm:=hR.eval x
  rw[em]at hm
  generalize hmv:a.eval x=mv at hm
  cases hm
  split at h
  ·rename_i b' es hlk
   obtain⟨rfl,h⟩:=h
   obtain⟨arr,clock,hb,hl,hg,hck,hfree⟩:=hR.ob.ok _ _ hlk
   have h:=h w.heap.size
   have hfr:=hR.rs.free (Nat.le_refl w.heap.size)
   have hrun:=run_range_map (P:=P) w t kt et b ⟨arr⟩ clock hdd hb
   have hce:clock=es.length:=by rw[hck,← hl]
   obtain⟨s1,h1,r1,p1,_,_⟩:=hR.new (.mapIter (some b) clock #[] clock) kk _ h
    ⟨#[],List.range es.length,by rw[heap_alloc_new,hce],List.nodup_range,fun i=>by simp,by
     apply BQ
     intro i
     simp only[List.getElem?_map]
     by_cases hi:i<es.length
     ·rw[yM hi];simp[hi]
     ·rw[AG (by omega),AG (by simp;omega)];rfl,(fun e he=>by cases he),hfr⟩ (fun q e=>by simp[bu]at e;exact e.symm)
   obtain⟨s',k1,k2,k3⟩:=r1.set h1 (.it kk w.heap.size)
   refine⟨.value (.pointer (some ⟨w.heap.size,0,none⟩)),_,_,?_,.inl rfl,s',M,k1,by rw[hd];exact k2,p1.ob_eq k3⟩
   simp[execOp,ho,hmv,hrun]
  ·exact h.elim
 ·exact h.elim
theorem PB{o:Oper}{K:St→Prop}(hR:Rel M s a w){x:Operand}(ho:o.op=.next x false)(h:uD s o.dst (s.eval x) K):EOk P o a M w s K:=by
 unfold uD at h
 split at h
 ·rename_i k b ex
  have hx:=hR.eval x
  rw[ex]at hx
  generalize hav:a.eval x=av at hx
  cases hx
  split at h
  ·rename_i b' km mb es rem last hlk
   split at h
   ·rename_i mb' es' hlkm
    obtain⟨⟨rfl,rfl,rfl⟩,h⟩:=h
    obtain⟨f,l,hll,h0,h1⟩:=h
    obtain⟨seen,I,hh,hnd,hI,hrem,hlast,hfree⟩:=hR.ob.ok _ _ hlk
    obtain⟨arr,clock,hb,hl,hg,hck,hfreeM⟩:=hR.ob.ok _ _ hlkm
    have hce:clock=es.length:=by rw[hck,← hl]
    rw[hce]at hb
    have hborn:∀(i:Nat) v,arr[i]? = some v→v.born=i:=fun i v hv=>by
     have hi:i<es.length:=by have:=(List.getElem?_eq_some_iff.1 hv).1;omega
     exact(hg i es[i] v (by simp[hi]) hv).2.2
    have hold:∀v∈(⟨arr⟩:Array MapEntry).toList,v.born<es.length:=by
     intro v hv
     obtain⟨i,hi⟩:=List.mem_iff_getElem?.1 hv
     have:i<arr.length:=(List.getElem?_eq_some_iff.1 hi).1
     rw[hborn i v hi];omega
    have hlt:b<w.heap.size:=aK hh
    rcases pU (P:=P) w o.type b mb es.length seen ⟨arr⟩ hh hb hold with⟨hz,hrun⟩ | ⟨e,he,w1,hw1,hrun⟩
    ·have hI0:I=[]:=by
      cases hIc:I with
      | nil=>rfl
      | cons i I' =>
       exfalso
       have hm:i∈I:=by rw[hIc];simp
       obtain⟨hi,hns⟩:=(hI i).1 hm
       have hi2:i<arr.length:=by omega
       have hmem:arr[i]∈(leftOf ⟨arr⟩ seen).toList:=by
        unfold leftOf
        have hb2:=hborn i arr[i] (by simp[hi2])
        simp[hb2]
        simpa using hns
       have:(leftOf ⟨arr⟩ seen).toList=[]:=by
        rw[Array.toList_eq_nil_iff];exact Array.eq_empty_of_size_eq_zero hz
       rw[this]at hmem;cases hmem
     have hl0:l=[]:=by
      rw[hrem,hI0]at hll
      simpa using hll
     obtain⟨s2,k1,k2,k3⟩:=hR.put (h0 hl0) (val:=.tuple #[.bool false]) (.tup _ [.bool false] rfl (fun i c v hc hv=>by
      cases i with
      | zero=>simp at hc hv;subst hc hv;exact .b _
      | succ i=>simp at hc))
     exact⟨.value (.tuple #[.bool false]),w,_,by simp[execOp,ho,hav,hrun],.inl rfl,s2,M,k1,k2,(Stp.refl _ _ _).ob_eq k3⟩
    ·have he2:e∈arr∧seen.contains e.born=false:=by
      unfold leftOf at he
      simp at he
      exact⟨he.1,by simpa using he.2⟩
     obtain⟨i,hi⟩:=List.mem_iff_getElem?.1 he2.1
     have hib:=hborn i e hi
     have hil:i<es.length:=by have:=(List.getElem?_eq_some_iff.1 hi).1;omega
     have hmI:i∈I:=(hI i).2 ⟨hil,by rw[← hib];exact he2.2⟩
     obtain⟨I1,I2,hIe⟩:=List.append_of_mem hmI
     have hll2:l.map f=I1.map (fun i=>es.getD i default)++es.getD i default::I2.map (fun i=>es.getD i default):=by
      rw[hll,hrem,hIe];simp
     obtain⟨pre,l2,hl1,hpre,hpost⟩:=List.map_eq_append_iff.1 hll2
     obtain⟨e0,post,hl3,he0,hpost2⟩:=List.map_eq_cons_iff.1 hpost
     have h:=h1 pre e0 post (by rw[hl1,hl3])
     have hfe:f e0=es[i]:=by rw[he0];simp[List.getD,hil]
     obtain⟨s',hks,hn,hgt,ho',hj⟩:=St.setO_ok h
     have hnd2:(I1++I2).Nodup∧i∉I1++I2:=by
      rw[hIe]at hnd
      rw[List.nodup_append]at hnd
      obtain⟨n1,n2,n3⟩:=hnd
      rw[List.nodup_cons]at n2
      refine⟨List.nodup_append.2 ⟨n1,n2.2,fun a ha b hb=>n3 a ha b (by simp[hb])⟩,fun hm=>?_⟩
      rcases List.mem_append.1 hm with q | q
      ·exact n3 i q i (by simp) rfl
      ·exact n2.1 q
     have hheap:w1.heap=w.heap:=by rcases hw1 with rfl | rfl<;>rfl
     have hsame:({w1 with heap:=w1.heap.setIfInBounds b (.mapIter (some mb) es.length (seen.push e.born) es.length)}:World).heap[b]? = some (.mapIter (some mb) es.length (seen.push e.born) es.length):=by simp[hheap,hlt]
     have hoth:∀q,q≠b→({w1 with heap:=w1.heap.setIfInBounds b (.mapIter (some mb) es.length (seen.push e.born) es.length)}:World).heap[q]? = w.heap[q]?:=by
      intro q hq
      simp only[Array.getElem?_setIfInBounds,hheap]
      rw[if_neg (Ne.symm hq)]
     generalize hW:({w1 with heap:=w1.heap.setIfInBounds b (.mapIter (some mb) es.length (seen.push e.born) es.length)}:World)=w2 at hsame hoth hrun
     have hw2:w2.os=w.os∧w2.tape=w.tape∧w2.output=w.output∧w.heap.size≤w2.heap.size:=by
      subst hW
      rcases hw1 with rfl | rfl
      ·exact⟨rfl,rfl,rfl,by simp⟩
      ·exact⟨rfl,rfl,rfl,by show w.heap.size≤(w.heap.setIfInBounds _ _).size;simp⟩
     have hrs:Resp M w2:=by
      refine⟨fun q off u hu=>?_,fun q y hy=>?_,hR.rs.t⟩
      ·have hq:q≠b:=by rintro rfl;rw[hfree.c]at hu;cases hu
       rw[World.cell?_of_block (w:=w) (hoth q hq)];exact hR.rs.c _ _ _ hu
      ·have hq:q≠b:=by rintro rfl;rw[hfree.m]at hy;cases hy
       rw[hoth q hq];exact hR.rs.m _ _ hy
     obtain⟨r2,p2⟩:=hR.upd (S:=fun q=>q=b) (M':=M) (w':=w2) k _ hn hgt ho' hj
      ⟨hw2.1,hw2.2.1,hw2.2.2.1,hw2.2.2.2,fun q _ hq=>hoth q hq,M.le_refl,fun _ _ _ _=>rfl,fun _ _ _=>rfl⟩ hrs (fun q _ hq=>⟨_,hlk,by rw[hq];rfl⟩)
      (by
       refine⟨seen.push e.born,I1++I2,hsame,hnd2.1,fun j=>?_,?_,fun e' he'=>?_,hfree⟩
       ·have hj1:j∈I↔j∈I1++I2∨j=i:=by
         rw[hIe];simp only[List.mem_append,List.mem_cons]
         constructor
         ·rintro(q | q | q)
          ·exact .inl (.inl q)
          ·exact .inr q
          ·exact .inl (.inr q)
         ·rintro((q | q) | q)
          ·exact .inl q
          ·exact .inr (.inr q)
          ·exact .inr (.inl q)
        have hj2:=hI j
        have hc:(seen.push e.born).contains j=(seen.contains j||j == i):=by
         rw[hib,Bool.eq_iff_iff];simp only[Bool.or_eq_true,Array.contains_iff,Array.mem_push,beq_iff_eq]
        rw[hc,Bool.or_eq_false_iff]
        constructor
        ·intro hm
         have hne:j≠i:=by rintro rfl;exact hnd2.2 hm
         have:=hj2.1 (hj1.2 (.inl hm))
         exact⟨this.1,this.2,by simpa using hne⟩
        ·rintro⟨q1,q2,q3⟩
         have hne:j≠i:=by simpa using q3
         rcases hj1.1 (hj2.2 ⟨q1,q2⟩)with q | q
         ·exact q
         ·exact absurd q hne
       ·rw[zR,zR,hpre,hpost2]
       ·cases he'
        exact⟨i,by rw[hib];simp,by rw[hfe];simp[hil]⟩) (fun q hq=>.inr ⟨_,hlk,hq⟩)
     have hge:=hg i es[i] e (by simp[hil]) hi
     obtain⟨s3,k1,k2,k3⟩:=r2.put hks (val:=.tuple #[.bool true,e.key,e.val]) (.tup _ [.bool true,e.key,e.val] rfl (fun q c v hc hv=>by
      match q with
      | 0=>simp at hc hv;subst hc hv;exact .b _
      | 1=>simp at hc hv;subst hc hv;rw[hfe];exact .d _ _ hge.1
      | 2=>simp at hc hv;subst hc hv;rw[hfe];exact .d _ _ hge.2.1
      | q+3=>simp at hc))
     exact⟨.value (.tuple #[.bool true,e.key,e.val]),w2,_,by simp[execOp,ho,hav,hrun],.inl rfl,s3,M,k1,k2,p2.ob_eq k3⟩
   ·exact h.elim
  ·exact h.elim
 ·exact h.elim
theorem qR{o:Oper}{K:St→Prop}(hR:Rel M s a w){x:Operand}(ho:o.op=.entry x)(h:rC s (s.eval x) fun v=>s.put o.dst v K):EOk P o a M w s K:=by
 unfold rC at h
 split at h
 ·rename_i k b ex
  have hx:=hR.eval x
  rw[ex]at hx
  generalize hav:a.eval x=av at hx
  cases hx
  split at h
  ·rename_i b' km mb es rem e hlk
   split at h
   ·rename_i mb' es' hlkm
    obtain⟨⟨rfl,rfl,rfl⟩,h⟩:=h
    obtain⟨seen,I,hh,hnd,hI,hrem,hlast,hfree⟩:=hR.ob.ok _ _ hlk
    obtain⟨arr,clock,hb,hl,hg,hck,hfreeM⟩:=hR.ob.ok _ _ hlkm
    have hce:clock=es.length:=by rw[hck,← hl]
    rw[hce]at hb
    obtain⟨i,hi1,hi2⟩:=hlast e rfl
    have hil:=(List.getElem?_eq_some_iff.1 hi2).1
    have hil2:i<arr.length:=by omega
    have hborn:∀(i:Nat) v,arr[i]? = some v→v.born=i:=fun i v hv=>by
     have hi:i<es.length:=by have:=(List.getElem?_eq_some_iff.1 hv).1;omega
     exact(hg i es[i] v (by simp[hi]) hv).2.2
    have hv:arr[i]? = some arr[i]:=by simp[hil2]
    have hfind:(⟨arr⟩:Array MapEntry).find? (·.born == i)=some arr[i]:=by
     rw[← Array.find?_toList]
     have hn:(arr.map (·.born)).Nodup:=by
      have:arr.map (·.born)=List.range arr.length:=by
       apply BQ
       intro j
       by_cases hj:j<arr.length
       ·rw[yM hj];simp[hj,hborn j arr[j] (by simp[hj])]
       ·rw[AG (by simp;omega),AG (by simp;omega)]
      rw[this];exact List.nodup_range
     have:=find_born arr[i] arr hn (List.getElem_mem hil2)
     rwa[hborn i arr[i] hv]at this
    have hge:=hg i e arr[i] hi2 hv
    have hrun:(Instr.entry (.pointer (some ⟨b,0,none⟩))).run P w=.ok (.tuple #[arr[i].key,arr[i].val]) w:=by
     simp only[Instr.entry,getObj,Sem.run_bind,Sem.run,hh,hb,Result.andThen,hi1,bne_self_eq_false,IE,if_false,hfind]
     rfl
    obtain⟨s3,k1,k2,k3⟩:=hR.put h (val:=.tuple #[arr[i].key,arr[i].val]) (.tup _ [arr[i].key,arr[i].val] rfl (fun q c v hc hv=>by
     match q with
     | 0=>simp at hc hv;subst hc hv;exact .d _ _ hge.1
     | 1=>simp at hc hv;subst hc hv;exact .d _ _ hge.2.1
     | q+2=>simp at hc))
    exact⟨.value (.tuple #[arr[i].key,arr[i].val]),w,_,by simp[execOp,ho,hav,hrun],.inl rfl,s3,M,k1,k2,(Stp.refl _ _ _).ob_eq k3⟩
   ·exact h.elim
  ·exact h.elim
 ·exact h.elim
end
end Go.Abs
