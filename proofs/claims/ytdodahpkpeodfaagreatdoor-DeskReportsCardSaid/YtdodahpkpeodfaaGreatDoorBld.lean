/-
 strings.Builder: what its methods leave, to the block.
-/
import Derived.Test.YtdodahpkpeodfaaGreatDoorStr
import Derived.Shelf.Strings.Builder1
import Derived.Lib.AppendIntMem
import Derived.Lib.AtoiErrMem
set_option linter.all false
open List renaming length_map→Ia
namespace Go.Abs
open Go Go.RowKit Go.Kp Go.Shelf Go.Proofs
section
variable {P:Program}
theorem qU{ops:Array Oper}{rest:List Oper}{o:Oper}{a:Act}{w:World}{Q:Exit→Act→World→Prop}(hgd:o.guard=none)(sl x:Operand)(t u:TypeId)
  (ho:o.op=.call {callee:=.builtin .append,args:=#[sl,x],argTypes:=#[t,u]})
  (e:TypeId) (i:TypeInfo) (ht:P.underlying t=some (.slice e)) (hu:P.underlying u=some .string) (hi:P.info? e=some i) (hz:i.zero=some (.int .u8 0))
  (hsize:i.size=1) (hby:i.bytes=1)
  (v:Value) (n:Nat) (xs:List Value) (hs:a.eval sl=v) (hown:w.ownsRow 0 e 1 v n xs) (s:ByteArray) (hx:a.eval x=.string s) (hbytes:n+s.size≤140737488355328)
  (h:∀v' w',App w w' e 1 v v' n s.size xs (Lib.strCells s)→wpList P ops Q rest (a.put o.dst v') w'):wpList P ops Q (o::rest) a w:=by
 refine wpList_plain hgd fun K hK=>?_
 obtain⟨v',w',hr,hA⟩:=qT (P:=P) (w:=w) t u o.type e i ht hu hi hz hsize hby v n xs hown s hbytes
 unfold Oper.wp execOp
 simp only[ho,resolve,invoke,builtin,Sem.run_bind,Sem.run_pure,Result.andThen_ok,List.map_toArray,List.map_cons,List.map_nil,hs,hx,hr]
 exact hK _ _ (h v' w' hA)
end
section
variable {P:Program}{ρ:Ren}
structure KeptO(w w':World)(g:Option Nat):Prop where
 os:w'.os=w.os
 tape:w'.tape=w.tape
 output:w'.output=w.output
 size:w.heap.size≤w'.heap.size
 block:∀k,k<w.heap.size→g≠some k→w'.heap[k]? = w.heap[k]?
theorem KeptO.below{w w':World}{g:Option Nat}(h:Below w.heap.size w w'):KeptO w w' g:=⟨h.os,h.tape,h.output,h.size,fun k hk _=>h.block k hk⟩
set_option maxHeartbeats 1000000 in
set_option maxRecDepth 100000 in
theorem rV(L:Lays.n169 P ρ)(X:Builder.Extra P ρ)(b:Nat)(p v:Value)(l:List UInt8)(w:World)(hbk:w.heap[b]? = some (.cells #[p,v] (ρ.t 72) (0,0)))(hown:w.ownsRow 0 (ρ.t 5) 1 v l.length (Lib.byteCells l)) :
  Calls P (ρ.f 169) #[.pointer (some ⟨b,0,none⟩)] w fun e w'=>e=.returned (.string ⟨l.toArray⟩)∧KeptO w w' v.ownBlock:=by
 by_cases h0:l=[]
 ·subst h0
  have key:Calls P (ρ.f 169) #[.pointer (some ⟨b,0,none⟩)] w fun e w'=>e=.returned (.string ⟨#[]⟩)∧Below w.heap.size w w':=by
   rcases hown.2 with⟨rfl,_⟩ | ⟨g,cap,cur,rfl,hbg,hg,_,_,_,_⟩
   ·exact Any.Builder_String_nil L X w.heap.size b p w hbk
   ·by_cases hc0:cap=0
    ·subst hc0
     exact Any.Builder_String_noroom L X w.heap.size b g p cur w (Nat.le_refl _) hbk hg
    ·exact Any.Builder_String_room L X w.heap.size b g cap p w hc0 hbk
  exact key.mono fun e w' h=>⟨h.1,.below h.2⟩
 have hl0:l.length≠0:=by simpa using h0
 obtain⟨g,cap,cur,rfl,hbg,hg,hnc,hcm,hcs,htake⟩:∃g cap cur,v=.slice (some ⟨g,0,none⟩) l.length cap∧0≤g∧w.heap[g]? = some (.cells cur (ρ.t 5) (0,0))∧l.length≤cap∧cap≤maxLen∧cur.size=cap*1∧cur.toList.take (l.length*1)=Lib.byteCells l:=by
  rcases hown.2 with⟨_,hz⟩ | ⟨g,cap,cur,hv,r⟩
  ·exact absurd hz hl0
  ·exact⟨g,cap,cur,hv,r⟩
 have c1:w.drew.cell? ⟨b,1,none⟩=some (.slice (some ⟨g,0,none⟩) l.length cap):=by
  have:w.drew.heap[b]? = some (.cells #[p,.slice (some ⟨g,0,none⟩) l.length cap] (ρ.t 72) (0,0)):=hbk
  rw[Lib.cell_of_heap this];rfl
 have hSD:(Builtin.unsafeSliceData_ #[(ρ.t 37)] (ρ.t 127) #[.slice (some ⟨g,0,none⟩) l.length cap]).run P w.drew=.ok (.pointer (some ⟨g,0,none⟩)) w.drew :=
  Lib.run_unsafeSliceData_row _ _ _ _ _ _ (by omega)
 have hUS:(Builtin.unsafeString_ #[(ρ.t 127),(ρ.t 3)] (ρ.t 9) #[.pointer (some ⟨g,0,none⟩),.int .i64 l.length]).run P w.drew=.ok (.string ⟨l.toArray⟩) (w.drew.freeze ⟨g,0,none⟩ l.length):=by
  refine Lib.run_unsafeString_row w.drew (ρ.t 127) (ρ.t 3) (ρ.t 9) (ρ.t 5) L.t127 X.cellsByte g cur.size (by have hg':w.drew.heap[g]? = some (.cells cur (ρ.t 5) (0,0)):=hg;simp[World.shape?,hg']) l h0 (by omega) (by unfold maxLen at hcm;omega) ?_
  intro j x hx
  have:=hown.cells (g:=g) rfl j (.int .u8 x.toNat) (by simp[Lib.byteCells,hx])
  exact this
 have mixed:=L.mixed
 have t72:=L.t72;have a72:=L.a72;have z72:=L.z72;have v72:=L.v72;have u72:=run_underlying L.t72
 have t70:=L.t70;have a70:=L.a70;have z70:=L.z70;have v70:=L.v70;have u70:=run_underlying L.t70
 have t37:=L.t37;have a37:=L.a37;have z37:=L.z37;have v37:=L.v37;have u37:=run_underlying L.t37
 have t127:=L.t127;have a127:=L.a127;have z127:=L.z127;have v127:=L.v127;have u127:=run_underlying L.t127
 have t3:=L.t3;have a3:=L.a3;have z3:=L.z3;have v3:=L.v3;have u3:=run_underlying L.t3
 have t9:=L.t9;have a9:=L.a9;have z9:=L.z9;have v9:=L.v9;have u9:=run_underlying L.t9
 have t5:=X.t5;have a5:=X.a5;have z5:=X.z5;have v5:=X.v5;have u5:=run_underlying X.t5
 have hK:KeptO w (w.drew.freeze ⟨g,0,none⟩ l.length) (some g):=by
  have hb:=Lib.below_freeze (Below.drew (Below.refl g w)) (p:=⟨g,0,none⟩) (Nat.le_refl _) l.length
  refine⟨hb.os,hb.tape,hb.output,hb.size,fun k hk hne=>?_⟩
  have hkg:g≠k:=fun e=>hne (by rw[e])
  show(w.drew.freeze ⟨g,0,none⟩ l.length).heap[k]? = w.drew.heap[k]?
  unfold World.freeze
  split
  ·rfl
  ·simp only[Array.getElem?_modify]
   rw[if_neg hkg]
 go_enter L.f169,Body.n169_ntmps ρ
 go_wp2
 go_region_o
 all_goals (go_wp2;go_ret;exact⟨rfl,hK⟩)
end
section
variable {P:Program}
theorem cZ(k:Nat)(o:Ob):look [(k,o)] k=some o:=by
 rw[aT,Nat.beq_refl]
theorem mi{o o':Ob}{k j:Nat}(h:look [(k,o)] j=some o'):j=k∧o'=o:=by
 rw[aT]at h
 split at h
 ·rename_i e;cases h;exact⟨(Nat.eq_of_beq_eq_true e).symm,rfl⟩
 ·cases h
theorem ve{M:GM}{w:World}{k:Nat}{o:Ob}(h:gW M w o):Obs M w [(k,o)] :=
 ⟨fun j o' hj=>by obtain⟨_,rfl⟩:=mi hj;exact h,fun i j o1 o2 b h1 h2 _ _=>(mi h1).1.trans (mi h2).1.symm⟩
theorem strCells_eq(s:ByteArray):Lib.strCells s=s.data.toList.map fun c=>Value.int .u8 c.toNat:=rfl
theorem mB{f:FuncId}{t e k b N:Nat}{ho:Value}{bs s:List UInt8}{r:Int×List UInt8}(hok:cI P f)(hN:N≤1073741824)(h:wrS N s bs=some r)
  (hs:∀(p v:Value) (cs:List Value) (s:ByteArray) (w:World),(p=.pointer none∨p=.pointer (some ⟨b,0,none⟩))→w.heap[b]? = some (.cells #[p,v] t (0,0))→w.ownsRow 0 e 1 v cs.length cs→v.ownBlock≠some b→cs.length+s.size≤140737488355328 →
   Calls P f #[.pointer (some ⟨b,0,none⟩),.string s] w fun ee w'=>ee=.returned (.tuple #[.int .i64 s.size,.nilIface])∧∃v' w1,w1.heap[b]? = some (.cells #[.pointer (some ⟨b,0,none⟩),v] t (0,0)) ∧
    (∀k,k≠b→w1.heap[k]? = w.heap[k]?)∧w1.heap.size=w.heap.size∧w1.os=w.os∧w1.tape=w.tape∧w1.output=w.output∧(∃w2,App w1 w2 e 1 v v' cs.length s.size cs (Lib.strCells s)∧w'=w2.setCell ⟨b,1,none⟩ v')) :
  ACalls P f [.ptr k b 0,.d (.str s)] [(k,.bld b t e ho bs)] (fun ae os=>∃y:Value,True∧ae=.ret (.d (.tup [.int .i64 r.1,.nilifc]))∧os=[(k,.bld b t e y r.2)]):=by
 unfold wrS at h
 split at h
 rotate_left
 ·cases h
 rename_i hc
 cases h
 refine⟨hok,fun M w vs hr ha hO=>?_⟩
 obtain⟨v1,vs',rfl,hv,ht⟩:=ha.inv
 obtain⟨v2,vs2,rfl,hv2,ht2⟩:=ht.inv
 have:=ht2.inv_nil
 subst this
 cases hv with | ptr=>?_
 obtain⟨u,rfl,rfl⟩:=gj hv2
 have hlk:look [(k,Ob.bld b t e ho bs)] k=some (.bld b t e ho bs):=cZ _ _
 obtain⟨p,hp,hbk,hown,hne,hfb,hfg⟩:=hO.ok k _ hlk
 have hus:u.data.toList.length=u.size:=by simp
 refine(hs p ho _ u w hp hbk (by rw[Ia];exact hown) hne (by rw[Ia];omega)).mono ?_
 rintro ee w' ⟨rfl,v',w1,h1,h2,h3,h4,h5,h6,w2,hA,rfl⟩
 rw[Ia]at hA
 have hlt:b<w1.heap.size:=aK h1
 have hlt0:b<w.heap.size:=by omega
 have hb2:w2.heap[b]? = some (.cells #[.pointer (some ⟨b,0,none⟩),ho] t (0,0)):=by rw[hA.keep b hlt hne];exact h1
 have hset:∀q,q≠b→(w2.setCell ⟨b,1,none⟩ v').heap[q]? = w2.heap[q]?:=fun q hq=>Below.heap_setCell _ _ _ _ hq
 have hfr:Frm (du [(k,Ob.bld b t e ho bs)]) M w M (w2.setCell ⟨b,1,none⟩ v'):=by
  refine⟨by show w2.os=_;rw[hA.os,h4],by show w2.tape=_;rw[hA.tape,h5],by show w2.output=_;rw[hA.output,h6],by have:=hA.size;simp[World.setCell];omega,fun q hq hn=>?_,M.le_refl,fun _ _ _ _=>rfl,fun _ _ _=>rfl⟩
  have hqb:q≠b:=fun e'=>hn ⟨k,_,hlk,.inl e'.symm⟩
  have hqg:ho.ownBlock≠some q:=fun e'=>hn ⟨k,_,hlk,.inr e'⟩
  rw[hset q hqb,hA.keep q (by omega) hqg,h2 q hqb]
 have hne':v'.ownBlock≠some b:=fun e'=>by
  rcases hA.blk b e' with q | q
  ·omega
  ·exact hne q
 have hfree':∀g,v'.ownBlock=some g→Free M g:=fun g hg=>by
  rcases hA.blk g hg with q | q
  ·exact hr.free (by omega)
  ·exact hfg g q
 have hrow:(w2.setCell ⟨b,1,none⟩ v').ownsRow 0 e 1 v' (bs++u.data.toList).length ((bs++u.data.toList).map fun c=>Value.int .u8 c.toNat):=by
  have h0:=hA.row
  rw[List.map_append,List.length_append,hus,← strCells_eq]
  refine⟨h0.1,?_⟩
  rcases h0.2 with hn | ⟨g,cap,cur,rfl,hg,hh,q⟩
  ·exact .inl hn
  ·exact .inr ⟨g,cap,cur,rfl,hg,by rw[hset g (fun e'=>hne' (by rw[e'];rfl))];exact hh,q⟩
 have hO':Obs M (w2.setCell ⟨b,1,none⟩ v') [(k,.bld b t e v' (bs++u.data.toList))]:=by
  refine ve (o:=.bld b t e v' (bs++u.data.toList)) ⟨_,.inr rfl,?_,hrow,hne',hfb,hfree'⟩
  simp[World.setCell,Array.getElem?_modify,hb2]
 have hr':Resp M (w2.setCell ⟨b,1,none⟩ v'):=by
  refine⟨fun q o x hx=>?_,fun q x hx=>?_,hr.t⟩
  ·have h0:=hr.c _ _ _ hx
   have hqb:q≠b:=fun e'=>by rw[e',hfb.c]at hx;cases hx
   have hqg:ho.ownBlock≠some q:=fun e'=>by rw[(hfg q e').c]at hx;cases hx
   have hql:q<w.heap.size:=by have:=World.block_lt_of_cell? w _ h0;simpa using this
   rw[World.cell?_of_block (w:=w) (by rw[show(⟨q,o,none⟩:Addr).block=q from rfl,hset q hqb,hA.keep q (by omega) hqg,h2 q hqb])];exact h0
  ·have h0:=hr.m _ _ hx
   have hqb:q≠b:=fun e'=>by rw[e',hfb.m]at hx;cases hx
   have hqg:ho.ownBlock≠some q:=fun e'=>by rw[(hfg q e').m]at hx;cases hx
   have hql:=aK h0
   rw[hset q hqb,hA.keep q (by omega) hqg,h2 q hqb];exact h0
 refine⟨_,M,hO',hr',⟨hfr,?_⟩,.inl ⟨_,_,rfl,⟨v',trivial,rfl,rfl⟩,.d _ _ ?_⟩⟩
 ·rintro q ⟨j,o,hj,hq⟩
  obtain⟨_,rfl⟩:=mi hj
  rcases hq with hq | hq
  ·exact .inl ⟨k,_,hlk,.inl hq⟩
  ·rcases hA.blk q hq with q2 | q2
   ·exact .inr (by omega)
   ·exact .inl ⟨k,_,hlk,.inr q2⟩
 ·rw[hus];exact Nv (.int _ _) .nilifc
theorem lF{f:FuncId}{t e k b N:Nat}{ho:Value}{bs r:List UInt8}(hok:cI P f)(h:w8 N bs=some r)
  (hs:∀(p v:Value) (l:List UInt8) (w:World),w.heap[b]? = some (.cells #[p,v] t (0,0))→w.ownsRow 0 e 1 v l.length (Lib.byteCells l) →
   Calls P f #[.pointer (some ⟨b,0,none⟩)] w fun ee w'=>ee=.returned (.string ⟨l.toArray⟩)∧KeptO w w' v.ownBlock) :
  ACalls P f [.ptr k b 0] [(k,.bld b t e ho bs)] (fun ae os=>∃_:Unit,True∧ae=.ret (.d (.str r))∧os=[]):=by
 cases h
 refine⟨hok,fun M w vs hr ha hO=>?_⟩
 obtain⟨v1,vs',rfl,hv,ht⟩:=ha.inv
 have:=ht.inv_nil
 subst this
 cases hv with | ptr=>?_
 have hlk:look [(k,Ob.bld b t e ho bs)] k=some (.bld b t e ho bs):=cZ _ _
 obtain⟨p,hp,hbk,hown,hne,hfb,hfg⟩:=hO.ok k _ hlk
 refine(hs p ho bs w hbk hown).mono ?_
 rintro ee w' ⟨rfl,hK⟩
 have keep:∀q,q<w.heap.size→ho.ownBlock≠some q→w'.heap[q]? = w.heap[q]?:=hK.block
 refine⟨[],M,fa _ _,⟨fun q o x hx=>?_,fun q x hx=>?_,hr.t⟩,⟨⟨hK.os,hK.tape,hK.output,hK.size,fun q hq hn=>keep q hq fun e'=>hn ⟨k,_,hlk,.inr e'⟩,M.le_refl,fun _ _ _ _=>rfl,fun _ _ _=>rfl⟩,?_⟩,.inl ⟨_,_,rfl,⟨(),trivial,rfl,rfl⟩,.d _ _ (.bytes M _)⟩⟩
 ·have h0:=hr.c _ _ _ hx
  have hql:q<w.heap.size:=by have:=World.block_lt_of_cell? w _ h0;simpa using this
  rw[World.cell?_of_block (w:=w) (keep q hql fun e'=>by rw[(hfg q e').c]at hx;cases hx)];exact h0
 ·have h0:=hr.m _ _ hx
  rw[keep q (aK h0) fun e'=>by rw[(hfg q e').m]at hx;cases hx];exact h0
 ·rintro q ⟨j,o,hj,_⟩;simp[look_nil]at hj
end
theorem wt{P:Program}{M:GM}{w:World}(hg:P.globalNamed "internal/strconv.uint64pow10" = some 0)(hr:Resp M w):Lib.TabIs P w "internal/strconv.uint64pow10" .u64 Lib.pow10Tab:=by
 obtain⟨e,fr,h⟩:=hr.t.pow
 have h2:=hr.m _ _ h
 simp[Lib.TabIs,World.var?,hg,h2]
 rfl
end Go.Abs
