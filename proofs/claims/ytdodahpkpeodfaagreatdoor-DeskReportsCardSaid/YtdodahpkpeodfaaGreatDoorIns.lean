/-
 slices.Insert into an own list: by the shelf's four contracts.
-/
import Derived.Test.YtdodahpkpeodfaaGreatDoorBld
import Derived.Test.YtdodahpkpeodfaaGreatDoorAbsQ
set_option linter.all false
open List renaming getElem?_append_left→za,getElem?_append_right→zL,getElem?_drop→A6,getElem?_take→Am,length_cons→IS,length_map→Ia,length_nil→yf,map_append→zR
open Nat renaming eq_of_beq_eq_true→Ik,le_refl→H9,mul_one→AF,zero_add→Jp,zero_le→ye
namespace Go.Abs
open Go Go.RowKit Go.Kp Go.Proofs
section
def wrA (cur:Array Value):Nat→List Value→Array Value
 | _,[]=>cur
 | o,v::r=>wrA (cur.setIfInBounds o v) (o+1) r
theorem yq:∀(vs:List Value) (cur:Array Value) (o:Nat),(wrA cur o vs).size=cur.size
 | [],_,_=>rfl
 | v::r,cur,o=>by rw[wrA,yq r];simp
theorem zq:∀(vs:List Value) (cur:Array Value) (o j:Nat),o+vs.length≤cur.size→(wrA cur o vs)[j]? = if o≤j∧j<o+vs.length then vs[j-o]? else cur[j]?
 | [],cur,o,j,_=>by
  rw[wrA,if_neg (by simp only[yf];omega)]
 | v::r,cur,o,j,h=>by
  simp only[IS]at h
  rw[wrA,zq r _ _ _ (by simp;omega)]
  by_cases h1:o+1≤j∧j<o+1+r.length
  ·rw[if_pos h1,if_pos (by simp only[IS];omega)]
   rw[show j-o=(j-(o+1))+1 by omega];rfl
  ·rw[if_neg h1]
   by_cases h2:j=o
   ·subst h2
    rw[if_pos (by simp only[IS];omega),Nat.sub_self,Array.getElem?_setIfInBounds,if_pos rfl,if_pos (by omega)]
    rfl
   ·rw[if_neg (by simp only[IS];omega),Array.getElem?_setIfInBounds,if_neg (by omega)]
theorem setCells_at{e:TypeId}{fz:Nat×Nat}:∀(vs:List Value) (w:World) (b o:Nat) (cur:Array Value),w.heap[b]? = some (.cells cur e fz)→(w.setCells b o vs).heap[b]? = some (.cells (wrA cur o vs) e fz)
 | [],_,_,_,_,h=>h
 | v::r,w,b,o,cur,h=>by
  rw[World.setCells,wrA]
  refine setCells_at r _ b (o+1) _ ?_
  simp[World.setCell,Array.getElem?_modify,h]
theorem yv:∀(vs:List Value) (w:World) (b o:Nat),(∀q,q≠b→(w.setCells b o vs).heap[q]? = w.heap[q]?)∧(w.setCells b o vs).heap.size=w.heap.size∧(w.setCells b o vs).os=w.os∧(w.setCells b o vs).tape=w.tape∧(w.setCells b o vs).output=w.output
 | [],_,_,_=>⟨fun _ _=>rfl,rfl,rfl,rfl,rfl⟩
 | v::r,w,b,o=>by
  rw[World.setCells]
  have ih:=yv r (w.setCell ⟨b,o,none⟩ v) b (o+1)
  refine⟨fun q hq=>(ih.1 q hq).trans (Below.heap_setCell _ _ _ _ hq),ih.2.1.trans (by simp[World.setCell]),ih.2.2.1,ih.2.2.2.1,ih.2.2.2.2⟩
structure Ins(w w':World)(e:TypeId)(ho y:Value)(n:Nat)(xs:List Value):Prop where
 row:w'.ownsRow 0 e 1 y n xs
 os:w'.os=w.os
 tape:w'.tape=w.tape
 output:w'.output=w.output
 size:w.heap.size≤w'.heap.size
 keep:∀q,q<w.heap.size→ho.ownBlock≠some q→w'.heap[q]? = w.heap[q]?
 blk:∀q,y.ownBlock=some q→w.heap.size≤q∨ho.ownBlock=some q
theorem zj{l:List Value}{a:Array Value}(h:l.length≤a.size)(k:∀j,j<l.length→a[j]? = l[j]?):a.toList.take l.length=l:=by
 refine List.ext_getElem? fun j=>?_
 rw[Am]
 split
 ·rename_i hj;rw[← k j hj];simp
 ·rename_i hj;rw[List.getElem?_eq_none (by omega)]
theorem Bj{cs vs:List Value}{i:Nat}(hi:i≤cs.length)(j:Nat):(cs.take i++vs++cs.drop i)[j]? = if j<i then cs[j]? else if j<i+vs.length then vs[j-i]? else cs[j-vs.length]?:=by
 have hl:(cs.take i).length=i:=by rw[List.length_take];omega
 by_cases h1:j<i
 ·rw[if_pos h1,List.append_assoc,za (by omega),Am,if_pos h1]
 ·rw[if_neg h1]
  by_cases h2:j<i+vs.length
  ·rw[if_pos h2,za (by simp;omega),zL (by omega),hl]
  ·rw[if_neg h2,zL (by simp;omega),A6]
   congr 1
   simp
   omega
theorem AJ{w:World}{e:TypeId}{v:Value}{n:Nat}{xs:List Value}(h:w.ownsRow 0 e 1 v n xs)(hn:0<n):∃g cap cur,v=.slice (some ⟨g,0,none⟩) n cap∧w.heap[g]? = some (.cells cur e (0,0))∧n≤cap∧cap≤maxLen∧cur.size=cap∧∀j,j<n→cur[j]? = xs[j]?:=by
 rcases h.2 with⟨_,h0⟩ | ⟨g,cap,cur,rfl,_,hg,h1,h2,h3,h4⟩
 ·omega
 ·refine⟨g,cap,cur,rfl,hg,h1,h2,by omega,fun j hj=>?_⟩
  rw[← h4,Am,if_pos (by omega)]
  simp
structure InsSpec(P:Program)(f e:Nat):Prop where
 shift:∀(b off n c i vb voff m vc:Nat) (cs vs:List Value) (w:World) (_:i<n) (_:0<m) (_:n+m≤c) (_:c≤9223372036854775807) (_:vb≠b)
  (_:cs.length=n) (_:vs.length=m)
  (_:∀j v,cs[j]? = some v→w.cell? ⟨b,off+j,none⟩=some v) (_:∀j,j<n+m→(w.cell? ⟨b,off+j,none⟩).isSome=true) (_:∀j,j<n+m→w.frozen? ⟨b,off+j,none⟩=false)
  (_:∀j v,vs[j]? = some v→w.cell? ⟨vb,voff+j,none⟩=some v) (_:∀v∈cs,v.oneCell'=true) (_:∀v∈vs,v.oneCell'=true)
  (tA tB:TypeId) (kA kB:Nat) (_:w.shape? vb=some (tA,kA)) (_:w.shape? b=some (tB,kB)) (_:kB≠0) (_:w.frozen? ⟨vb,voff,none⟩=false) (_:w.frozen? ⟨vb,kA,none⟩=false),
  Calls P f #[.slice (some ⟨b,off,none⟩) n c,.int .i64 i,.slice (some ⟨vb,voff,none⟩) m vc] w fun e w' =>
   e=.returned (.slice (some ⟨b,off,none⟩) (n+m) c)∧w'=(w.drew.setCells b (off+(i+m)) (cs.drop i)).setCells b (off+i) vs
 room:∀(b off n c vb voff m vc:Nat) (vs:List Value) (w:World) (_:0<m) (_:n+m≤c) (_:c≤9223372036854775807)
  (_:vs.length=m) (_:∀j,j<m→(w.cell? ⟨b,off+n+j,none⟩).isSome=true) (_:∀j,j<m→w.frozen? ⟨b,off+n+j,none⟩=false)
  (_:∀j v,vs[j]? = some v→w.cell? ⟨vb,voff+j,none⟩=some v) (_:∀v∈vs,v.oneCell'=true),
  Calls P f #[.slice (some ⟨b,off,none⟩) n c,.int .i64 n,.slice (some ⟨vb,voff,none⟩) m vc] w fun e w' =>
   e=.returned (.slice (some ⟨b,off,none⟩) (n+m) c)∧w'=w.setCells b (off+n) vs
 endg:∀(base:Option Addr) (n c vb voff m vc:Nat) (cs vs:List Value) (w:World) (_:0<m) (_:n≤c) (_:c<n+m) (_:(n+m)*8≤140737488355328)
  (_:cs.length=n) (_:vs.length=m) (_:base=none→n=0)
  (_:∀a,base=some a→∀j v,cs[j]? = some v→w.cell? (a.add j)=some v)
  (_:∀j v,vs[j]? = some v→w.cell? ⟨vb,voff+j,none⟩=some v) (_:∀v∈vs,v.oneCell'=true),
  Calls P f #[.slice base n c,.int .i64 n,.slice (some ⟨vb,voff,none⟩) m vc] w fun ex w' =>
   ex=.returned (.slice (some ⟨w.heap.size,0,none⟩) (n+m) (grownCap w (n+m) c e)) ∧
   w'=w.drew.alloc (.cells ((cs++vs).toArray++Builtin.zeroCells (Value.int .i64 0).cells (grownCap w (n+m) c e-(n+m))) e)
 grow:∀(b off n c i vb voff m vc:Nat) (cs vs:List Value) (w:World) (_:i<n) (_:0<m) (_:n≤c) (_:c<n+m) (_:(n+m)*8≤140737488355328)
  (_:cs.length=n) (_:vs.length=m)
  (_:∀j v,cs[j]? = some v→w.cell? ⟨b,off+j,none⟩=some v)
  (_:∀j v,vs[j]? = some v→w.cell? ⟨vb,voff+j,none⟩=some v) (_:∀v∈cs,v.oneCell'=true) (_:∀v∈vs,v.oneCell'=true),
  Calls P f #[.slice (some ⟨b,off,none⟩) n c,.int .i64 i,.slice (some ⟨vb,voff,none⟩) m vc] w fun ex w' =>
   ex=.returned (.slice (some ⟨w.heap.size,0,none⟩) (n+m) (grownCap w (n+m) c e)) ∧
   w'=(((w.alloc (.cells ((cs.take i).toArray++Builtin.zeroCells (Value.int .i64 0).cells (n+m-i)++Builtin.zeroCells (Value.int .i64 0).cells (grownCap w (n+m) c e-(n+m))) e)).drew.setCells w.heap.size i vs).drew).setCells w.heap.size (i+m) (cs.drop i)
theorem Aj{w:World}{g cap:Nat}{e:TypeId}{cur:Array Value}(hg:w.heap[g]? = some (.cells cur e (0,0)))(hc:cur.size=cap){n:Nat}{xs:List Value}(hn:xs.length=n)(hnc:n≤cap)(h:∀j,j<n→cur[j]? = xs[j]?):(∀j v,xs[j]? = some v→w.cell? ⟨g,0+j,none⟩=some v)∧(∀j,j<cap→(w.cell? ⟨g,0+j,none⟩).isSome=true)∧(∀j,w.frozen? ⟨g,j,none⟩=false)∧w.shape? g=some (e,cap):=by
 refine⟨fun j v hj=>?_,fun j hj=>?_,fun j=>?_,?_⟩
 ·have:=(List.getElem?_eq_some_iff.1 hj).1
  rw[Lib.cell_of_heap hg,Jp,h j (by omega),hj]
 ·rw[Lib.cell_of_heap hg,Jp,Array.getElem?_eq_getElem (by omega)];rfl
 ·simp[World.frozen?,hg]
 ·simp[World.shape?,hg,hc]
theorem B0{P:Program}{f e:Nat}(S:InsSpec P f e){w:World}{ho ho2:Value}{cs vs:List Value}{i:Nat}(h1:w.ownsRow 0 e 1 ho cs.length cs)(h2:w.ownsRow 0 e 1 ho2 vs.length vs)(hm:0<vs.length)(hi:i≤cs.length)
  (hd:∀q,ho.ownBlock=some q→ho2.ownBlock≠some q) (o1:∀v∈cs,v.oneCell'=true) (o2:∀v∈vs,v.oneCell'=true) (hb:cs.length+vs.length≤1073741824) :
  Calls P f #[ho,.int .i64 i,ho2] w fun ee w'=>∃y,ee=.returned y∧Ins w w' e ho y (cs.length+vs.length) (cs.take i++vs++cs.drop i):=by
 obtain⟨vb,vc,vcur,rfl,hvg,hvc,hvm,hvs,hve⟩:=AJ h2 hm
 obtain⟨c2,s2,f2,sh2⟩:=Aj hvg hvs rfl hvc hve
 have hlen:(cs.take i++vs++cs.drop i).length=cs.length+vs.length:=by simp;omega
 have hmax:maxLen=9223372036854775807∨maxLen≤9223372036854775807:=by right;unfold maxLen;omega
 have hmx:maxLen≤9223372036854775807:=by omega
 -- a new row
 have fresh:∀(w':World) (arr:Array Value) (cap:Nat),cs.length+vs.length≤cap→cap≤maxLen→arr.size=cap→(∀j,j<cs.length+vs.length→arr[j]? = (cs.take i++vs++cs.drop i)[j]?)→w'.heap[w.heap.size]? = some (.cells arr e (0,0))→w'.ownsRow 0 e 1 (.slice (some ⟨w.heap.size,0,none⟩) (cs.length+vs.length) cap) (cs.length+vs.length) (cs.take i++vs++cs.drop i):=fun w' arr cap k1 k2 k3 k4 k5=>by
  refine⟨by omega,.inr ⟨_,cap,arr,rfl,ye _,k5,k1,k2,by omega,?_⟩⟩
  have:=zj (l:=cs.take i++vs++cs.drop i) (a:=arr) (by omega) (fun j hj=>k4 j (by omega))
  rw[hlen]at this
  rw[AF];exact this
 by_cases hend:i=cs.length
 ·subst hend
  have hel:cs.take cs.length++vs++cs.drop cs.length=cs++vs:=by simp
  by_cases hn0:0<cs.length
  ·obtain⟨g,cap,cur,rfl,hg,hc,hcm,hcs,hce⟩:=AJ h1 hn0
   obtain⟨c1,s1,f1,_⟩:=Aj hg hcs rfl hc hce
   by_cases hroom:cs.length+vs.length≤cap
   ·refine(S.room g 0 cs.length cap vb 0 vs.length vc vs w hm hroom (by omega) rfl (fun j hj=>by rw[Nat.add_assoc];exact s1 _ (by omega)) (fun j hj=>f1 _) c2 o2).mono ?_
    rintro ee w' ⟨rfl,rfl⟩
    have hf:=yv vs w g (0+cs.length)
    refine⟨_,rfl,⟨⟨by omega,.inr ⟨g,cap,wrA cur (0+cs.length) vs,rfl,ye _,setCells_at vs w g _ cur hg,hroom,hcm,by rw[yq];omega,?_⟩⟩,hf.2.2.1,hf.2.2.2.1,hf.2.2.2.2,by rw[hf.2.1];exact H9 _,fun q hq hne=>hf.1 q (fun e'=>hne (by rw[e'];rfl)),fun q hq=>.inr hq⟩⟩
    have:=zj (l:=cs.take cs.length++vs++cs.drop cs.length) (a:=wrA cur (0+cs.length) vs) (by rw[yq,hlen];omega) (fun j hj=>by
     rw[hlen]at hj
     rw[zq _ _ _ _ (by omega),Bj (H9 _)]
     by_cases hj1:j<cs.length
     ·rw[if_neg (by omega),if_pos hj1,hce j hj1]
     ·rw[if_pos (by omega),if_neg hj1,if_pos (by omega),Jp])
    rw[hlen]at this
    rw[AF];exact this
   ·refine(S.endg (some ⟨g,0,none⟩) cs.length cap vb 0 vs.length vc cs vs w hm hc (by omega) (by omega) rfl rfl (fun h=>by cases h) (fun a ha j v hj=>by cases ha;rw[Addr.add_lit];exact c1 j v hj) c2 o2).mono ?_
    rintro ee w' ⟨rfl,rfl⟩
    have hge:=grownCap_ge w (cs.length+vs.length) cap e
    have hle:=grownCap_le_maxLen w (cs.length+vs.length) cap e (by unfold maxLen;omega)
    generalize grownCap w (cs.length+vs.length) cap e=G at hge hle ⊢
    refine⟨_,rfl,⟨fresh _ _ G hge hle (by simp[Builtin.zeroCells,Value.cells];omega) (fun j hj=>?_) (heap_alloc_new w.drew _),rfl,rfl,rfl,by simp,fun q hq _=>?_,fun q hq=>.inl (by cases hq;exact H9 _)⟩⟩
    ·rw[hel,Array.getElem?_append_left (by simp;omega)];simp
    ·exact alloc_old _ _ _ hq
  ·have hn:cs=[]:=List.eq_nil_of_length_eq_zero (by omega)
   subst hn
   rcases h1.2 with⟨rfl,_⟩ | ⟨g,cap,cur,rfl,_,hg,hc,hcm,hcs,_⟩
   ·refine(S.endg none 0 0 vb 0 vs.length vc [] vs w hm (H9 _) (by omega) (by omega) rfl rfl (fun _=>rfl) (fun a ha=>by cases ha) c2 o2).mono ?_
    rintro ee w' ⟨rfl,rfl⟩
    have hge:=grownCap_ge w (0+vs.length) 0 e
    have hle:=grownCap_le_maxLen w (0+vs.length) 0 e (by unfold maxLen;simp at hb;omega)
    generalize grownCap w (0+vs.length) 0 e=G at hge hle ⊢
    refine⟨_,rfl,⟨fresh _ _ G hge hle (by simp[Builtin.zeroCells,Value.cells];omega) (fun j hj=>?_) (heap_alloc_new w.drew _),rfl,rfl,rfl,by simp,fun q hq _=>?_,fun q hq=>.inl (by cases hq;exact H9 _)⟩⟩
    ·simp only[yf,Jp]at hj
     rw[hel,Array.getElem?_append_left (by simp;omega)];simp
    ·exact alloc_old _ _ _ hq
   ·by_cases hroom:vs.length≤cap
    ·have s1:∀j,j<cap→(w.cell? ⟨g,0+j,none⟩).isSome=true:=fun j hj=>by rw[Lib.cell_of_heap hg,Jp,Array.getElem?_eq_getElem (by omega)];rfl
     refine(S.room g 0 0 cap vb 0 vs.length vc vs w hm (by omega) (by omega) rfl (fun j hj=>by rw[Nat.add_assoc,Jp];exact s1 _ (by omega)) (fun j hj=>by simp[World.frozen?,hg]) c2 o2).mono ?_
     rintro ee w' ⟨rfl,rfl⟩
     have hf:=yv vs w g (0+0)
     refine⟨_,rfl,⟨⟨by simp,.inr ⟨g,cap,wrA cur (0+0) vs,rfl,ye _,setCells_at vs w g _ cur hg,by simp;omega,hcm,by rw[yq];omega,?_⟩⟩,hf.2.2.1,hf.2.2.2.1,hf.2.2.2.2,by rw[hf.2.1];exact H9 _,fun q hq hne=>hf.1 q (fun e'=>hne (by rw[e'];rfl)),fun q hq=>.inr hq⟩⟩
     have:=zj (l:=vs) (a:=wrA cur (0+0) vs) (by rw[yq];omega) (fun j hj=>by
      rw[zq _ _ _ _ (by omega),if_pos (by omega)];simp)
     simpa using this
    ·refine(S.endg (some ⟨g,0,none⟩) 0 cap vb 0 vs.length vc [] vs w hm hc (by omega) (by simp at hb;omega) rfl rfl (fun h=>by cases h) (fun a ha j v hj=>by simp at hj) c2 o2).mono ?_
     rintro ee w' ⟨rfl,rfl⟩
     have hge:=grownCap_ge w (0+vs.length) cap e
     have hle:=grownCap_le_maxLen w (0+vs.length) cap e (by unfold maxLen;simp at hb;omega)
     generalize grownCap w (0+vs.length) cap e=G at hge hle ⊢
     refine⟨_,rfl,⟨fresh _ _ G hge hle (by simp[Builtin.zeroCells,Value.cells];omega) (fun j hj=>?_) (heap_alloc_new w.drew _),rfl,rfl,rfl,by simp,fun q hq _=>?_,fun q hq=>.inl (by cases hq;exact H9 _)⟩⟩
     ·simp only[yf,Jp]at hj
      rw[hel,Array.getElem?_append_left (by simp;omega)];simp
     ·exact alloc_old _ _ _ hq
 ·have hlt:i<cs.length:=by omega
  obtain⟨g,cap,cur,rfl,hg,hc,hcm,hcs,hce⟩:=AJ h1 (by omega)
  obtain⟨c1,s1,f1,sh1⟩:=Aj hg hcs rfl hc hce
  have hvg':vb≠g:=fun e'=>hd g rfl (by rw[e'];rfl)
  have hdl:(cs.drop i).length=cs.length-i:=by simp
  by_cases hroom:cs.length+vs.length≤cap
  ·refine(S.shift g 0 cs.length cap i vb 0 vs.length vc cs vs w hlt hm hroom (by omega) hvg' rfl rfl c1 (fun j hj=>s1 _ (by omega)) (fun j hj=>f1 _) c2 o1 o2 e e vc cap sh2 sh1 (by omega) (f2 _) (f2 _)).mono ?_
   rintro ee w' ⟨rfl,rfl⟩
   have hf:=yv (cs.drop i) w.drew g (0+(i+vs.length))
   have hf2:=yv vs (w.drew.setCells g (0+(i+vs.length)) (cs.drop i)) g (0+i)
   refine⟨_,rfl,⟨⟨by omega,.inr ⟨g,cap,wrA (wrA cur (0+(i+vs.length)) (cs.drop i)) (0+i) vs,rfl,ye _,setCells_at vs _ g _ _ (setCells_at _ w.drew g _ cur hg),hroom,hcm,by rw[yq,yq];omega,?_⟩⟩,hf2.2.2.1.trans hf.2.2.1,hf2.2.2.2.1.trans hf.2.2.2.1,hf2.2.2.2.2.trans hf.2.2.2.2,by rw[hf2.2.1,hf.2.1];exact H9 _,fun q hq hne=>by
    have hqg:q≠g:=fun e'=>hne (by rw[e'];rfl)
    rw[hf2.1 q hqg,hf.1 q hqg];rfl,fun q hq=>.inr hq⟩⟩
   have:=zj (l:=cs.take i++vs++cs.drop i) (a:=wrA (wrA cur (0+(i+vs.length)) (cs.drop i)) (0+i) vs) (by rw[yq,yq,hlen];omega) (fun j hj=>by
    rw[hlen]at hj
    rw[zq _ _ _ _ (by rw[yq];omega),zq _ _ _ _ (by omega),Bj hi]
    by_cases hj1:j<i
    ·rw[if_neg (by omega),if_neg (by omega),if_pos hj1,hce j (by omega)]
    ·rw[if_neg hj1]
     by_cases hj2:j<i+vs.length
     ·rw[if_pos (by omega),if_pos hj2,Jp]
     ·rw[if_neg (by omega),if_neg hj2,if_pos (by omega),A6]
      congr 1;omega)
   rw[hlen]at this
   rw[AF];exact this
  ·refine(S.grow g 0 cs.length cap i vb 0 vs.length vc cs vs w hlt hm hc (by omega) (by omega) rfl rfl c1 c2 o1 o2).mono ?_
   rintro ee w' ⟨rfl,rfl⟩
   have hge:=grownCap_ge w (cs.length+vs.length) cap e
   have hle:=grownCap_le_maxLen w (cs.length+vs.length) cap e (by unfold maxLen;omega)
   generalize grownCap w (cs.length+vs.length) cap e=G at hge hle ⊢
   obtain⟨A,hA⟩:∃A:Array Value,A=(cs.take i).toArray++Builtin.zeroCells (Value.int .i64 0).cells (cs.length+vs.length-i)++Builtin.zeroCells (Value.int .i64 0).cells (G-(cs.length+vs.length)):=⟨_,rfl⟩
   have hAs:A.size=G:=by rw[hA];simp[Builtin.zeroCells,Value.cells];omega
   have hAe:∀j,j<i→A[j]? = cs[j]?:=fun j hj=>by
    rw[hA,Array.append_assoc,Array.getElem?_append_left (by simp;omega)]
    simp[Am,hj]
   rw[← hA]
   have h0:(w.alloc (.cells A e)).heap[w.heap.size]? = some (.cells A e (0,0)):=heap_alloc_new w _
   have hf:=yv vs (w.alloc (.cells A e)).drew w.heap.size i
   have hf2:=yv (cs.drop i) ((w.alloc (.cells A e)).drew.setCells w.heap.size i vs).drew w.heap.size (i+vs.length)
   have ha1:=setCells_at vs (w.alloc (.cells A e)).drew w.heap.size i A h0
   have ha2:=setCells_at (cs.drop i) ((w.alloc (.cells A e)).drew.setCells w.heap.size i vs).drew w.heap.size (i+vs.length) _ ha1
   refine⟨_,rfl,⟨fresh _ _ G hge hle (by rw[yq,yq];exact hAs) (fun j hj=>?_) ha2,hf2.2.2.1.trans hf.2.2.1,hf2.2.2.2.1.trans hf.2.2.2.1,hf2.2.2.2.2.trans hf.2.2.2.2,by rw[hf2.2.1];show w.heap.size≤((w.alloc (.cells A e)).drew.setCells w.heap.size i vs).heap.size;rw[hf.2.1];show w.heap.size≤(w.alloc (.cells A e)).heap.size;simp,fun q hq _=>?_,fun q hq=>.inl (by cases hq;exact H9 _)⟩⟩
   ·rw[zq _ _ _ _ (by rw[yq];omega),zq _ _ _ _ (by omega),Bj hi]
    by_cases hj1:j<i
    ·rw[if_neg (by omega),if_neg (by omega),if_pos hj1,hAe j hj1]
    ·rw[if_neg hj1]
     by_cases hj2:j<i+vs.length
     ·rw[if_neg (by omega),if_pos (by omega),if_pos hj2]
     ·rw[if_pos (by omega),if_neg hj2,A6]
      congr 1;omega
   ·rw[hf2.1 q (by omega)]
    show((w.alloc (.cells A e)).drew.setCells w.heap.size i vs).heap[q]? = _
    rw[hf.1 q (by omega)]
    exact alloc_old _ _ _ hq
theorem Ak(l:List Int):(l.map I).flatMap cellsOf=l.map I:=by
 induction l with
 | nil=>rfl
 | cons x r ih=>rw[List.map_cons,List.flatMap_cons,ih];rfl
theorem Bk{P:Program}{f e k k2 N:Nat}{ho ho2:Value}{i:Int}{l m r:List Int}(hok:cI P f)(S:InsSpec P f e)(hk:k≠k2)(hN:N≤1073741824)(h:BJ N i l m=some r) :
  ACalls P f [.sl k ho,.d (I i),.sl k2 ho2] [(k,.arr ho e 1 false (l.map I)),(k2,.arr ho2 e 1 false (m.map I))] (fun ae os=>∃y:Value,True∧ae=.ret (.sl k y)∧os=[(k,.arr y e 1 false (r.map I)),(k2,.arr ho2 e 1 false (m.map I))]):=by
 unfold BJ at h
 split at h
 rotate_left
 ·cases h
 rename_i hc
 cases h
 obtain⟨j,rfl⟩:∃j:Nat,i=j:=⟨i.toNat,by omega⟩
 simp only[Int.toNat_natCast]
 refine⟨hok,fun M w vs hr ha hO=>?_⟩
 obtain⟨v1,vs',rfl,hv1,ht⟩:=ha.inv
 obtain⟨v2,vs2,rfl,hv2,ht2⟩:=ht.inv
 obtain⟨v3,vs3,rfl,hv3,ht3⟩:=ht2.inv
 have:=ht3.inv_nil
 subst this
 obtain⟨rfl,_⟩:=hv1.sl_inv
 obtain⟨rfl,_⟩:=hv3.sl_inv
 have hv2':v2=.int .i64 (j:Int):=by cases hv2 with | d _ _ hh=>cases hh;rfl
 subst hv2'
 have l1:∀o o2:Ob,look [(k,o),(k2,o2)] k=some o:=fun o o2=>by rw[aT,Nat.beq_refl]
 have l2:∀o o2:Ob,look [(k,o),(k2,o2)] k2=some o2:=fun o o2=>by
  rw[aT,show Nat.beq k k2=false from by rw[Bool.eq_false_iff];exact fun e=>hk (Ik e)]
  rw[aT,Nat.beq_refl]
 have l3:∀(o o2:Ob) (q:Nat) (z:Ob),look [(k,o),(k2,o2)] q=some z→(q=k∧z=o)∨(q=k2∧z=o2):=fun o o2 q z hz=>by
  rw[aT]at hz
  split at hz
  ·rename_i he;cases hz;exact .inl ⟨(Ik he).symm,rfl⟩
  ·obtain⟨a,b⟩:=mi hz;exact .inr ⟨a,b⟩
 have hA1:jh M w v1 e 1 false (l.map I):=hO.ok k _ (l1 _ _)
 have hA2:jh M w v3 e 1 false (m.map I):=hO.ok k2 _ (l2 _ _)
 have hA1':=hA1
 have hA2':=hA2
 obtain⟨cs,r1,a1,o1,_,f1⟩:=hA1'
 obtain⟨ms,r2,a2,o2,_,f2⟩:=hA2'
 rw[Ak]at a1 a2
 have e1:cs.length=l.length:=by have:=a1.1;simp at this;omega
 have e2:ms.length=m.length:=by have:=a2.1;simp at this;omega
 rw[Ia,← e1]at r1
 rw[Ia,← e2]at r2
 have hdj:∀q,v1.ownBlock=some q→v3.ownBlock≠some q:=fun q h1 h2=>hk (hO.dj k k2 _ _ q (l1 _ _) (l2 _ _) h1 h2)
 have hmp:0<m.length:=List.length_pos_iff.2 hc.2.2.1
 refine(B0 S r1 r2 (by omega) (by omega) hdj o1 o2 (by omega)).mono ?_
 rintro ee w' ⟨y,rfl,hI⟩
 have hys:∃a n c,y=.slice a n c:=by rcases hI.row.2 with⟨rfl,_⟩ | ⟨g,cap,cur,rfl,_⟩<;>exact⟨_,_,_,rfl⟩
 obtain⟨ya,yn,yc,rfl⟩:=hys
 have hfree:∀q,(Value.slice ya yn yc).ownBlock=some q→Free M q:=fun q hq=>by
  rcases hI.blk q hq with h1 | h1
  ·exact hr.free h1
  ·exact⟨fun o=>(f1 q h1).2 o (.inl rfl),(f1 q h1).1⟩
 have hlt:∀q,v1.ownBlock=some q→q<w.heap.size:=fun q hq=>qy hA1 hq
 have hlt2:∀q,v3.ownBlock=some q→q<w.heap.size:=fun q hq=>qy hA2 hq
 have hO':Obs M w' [(k,.arr (.slice ya yn yc) e 1 false ((l.take j++m++l.drop j).map I)),(k2,.arr v3 e 1 false (m.map I))]:=by
  refine⟨fun q z hz=>?_,fun q q' z z' b hz hz' hb hb'=>?_⟩
  ·rcases l3 _ _ _ _ hz with⟨rfl,rfl⟩ | ⟨rfl,rfl⟩
   ·refine⟨cs.take j++ms++cs.drop j,?_,?_,fun v hv=>?_,fun x hx=>?_,fun b hb=>⟨(hfree b hb).m,fun o _=>(hfree b hb).c o⟩⟩
    ·have:((l.take j++m++l.drop j).map I).length=cs.length+ms.length:=by simp;omega
     rw[this];exact hI.row
    ·rw[Ak,zR,zR,List.map_take,List.map_drop]
     exact((a1.take j).append a2).append (a1.drop j)
    ·rcases List.mem_append.1 hv with hv | hv
     ·rcases List.mem_append.1 hv with hv | hv
      ·exact o1 v (List.mem_of_mem_take hv)
      ·exact o2 v hv
     ·exact o1 v (List.mem_of_mem_drop hv)
    ·obtain⟨n,_,rfl⟩:=List.mem_map.1 hx;rfl
   ·exact gy hA2 (GM.le_refl M) fun b hb=>⟨hI.keep b (hlt2 b hb) (fun h1=>hdj b h1 hb),fun _=>rfl,rfl⟩
  ·rcases l3 _ _ _ _ hz with⟨rfl,rfl⟩ | ⟨rfl,rfl⟩<;>rcases l3 _ _ _ _ hz' with⟨rfl,rfl⟩ | ⟨rfl,rfl⟩
   ·rfl
   ·exfalso
    rcases hI.blk b hb with h1 | h1
    ·have:=hlt2 b hb';omega
    ·exact hdj b h1 hb'
   ·exfalso
    rcases hI.blk b hb' with h1 | h1
    ·have:=hlt2 b hb;omega
    ·exact hdj b h1 hb
   ·rfl
 refine⟨_,M,hO',⟨fun q o x hx=>?_,fun q x hx=>?_,hr.t⟩,⟨⟨hI.os,hI.tape,hI.output,hI.size,fun q hq hn=>hI.keep q hq fun h1=>hn ⟨k,_,l1 _ _,h1⟩,M.le_refl,fun _ _ _ _=>rfl,fun _ _ _=>rfl⟩,?_⟩,.inl ⟨_,_,rfl,⟨_,trivial,rfl,rfl⟩,.sl _ _ _ _⟩⟩
 ·have h0:=hr.c _ _ _ hx
  have hql:q<w.heap.size:=by have:=World.block_lt_of_cell? w _ h0;simpa using this
  rw[World.cell?_of_block (w:=w) (hI.keep q hql fun e'=>by rw[(f1 q e').2 o (.inl rfl)]at hx;cases hx)];exact h0
 ·have h0:=hr.m _ _ hx
  rw[hI.keep q (aK h0) fun e'=>by rw[(f1 q e').1]at hx;cases hx];exact h0
 ·rintro b ⟨q,z,hz,hb⟩
  rcases l3 _ _ _ _ hz with⟨rfl,rfl⟩ | ⟨rfl,rfl⟩
  ·rcases hI.blk b hb with h1 | h1
   ·exact .inr h1
   ·exact .inl ⟨q,_,l1 _ _,h1⟩
  ·exact .inl ⟨q,_,l2 _ _,hb⟩
end
end Go.Abs
