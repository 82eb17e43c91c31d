/-
 Soundness, eighth part: append.
-/
import Derived.Test.YtdodahpkpeodfaaGreatDoorAbsJ
set_option linter.all false
open List renaming append_assoc→zb,eq_nil_of_length_eq_zero→JB,flatMap_append→BZ,getElem?_append_left→za,getElem?_eq_getElem→IX,getElem?_map→Jr,getElem?_range→yM,length_append→Js,range→Jq,size_toArray→DW,take_left→BX
open Nat renaming le_refl→H9,zero_add→Jp
namespace Go.Abs
open Go
section
variable {P:Program}{tt:TT}{M M':GM}{s s':St}{a:Act}{w w':World}
structure App(w w':World)(e esz:Nat)(hd h':Value)(n m:Nat)(vals news:List Value):Prop where
 row:w'.ownsRow 0 e esz h' (n+m) (vals++news)
 os:w'.os=w.os
 tape:w'.tape=w.tape
 output:w'.output=w.output
 size:w.heap.size≤w'.heap.size
 keep:∀b,b<w.heap.size→hd.ownBlock≠some b→w'.heap[b]? = w.heap[b]?
 blk:∀b,h'.ownBlock=some b→w.heap.size≤b∨hd.ownBlock=some b
 pre:∀g o,hd.ownBlock=some g→o<n*esz→w'.cell? ⟨g,o,none⟩=w.cell? ⟨g,o,none⟩
 sl:∃x y z,h'=.slice x y z
theorem ot{base e size n:Nat}{v:Value}{xs:List Value}(h:w.ownsRow base e size v n xs):∃x y z,v=.slice x y z:=by
 rcases h.2 with⟨rfl,_⟩ | ⟨g,cap,cur,rfl,_⟩<;>exact⟨_,_,_,rfl⟩
theorem App.same{e size n:Nat}{hd:Value}{vals:List Value}(h:w.ownsRow 0 e size hd n vals):App w w e size hd hd n 0 vals [] :=
 ⟨by simpa using h,rfl,rfl,rfl,H9 _,fun _ _ _=>rfl,fun b hb=>.inr hb,fun _ _ _ _=>rfl,ot h⟩
theorem we(t ty e:TypeId)(i:TypeInfo)(z:Value)(size bytes:Nat)(ht:P.underlying t=some (.slice e))(hi:P.info? e=some i)(hz:i.zero=some z)
  (hsize:i.size=size) (hby:i.bytes=bytes) (hzs:z.cells.size=size)
  (v:Value) (n:Nat) (xs:List Value) (hown:w.ownsRow 0 e size v n xs)
  (ad0:Addr) (m c:Nat) (news:List Value) (hl:news.length=m*size) (hnews:∀j u,news[j]? = some u→w.cell? (ad0.add j)=some u) (h1:∀u∈news,u.oneCell'=true)
  (h63:n+m≤maxLen) (hbytes:(n+m)*bytes≤140737488355328) :
  ∃v' w',(Builtin.append_ #[t,t] ty #[v,.slice (some ad0) m c]).run P w=.ok v' w'∧App w w' e size v v' n m xs news:=by
 subst hsize
 subst hby
 have hsmall:n+m≤9223372036854775807:=by simp only[maxLen]at h63;omega
 have hlen:(xs++news).length=(n+m)*i.size:=by rw[Js,hown.1,hl,Nat.add_mul]
 have grown:∀(old:Nat),old<n+m→App w (w.drew.alloc (.cells (xs.toArray++news.toArray++Builtin.zeroCells z.cells (grownCap w (n+m) old e-(n+m))) e)) e i.size v
    (.slice (some ⟨w.heap.size,0,none⟩) (n+m) (grownCap w (n+m) old e)) n m xs news:=by
  intro old ho
  have hge:=grownCap_ge w (n+m) old e
  have hcm:grownCap w (n+m) old e≤maxLen:=grownCap_le_maxLen w (n+m) old e h63
  have hnew:(w.drew.alloc (.cells (xs.toArray++news.toArray++Builtin.zeroCells z.cells (grownCap w (n+m) old e-(n+m))) e)).heap[w.heap.size]? = some (.cells (xs.toArray++news.toArray++Builtin.zeroCells z.cells (grownCap w (n+m) old e-(n+m))) e):=by
   have:=heap_alloc_new w.drew (.cells (xs.toArray++news.toArray++Builtin.zeroCells z.cells (grownCap w (n+m) old e-(n+m))) e)
   exact this
  refine⟨⟨hlen,.inr ⟨w.heap.size,_,_,rfl,Nat.zero_le _,hnew,hge,hcm,?_,?_⟩⟩,rfl,rfl,rfl,by simp,fun b hb _=>alloc_old w.drew _ b hb,fun b hb=>?_,fun g o hg ho'=>?_,⟨_,_,_,rfl⟩⟩
  ·simp only[Array.size_append,DW,size_zeroCells,hzs,hown.1,hl,← Nat.add_mul]
   congr 1
   omega
  ·simp only[Array.toList_append,zb]
   rw[← zb,← hlen]
   exact BX
  ·simp[Value.ownBlock]at hb;omega
  ·have:=(hown.lt g hg).2
   rw[World.cell?_alloc_lt _ _ _ (by exact this)];rfl
 rcases hown.2 with⟨rfl,rfl⟩ | ⟨g,cap,cur,rfl,_,hg,hnc,hcm,hcs,htake⟩
 ·have hx:xs=[]:=JB (by simpa using hown.1)
  subst hx
  by_cases hm:m=0
  ·subst hm
   have hn:news=[]:=JB (by simpa using hl)
   subst hn
   refine⟨.slice none 0 0,w,?_,.same hown⟩
   simp[Builtin.append_,run_underlying ht,sizeOf,typeInfo,hi,Builtin.lenOf,Builtin.firstCells,loadCells,loadCellsFrom]
  ·have hr:=run_append_nil (P:=P) w t ty e i z ht hi hz ad0 m c news hl hnews (by omega) (by omega) (by have hb:=hbytes;simp only[Jp]at hb;omega)
   have hgr:=grown 0 (by omega)
   simp only[Jp,Array.empty_append]at hgr ⊢
   exact⟨_,_,hr,hgr⟩
 ·by_cases hroom:n+m≤cap
  ·have hfit:n*i.size+news.length≤cur.size:=by rw[hl,hcs,← Nat.add_mul];exact Nat.mul_le_mul_right _ hroom
   have hr:=run_append_room (P:=P) w t ty e i ht hi g n cap cur hg ad0 m c news hl hnews h1 hroom hfit
   refine⟨_,_,hr,⟨hlen,.inr ⟨g,cap,_,rfl,Nat.zero_le _,setRow_heap w g cur _ e _ hg,hroom,hcm,?_,?_⟩⟩,rfl,rfl,rfl,by simp,fun b _ hb=>setRow_other w g _ (fun e=>hb (by simp[Value.ownBlock,e])),
    fun b hb=>.inr hb,fun g' o hg' ho=>?_,⟨_,_,_,rfl⟩⟩
   ·simp only[DW,Js,List.length_take,List.length_drop,Array.length_toList]
    omega
   ·rw[htake,← hlen]
    exact BX
   ·simp[Value.ownBlock]at hg'
    subst hg'
    rw[cell_of_row _ g o _ _ _ (setRow_heap w g cur _ e _ hg),cell_of_row w g o _ _ _ hg]
    have hlt:o<cur.size:=by omega
    simp only[zb,List.getElem?_toArray]
    rw[za (by simp;omega),List.getElem?_take,if_pos ho]
    simp
  ·have holds:∀j u,xs[j]? = some u→w.cell? ((⟨g,0,none⟩:Addr).add j)=some u:=hown.cells (g:=g) rfl
   have hr:=run_append_grow (P:=P) w t ty e i z ht hi hz ⟨g,0,none⟩ n cap xs hown.1 holds ad0 m c news hl hnews (by omega) (by omega) (growslice_fits (by omega) hbytes)
   exact⟨_,_,hr,grown cap (by omega)⟩
theorem oV(hR:Rel M s a w){esz:Nat}{v:AV}{val:Value}(hv:GamA M v val){K:List D→Prop}(h:m8 s esz v K) :
  ∃ys news,K ys∧All2 (Gam M) (ys.flatMap cellsOf) news∧(∀u∈news,u.oneCell'=true)∧(∀y∈ys,(cellsOf y).length=esz) ∧
   ((val=.slice none 0 0∧ys=[])∨∃ad c,val=.slice (some ad) ys.length c∧∀j u,news[j]? = some u→w.cell? (ad.add j)=some u):=by
 unfold m8 at h
 have hv:=aM hv
 split at h
 ·rename_i ex
  rw[ex]at hv
  cases hv
  exact⟨[],[],h,.nil,by simp,by simp,.inl ⟨rfl,rfl⟩⟩
 ·rename_i sz ys ex
  rw[ex]at hv
  obtain⟨rfl,h⟩:=h
  cases hv with | d _ _ hv=>?_
  cases hv with
  | nils=>exact⟨[],[],h,.nil,by simp,by simp,.inl ⟨rfl,rfl⟩⟩
  | listz _ ad cap=>exact⟨[],[],h,.nil,by simp,by simp,.inr ⟨ad,cap,rfl,fun j u hu=>by simp at hu⟩⟩
  | list _ _ b off cap vf hc hs hm hg h1 =>
   have hmem:∀j u,((Jq (ys.flatMap cellsOf).length).map vf)[j]? = some u→j<(ys.flatMap cellsOf).length∧u=vf j:=by
    intro j u hu
    have hlt:j<(ys.flatMap cellsOf).length:=by have:=(List.getElem?_eq_some_iff.1 hu).1;simpa using this
    rw[Jr,yM hlt]at hu
    simp at hu;exact⟨hlt,hu.symm⟩
   refine⟨ys,(Jq (ys.flatMap cellsOf).length).map vf,h,⟨by simp,fun j x y hx hy=>?_⟩,fun u hu=>?_,hs,.inr ⟨⟨b,off,none⟩,cap,rfl,fun j u hu=>?_⟩⟩
   ·obtain⟨_,rfl⟩:=hmem j y hy;exact hg j x hx
   ·obtain⟨j,hj⟩:=List.mem_iff_getElem?.1 hu
    obtain⟨hlt,rfl⟩:=hmem j u hj
    exact h1 j (ys.flatMap cellsOf)[j] (by rw[IX hlt])
   ·obtain⟨hlt,rfl⟩:=hmem j u hu
    rw[addr_add];exact hR.rs.c _ _ _ (hm j (ys.flatMap cellsOf)[j] (by rw[IX hlt]))
 ·rename_i k hd ex
  rw[ex]at hv
  have hq0:=jt hR h;clear h;obtain⟨ob,hlk,hok,h⟩:=hq0
  split at h
  ·rename_i h' e sz fz ys
   obtain⟨⟨rfl,rfl⟩,h⟩:=h
   obtain⟨rfl,aa,nn,cc,rfl⟩:=hv.sl_inv
   obtain⟨vals,hown,hall,h1,hsz,_⟩:=hok
   refine⟨ys,vals,h,hall,h1,hsz,?_⟩
   have hcells:=fun g hg=>hown.cells (g:=g) hg
   rcases hown.2 with⟨e1,e2⟩ | ⟨g,cap,cur,e1,_⟩
   ·exact .inl ⟨e1,JB e2⟩
   ·exact .inr ⟨⟨g,0,none⟩,cap,e1,fun j u hu=>hcells g (by rw[e1];rfl) j u hu⟩
  ·exact h.elim
 ·exact h.elim
theorem Rel.app(hR:Rel M s a w){e sz:Nat}{hd h':Value}{fz:Bool}{xs ys zs:List D}{vals news:List Value}{k d:Nat}{K:St→Prop}
  (hall:All2 (Gam M) (xs.flatMap cellsOf) vals) (h1:∀v∈vals,v.oneCell'=true) (hsz:∀x∈xs,(cellsOf x).length=sz)
  (hall2:All2 (Gam M) (ys.flatMap cellsOf) news) (h2:∀v∈news,v.oneCell'=true) (hsz2:∀y∈ys,(cellsOf y).length=sz)
  (hfree:∀b,hd.ownBlock=some b→M.m b=none∧∀o,fz=false∨xs.length*sz≤o→M.c b o=none)
  (hA:App w w' e sz hd h' xs.length ys.length vals news) (hzs:xs++ys=zs)
  (hown:∀b,hd.ownBlock=some b→∃o0,look s.ob k=some o0∧bu o0 b)
  (h:s.setO k (.arr h' e sz fz zs) fun s'=>s'.putN d (.sl k h') K) :
  ∃s',K s'∧Rel M s' (a.put (some d) h') w'∧Stp s.ob M w s'.ob M w':=by
 subst hzs
 obtain⟨s1,hk1,hn,hg,ho,hj⟩:=St.setO_ok h
 have hrs:Resp M w':=by
  refine⟨fun b o v hv=>?_,fun b x hx=>?_,hR.rs.t⟩
  ·have h0:=hR.rs.c _ _ _ hv
   by_cases e:hd.ownBlock=some b
   ·have hlt:o<xs.length*sz:=by
     rcases Nat.lt_or_ge o (xs.length*sz)with h | h
     ·exact h
     ·rw[(hfree b e).2 o (.inr h)]at hv;cases hv
    rw[hA.pre b o e hlt];exact h0
   ·rw[World.cell?_of_block (w:=w) (hA.keep b (World.block_lt_of_cell? w _ h0) e)];exact h0
  ·have h0:=hR.rs.m _ _ hx
   have:hd.ownBlock≠some b:=fun e=>by rw[(hfree b e).1]at hx;cases hx
   rw[hA.keep b (aK h0) this];exact h0
 have hok:gW M w' (.arr h' e sz fz (xs++ys)):=by
  refine⟨vals++news,by simpa using hA.row,by rw[BZ];exact hall.append hall2,?_,?_,fun b hb=>?_⟩
  ·intro v hv;rcases List.mem_append.1 hv with hv | hv
   ·exact h1 v hv
   ·exact h2 v hv
  ·intro v hv;rcases List.mem_append.1 hv with hv | hv
   ·exact hsz v hv
   ·exact hsz2 v hv
  ·rcases hA.blk b hb with hf | hf
   ·have:=hR.rs.free hf
    exact⟨this.m,fun o _=>this.c o⟩
   ·refine⟨(hfree b hf).1,fun o ho'=>(hfree b hf).2 o (ho'.imp id fun ho'=>?_)⟩
    rw[Js,Nat.add_mul]at ho';omega
 obtain⟨r1,p1⟩:=hR.upd (S:=fun b=>hd.ownBlock=some b) k _ hn hg ho hj ⟨hA.os,hA.tape,hA.output,hA.size,fun b hb hns=>hA.keep b hb hns,M.le_refl,fun _ _ _ _=>rfl,fun _ _ _=>rfl⟩ hrs
  (fun b _ hb=>hown b hb) hok (fun b hb=>(hA.blk b hb).imp id fun hf=>hown b hf)
 obtain⟨x,y,z,rfl⟩:=hA.sl
 obtain⟨s',g1,g2,g3⟩:=r1.set hk1 (.sl k x y z)
 exact⟨s',g1,g2,p1.ob_eq g3⟩
theorem App.resp(hr:Resp M w){e sz n m:Nat}{hd h':Value}{vals news:List Value}(hA:App w w' e sz hd h' n m vals news)(hf:∀b,hd.ownBlock=some b→M.m b=none∧∀o,M.c b o=none):Resp M w':=by
 refine⟨fun b o v hv=>?_,fun b x hx=>?_,hr.t⟩
 ·have h0:=hr.c _ _ _ hv
  have:hd.ownBlock≠some b:=fun e=>by rw[(hf b e).2 o]at hv;cases hv
  rw[World.cell?_of_block (w:=w) (hA.keep b (World.block_lt_of_cell? w _ h0) this)];exact h0
 ·have h0:=hr.m _ _ hx
  have:hd.ownBlock≠some b:=fun e=>by rw[(hf b e).1]at hx;cases hx
  rw[hA.keep b (aK h0) this];exact h0
theorem Rel.appRows(hR:Rel M s a w){e re rsz:Nat}{hd h':Value}{hs:Nat→Value}{xs:List (List D)}{k d:Nat}{K:St→Prop}
  (hk:look s.ob k=some (.rows hd e re rsz hs none xs)) (hA:App w w' e 1 hd h' xs.length 1 ((Jq xs.length).map hs) [.slice none 0 0])
  (h:s.setO k (.rows h' e re rsz (mz hs xs.length (.slice none 0 0)) none (xs++[[]])) fun s'=>s'.putN d (.sl k h') K) :
  ∃s',K s'∧Rel M s' (a.put (some d) h') w'∧Stp s.ob M w s'.ob M w':=by
 obtain⟨hown,hfree,hsl,hrow,hd1,hd2⟩:=hR.ob.ok k _ hk
 obtain⟨s1,hk1,hn,hg,ho,hj⟩:=St.setO_ok h
 have hup:∀q,mz hs xs.length (.slice none 0 0) q=if q=xs.length then .slice none 0 0 else hs q:=fun _=>rfl
 have hlt:∀q b,q<xs.length→(hs q).ownBlock=some b→b<w.heap.size:=fun q b hq hb=>K3 (hR.ob.ok k _ hk) (.inr ⟨q,hq,by simp,hb⟩)
 have hnil:∀q b,(mz hs xs.length (.slice none 0 0) q).ownBlock=some b→q<xs.length+1→q<xs.length∧(hs q).ownBlock=some b:=by
  intro q b hb hq
  rw[hup]at hb
  split at hb
  ·simp[Value.ownBlock]at hb
  ·exact⟨by omega,hb⟩
 have hok:gW M w' (.rows h' e re rsz (mz hs xs.length (.slice none 0 0)) none (xs++[[]])):=by
  refine⟨?_,fun b hb=>?_,fun q hq=>?_,fun q x hx _=>?_,fun q hq _ b hb=>?_,fun p q hp hq _ _ b hb1 hb2=>?_⟩
  ·have:(Jq (xs++[[]]).length).map (mz hs xs.length (.slice none 0 0))=(Jq xs.length).map hs++[.slice none 0 0]:=by
    simp only[Js,List.length_cons,List.length_nil,List.range_succ,List.map_append,List.map_cons,List.map_nil,Jp]
    congr 1
    ·apply List.map_congr_left
     intro q hq
     have:=List.mem_range.1 hq
     rw[hup,if_neg (by omega)]
    ·rw[hup,if_pos rfl]
   rw[this]
   simpa using hA.row
  ·rcases hA.blk b hb with hf | hf
   ·exact hR.rs.free hf
   ·exact hfree b hf
  ·rw[hup];split
   ·exact⟨_,_,_,rfl⟩
   ·exact hsl q (by simp at hq;omega)
  ·rw[List.getElem?_append]at hx
   rw[hup]
   split at hx
   ·rename_i hq
    rw[if_neg (by omega)]
    exact gy (hrow q x hx (by simp)) M.le_refl fun b hb=>⟨hA.keep b (hlt q b hq hb) (hd1 q hq (by simp) b hb),fun _=>rfl,rfl⟩
   ·rename_i hq
    have hq2:q-xs.length=0:=by
     have:=(List.getElem?_eq_some_iff.1 hx).1;simp at this;omega
    rw[hq2]at hx;simp at hx;subst hx
    rw[if_pos (by omega)]
    exact⟨[],World.ownsRow_nil _ 0 re rsz,.nil,by simp,by simp,fun b hb=>by simp[Value.ownBlock]at hb⟩
  ·obtain⟨h1,h2⟩:=hnil q b hb (by simpa using hq)
   intro e'
   rcases hA.blk b e' with hf | hf
   ·have:=hlt q b h1 h2;omega
   ·exact hd1 q h1 (by simp) b h2 hf
  ·obtain⟨h1,h2⟩:=hnil p b hb1 (by simpa using hp)
   obtain⟨h3,h4⟩:=hnil q b hb2 (by simpa using hq)
   exact hd2 p q h1 h3 (by simp) (by simp) b h2 h4
 obtain⟨r1,p1⟩:=hR.upd (S:=fun b=>hd.ownBlock=some b) (M':=M) (w':=w') k _ hn hg ho hj ⟨hA.os,hA.tape,hA.output,hA.size,fun b hb hns=>hA.keep b hb hns,M.le_refl,fun _ _ _ _=>rfl,fun _ _ _=>rfl⟩
  (hA.resp hR.rs fun b hb=>⟨(hfree b hb).m,(hfree b hb).c⟩) (fun b _ hb=>⟨_,hk,.inl hb⟩) hok (fun b hb=>by
   rcases hb with hb | ⟨q,hq,_,hb⟩
   ·exact(hA.blk b hb).imp id fun hf=>⟨_,hk,.inl hf⟩
   ·obtain⟨h1,h2⟩:=hnil q b hb (by simpa using hq)
    exact .inr ⟨_,hk,.inr ⟨q,h1,by simp,h2⟩⟩)
 obtain⟨x,y,z,rfl⟩:=hA.sl
 obtain⟨s',g1,g2,g3⟩:=r1.set hk1 (.sl k x y z)
 exact⟨s',g1,g2,p1.ob_eq g3⟩
theorem Rel.appRow(hR:Rel M s a w){e re rsz:Nat}{hd h':Value}{hs:Nat→Value}{xs:List (List D)}{x ys zs:List D}{vals news:List Value}{k kn d j:Nat}{K:St→Prop}(hkk:kn≠k)
  (hk:look s.ob k=some (.rows hd e re rsz hs none xs)) (hx:xs[j]? = some x) (hall:All2 (Gam M) (x.flatMap cellsOf) vals) (h1:∀v∈vals,v.oneCell'=true)
  (hall2:All2 (Gam M) (ys.flatMap cellsOf) news) (h2:∀v∈news,v.oneCell'=true) (hsz2:∀y∈ys,(cellsOf y).length=rsz)
  (hA:App w w' re rsz (hs j) h' x.length ys.length vals news) (hzs:x++ys=zs)
  (h:s.setO k (.rows hd e re rsz hs (some j) xs) fun s1=>s1.setO kn (.arr h' re rsz false zs) fun s2=>s2.putN d (.sl kn h') K) :
  ∃s',K s'∧Rel M s' (a.put (some d) h') w'∧Stp s.ob M w s'.ob M w':=by
 subst hzs
 have hokk:=hR.ob.ok k _ hk
 obtain⟨hown,hfree,hsl,hrow,hd1,hd2⟩:=hokk
 have hjl:j<xs.length:=(List.getElem?_eq_some_iff.1 hx).1
 obtain⟨vals',hown',hall',h1',hsz',hfree'⟩:=hrow j x hx (by simp)
 have hf:∀b,(hs j).ownBlock=some b→M.m b=none∧∀o,M.c b o=none:=fun b hb=>⟨(hfree' b hb).1,fun o=>(hfree' b hb).2 o (.inl rfl)⟩
 obtain⟨s1,h,hn1,hg1,ho1,hj1⟩:=St.setO_ok h
 obtain⟨s2,hk2,hn2,hg2,ho2,hj2⟩:=St.setO_ok h
 have hlt:∀q b,q<xs.length→(hs q).ownBlock=some b→b<w.heap.size:=fun q b hq hb=>K3 (hR.ob.ok k _ hk) (.inr ⟨q,hq,by simp,hb⟩)
 have hokA:gW M w' (.arr h' re rsz false (x++ys)):=by
  refine⟨vals++news,by simpa using hA.row,by rw[BZ];exact hall.append hall2,?_,?_,fun b hb=>?_⟩
  ·intro v hv;rcases List.mem_append.1 hv with hv | hv
   ·exact h1 v hv
   ·exact h2 v hv
  ·intro v hv;rcases List.mem_append.1 hv with hv | hv
   ·exact hsz' v hv
   ·exact hsz2 v hv
  ·rcases hA.blk b hb with hf' | hf'
   ·have:=hR.rs.free hf'
    exact⟨this.m,fun o _=>this.c o⟩
   ·exact⟨(hf b hf').1,fun o _=>(hf b hf').2 o⟩
 have hokR:gW M w' (.rows hd e re rsz hs (some j) xs):=by
  refine⟨⟨hown.1,?_⟩,hfree,hsl,fun q y hy hh=>?_,fun q hq _ b hb=>hd1 q hq (by simp) b hb,fun p q hp hq _ _ b hb1 hb2=>hd2 p q hp hq (by simp) (by simp) b hb1 hb2⟩
  ·rcases hown.2 with hn | ⟨g,cap,cur,e1,hg,hh,r⟩
   ·exact .inl hn
   ·exact .inr ⟨g,cap,cur,e1,hg,by rw[hA.keep g (aK hh) (fun e'=>hd1 j hjl (by simp) g e' (by rw[e1];rfl))];exact hh,r⟩
  ·have hql:q<xs.length:=(List.getElem?_eq_some_iff.1 hy).1
   refine gy (hrow q y hy (by simp)) M.le_refl fun b hb=>⟨hA.keep b (hlt q b hql hb) fun e'=>hh ?_,fun _=>rfl,rfl⟩
   rw[hd2 j q hjl hql (by simp) (by simp) b e' hb]
 obtain⟨r1,p1⟩:=hR.upd2 (s':=s2) (S:=fun b=>(hs j).ownBlock=some b) (M':=M) (w':=w') k kn _ _ hkk (by rw[hn2,hn1]) (fun q=>by rw[hg2,hg1]) (by rw[hj2 k (Ne.symm hkk)];exact ho1) ho2
  (fun q q1 q2=>by rw[hj2 q q2,hj1 q q1]) ⟨hA.os,hA.tape,hA.output,hA.size,fun b hb hns=>hA.keep b hb hns,M.le_refl,fun _ _ _ _=>rfl,fun _ _ _=>rfl⟩ (hA.resp hR.rs hf)
  (fun b _ hb=>⟨k,_,.inl rfl,hk,.inr ⟨j,hjl,by simp,hb⟩⟩) hokR hokA (fun b hb=>by
   rcases hb with(hb | ⟨q,hq,_,hb⟩) | hb
   ·exact .inr ⟨k,_,.inl rfl,hk,.inl hb⟩
   ·exact .inr ⟨k,_,.inl rfl,hk,.inr ⟨q,hq,by simp,hb⟩⟩
   ·exact(hA.blk b hb).imp id fun hf'=>⟨k,_,.inl rfl,hk,.inr ⟨j,hjl,by simp,hf'⟩⟩) (fun b hb hb2=>by
   rcases hA.blk b hb2 with hf' | hf'
   ·rcases hb with hb | ⟨q,hq,_,hb⟩
    ·have:=(hown.lt b hb).2;omega
    ·have:=hlt q b hq hb;omega
   ·rcases hb with hb | ⟨q,hq,hh,hb⟩
    ·exact hd1 j hjl (by simp) b hf' hb
    ·exact hh (by rw[hd2 j q hjl hq (by simp) (by simp) b hf' hb]))
 obtain⟨x,y,z,rfl⟩:=hA.sl
 obtain⟨s',g1,g2,g3⟩:=r1.set hk2 (.sl kn x y z)
 exact⟨s',g1,g2,p1.ob_eq g3⟩
theorem tp{o:Oper}{c:Call}{K:St→Prop}(hR:Rel M s a w)(ho:o.op=.call c)(hc:c.callee=.builtin .append){kk d:Nat}(hd:o.dst=some d){x y:AV}(hargs:c.args.toList.map s.eval=[x,y])
  {t e:TypeId} (hts:c.argTypes.toList=[t,t]) {i ei:TI} (hi:aX P t i=true) (hk:i.k=.slice e) (hei:aX P e ei=true)
  (h:m8 s i.esz y fun ys=>pt i ei e s kk d x ys K):EOk P o a M w s K:=by
 have hall:All2 (GamA M) (c.args.toList.map s.eval) (c.args.map a.eval).toList:=by rw[Array.toList_map];exact .list_map _ _ _ hR.eval
 rw[hargs]at hall
 obtain⟨vx,r1,e1,hx,hall⟩:=hall.inv
 obtain⟨vy,r2,e2,hy,hall⟩:=hall.inv
 have e3:=hall.inv_nil
 subst e3 e2
 have ea:c.args.map a.eval=#[vx,vy]:=by rw[← Array.toList_inj];exact e1
 have et:c.argTypes=#[t,t]:=by rw[← Array.toList_inj];exact hts
 obtain⟨_,dd,_,hdd,_,_,htk,_⟩:=aB hi
 obtain⟨rfl,he,hpos⟩:=bH htk hk
 obtain⟨inf,_,hinf,_,hsz,hby,_,z,hz,hzz,hzs,_⟩:=aB hei
 have hesz:i.esz=ei.size:=by rw[← he];simp[Program.cellsOf,hinf,hsz]
 have hex:∀v' w1,(Builtin.append_ #[t,t] o.type #[vx,vy]).run P w=.ok v' w1→(execOp a.eval o).run P w=.ok (.value v') w1:=by
  intro v' w1 hrun
  simp[execOp,ho,resolve,hc,ea,et,invoke,builtin,hrun]
 have hq:=oV hR hy h
 clear h
 obtain⟨ys,news,h,hall2,h2,hsz2,hsrc⟩:=hq
 have hnl:news.length=ys.length*i.esz:=by rw[← hall2.1,dH hsz2]
 -- with the array that is appended to
 have go:∀(hd':Value) (xs:List D) (vals:List Value),vx=hd'→w.ownsRow 0 e i.esz hd' xs.length vals→(xs.length+ys.length)*ei.bytes≤140737488355328→xs.length+ys.length≤9223372036854775807 →
   ∃v' w1,(Builtin.append_ #[t,t] o.type #[vx,vy]).run P w=.ok v' w1∧App w w1 e i.esz hd' v' xs.length ys.length vals news:=by
  intro hd' xs vals hvx hown hb hm
  subst hvx
  rcases hsrc with⟨rfl,rfl⟩ | ⟨sad,cc,rfl,hcell⟩
  ·have hn0:news=[]:=JB (by simpa using hnl)
   subst hn0
   exact⟨_,w,run_append_owned_none w 0 t o.type e inf i.esz hdd hinf vx xs.length vals hown,.same hown⟩
  ·exact we t o.type e inf z i.esz ei.bytes hdd hinf hz (by rw[hsz,hesz]) hby (by rw[hesz];exact hzs) vx xs.length vals hown sad ys.length cc news hnl hcell h2 (by simp only[maxLen];omega) hb
 unfold pt at h
 split at h
 ·-- nil
  cases hx
  obtain⟨⟨hb,hm⟩,zs,hzs',h⟩:=h
  obtain⟨v',w1,hrun,hA⟩:=go (.slice none 0 0) [] [] rfl (World.ownsRow_nil w 0 e i.esz) (by simpa using hb) (by simpa using hm)
  obtain⟨s',g1,g2,g3⟩:=hR.app (xs:=[]) (fz:=false) (k:=kk) (d:=d) (K:=K) .nil (by simp) (by simp) hall2 h2 hsz2 (fun b hb=>by simp[Value.ownBlock]at hb) hA (by simpa using hzs') (fun b hb=>by simp[Value.ownBlock]at hb) (h v')
  exact⟨_,_,_,hex _ _ hrun,.inl rfl,s',M,g1,by rw[hd];exact g2,g3⟩
 ·rename_i k hdr
  split at h
  ·rename_i h' e' sz fz xs hlk
   obtain⟨⟨rfl,rfl,rfl⟩,⟨hb,hm⟩,zs,hzs',h⟩:=h
   obtain⟨vals,hown,hallx,h1,hszx,hfree⟩:=hR.ob.ok k _ hlk
   obtain⟨rfl,_⟩:=hx.sl_inv
   obtain⟨v',w1,hrun,hA⟩:=go vx xs vals rfl hown hb hm
   obtain⟨s',g1,g2,g3⟩:=hR.app (k:=k) (d:=d) (K:=K) hallx h1 hszx hall2 h2 hsz2 hfree hA hzs' (fun b hb=>⟨_,hlk,hb⟩) (h v')
   exact⟨_,_,_,hex _ _ hrun,.inl rfl,s',M,g1,by rw[hd];exact g2,g3⟩
  ·rename_i h' e' re rsz hs xs hlk
   split at h
   ·obtain⟨⟨rfl,rfl,hez⟩,⟨hb,hm⟩,zs,rfl,h⟩:=h
    have hown:=(hR.ob.ok k _ hlk).1
    obtain⟨rfl,_⟩:=hx.sl_inv
    obtain⟨u,us,rfl,hu,ht⟩:=hall2.inv
    have:=ht.inv_nil
    subst this
    cases hu
    obtain⟨v',w1,hrun,hA⟩:=go vx (xs.map (D.list rsz)) ((Jq xs.length).map hs) rfl (by rw[hez];simpa using hown) (by simpa using hb) (by simpa using hm)
    rw[hez]at hA
    obtain⟨s',g1,g2,g3⟩:=hR.appRows (d:=d) (K:=K) hlk (by simpa using hA) (h v' _)
    exact⟨_,_,_,hex _ _ hrun,.inl rfl,s',M,g1,by rw[hd];exact g2,g3⟩
   ·exact h.elim
  ·exact h.elim
 ·rename_i k j hdr
  split at h
  ·rename_i h' e' re rsz hs xs hlk
   split at h
   ·rename_i ekn
    have hne:kk≠k:=Nat.ne_of_beq_eq_false ekn
    obtain⟨⟨rfl,rfl,rfl⟩,x,hxj,⟨hb,hm⟩,zs,hzs',h⟩:=h
    obtain⟨vals,hown,hallx,h1,hszx,hfree⟩:=(hR.ob.ok k _ hlk).2.2.2.1 j x hxj (by simp)
    have hvx:vx=hs j:=by generalize hs j=q at hx;cases hx;rfl
    obtain⟨v',w1,hrun,hA⟩:=go (hs j) x vals hvx hown hb hm
    obtain⟨s',g1,g2,g3⟩:=hR.appRow (d:=d) (K:=K) hne hlk hxj hallx h1 hall2 h2 hsz2 hA hzs' (h v')
    exact⟨_,_,_,hex _ _ hrun,.inl rfl,s',M,g1,by rw[hd];exact g2,g3⟩
   ·exact h.elim
  ·exact h.elim
 ·-- a slice that is as long as its array's room
  rename_i sz xs
  obtain⟨rfl,⟨hb,hm⟩,zs,hzs',h⟩:=h
  subst hzs'
  cases hx with | cl _ _ ad nn hx=>?_
  have keep:∀(hys:ys=[]) (hnews:news=[]) (hrun:(Builtin.append_ #[t,t] o.type #[Value.slice ad nn nn,vy]).run P w=.ok (.slice ad nn nn) w),EOk P o a M w s K:=by
   intro hys hnews hrun
   obtain⟨s',g1,g2,g3⟩:=hR.set h (by rw[hys,List.append_nil];exact .d _ _ hx)
   exact⟨_,_,_,hex _ _ hrun,.inl rfl,s',M,g1,by rw[hd];exact g2,(Stp.refl s.ob M w).ob_eq g3⟩
  -- the elements that lie there
  have hsrc0:∃vals:List Value,All2 (Gam M) (xs.flatMap cellsOf) vals∧(∀v∈vals,v.oneCell'=true)∧(∀x∈xs,(cellsOf x).length=i.esz)∧nn=xs.length ∧
    ((ad=none∧xs=[])∨∃ad',ad=some ad'∧∀j u,vals[j]? = some u→w.cell? (ad'.add j)=some u):=by
   generalize hvv:Value.slice ad nn nn=vv at hx
   cases hx with
   | nils=>cases hvv;exact⟨[],.nil,by simp,by simp,rfl,.inl ⟨rfl,rfl⟩⟩
   | listz _ ad2 cap=>cases hvv;exact⟨[],.nil,by simp,by simp,rfl,.inr ⟨ad2,rfl,fun j u hu=>by simp at hu⟩⟩
   | list _ _ b off cap vf hc hs hm hg h1 =>
    cases hvv
    refine⟨(Jq (xs.flatMap cellsOf).length).map vf,⟨by simp,fun j x y hx hy=>?_⟩,fun u hu=>?_,hs,rfl,.inr ⟨⟨b,off,none⟩,rfl,fun j u hu=>?_⟩⟩
    ·have hlt:j<(xs.flatMap cellsOf).length:=(List.getElem?_eq_some_iff.1 hx).1
     rw[Jr,yM hlt]at hy
     simp at hy;subst hy;exact hg j x hx
    ·obtain⟨j,hj⟩:=List.mem_iff_getElem?.1 hu
     have hlt:j<(xs.flatMap cellsOf).length:=by have:=(List.getElem?_eq_some_iff.1 hj).1;simpa using this
     rw[Jr,yM hlt]at hj
     simp at hj;subst hj
     exact h1 j (xs.flatMap cellsOf)[j] (by rw[IX hlt])
    ·have hlt:j<(xs.flatMap cellsOf).length:=by have:=(List.getElem?_eq_some_iff.1 hu).1;simpa using this
     rw[Jr,yM hlt]at hu
     simp at hu;subst hu
     rw[addr_add];exact hR.rs.c _ _ _ (hm j (xs.flatMap cellsOf)[j] (by rw[IX hlt]))
  obtain⟨vals,hallx,h1x,hszx,rfl,hwhere⟩:=hsrc0
  have hvl:vals.length=xs.length*i.esz:=by rw[← hallx.1,dH hszx]
  -- a new block that stays
  have fresh:∀(w0:World) (cells:Array Value) (rest:List Value) (cap:Nat),cells.toList=vals++news++rest→w0.heap=w.heap→w0.os=w.os→w0.tape=w.tape→w0.output=w.output→xs.length+ys.length≤cap →
    (Builtin.append_ #[t,t] o.type #[Value.slice ad xs.length xs.length,vy]).run P w=.ok (.slice (some ⟨w.heap.size,0,none⟩) (xs.length+ys.length) cap) (w0.alloc (.cells cells e))→EOk P o a M w s K:=by
   intro w0 cells rest cap hcl hh ho1 ho2 ho3 hcap hrun
   have hcl:cells=⟨vals++news++rest⟩:=by rw[← Array.toList_inj,hcl]
   subst hcl
   have hR0:Rel M s a w0:=(hR.upd0 (M':=M) (w':=w0) ⟨ho1,ho2,ho3,by rw[hh];exact H9 _,fun b _ _=>by rw[hh],M.le_refl,fun _ _ _ _=>rfl,fun _ _ _=>rfl⟩
    ⟨fun b o v e=>by have:=hR.rs.c b o v e;simp only[World.cell?,hh]at this ⊢;exact this,fun b x e=>by rw[hh];exact hR.rs.m b x e,hR.rs.t⟩).1
   have p0:Stp s.ob M w s.ob M w0:=(hR.upd0 (M':=M) (w':=w0) ⟨ho1,ho2,ho3,by rw[hh];exact H9 _,fun b _ _=>by rw[hh],M.le_refl,fun _ _ _ _=>rfl,fun _ _ _=>rfl⟩
    ⟨fun b o v e=>by have:=hR.rs.c b o v e;simp only[World.cell?,hh]at this ⊢;exact this,fun b x e=>by rw[hh];exact hR.rs.m b x e,hR.rs.t⟩).2
   obtain⟨M1,r1,p1,l1,c1⟩:=hR0.imm (vals++news++rest) e
   have hall:All2 (Gam M) ((xs++ys).flatMap cellsOf) (vals++news):=by rw[BZ];exact hallx.append hall2
   have hget:∀j u,(vals++news)[j]? = some u→M1.c w0.heap.size j=some u:=fun j u hu=>c1 j u (by
    rw[za (by exact(List.getElem?_eq_some_iff.1 hu).1)];exact hu)
   have hone:∀u∈vals++news,u.oneCell'=true:=fun u hu=>(List.mem_append.1 hu).elim (h1x u) (h2 u)
   have hg:GamA M1 (.d (.list i.esz (xs++ys))) (.slice (some ⟨w.heap.size,0,none⟩) (xs.length+ys.length) cap):=by
    rw[← hh]
    have hl:=Gam.list (M:=M1) i.esz (xs++ys) w0.heap.size 0 cap (fun j=>((vals++news)[j]?).getD undef) (by simpa using hcap) (fun x hx=>(List.mem_append.1 hx).elim (hszx x) (hsz2 x))
     (fun j d hd=>by obtain⟨u,hu,_⟩:=hall.get hd;rw[Jp,hu];exact hget j u hu)
     (fun j d hd=>by obtain⟨u,hu,hgu⟩:=hall.get hd;rw[hu];exact hgu.mono l1)
     (fun j d hd=>by obtain⟨u,hu,_⟩:=hall.get hd;rw[hu];exact hone u (List.mem_of_getElem? hu))
    rw[Js]at hl
    exact .d _ _ hl
   obtain⟨s',g1,g2,g3⟩:=r1.set h hg
   exact⟨_,_,_,hex _ _ hrun,.inl rfl,s',M1,g1,by rw[hd];exact g2,(p0.trans p1).ob_eq g3⟩
  rcases hsrc with⟨rfl,rfl⟩ | ⟨sad,cc,rfl,hcell⟩
  ·have hn0:news=[]:=JB (by simpa using hnl)
   refine keep rfl hn0 ?_
   rcases hwhere with⟨rfl,rfl⟩ | ⟨ad',rfl,_⟩
   ·exact run_append_owned_none w 0 t o.type e inf i.esz hdd hinf (.slice none 0 0) 0 [] (World.ownsRow_nil w 0 e i.esz)
   ·simp[Builtin.append_,run_underlying hdd,sizeOf,typeInfo,hinf,Builtin.lenOf,Builtin.firstCells,loadCells,storeCells]
  ·by_cases hy0:ys.length=0
   ·have hys:=JB hy0
    subst hys
    have hn0:news=[]:=JB (by simpa using hnl)
    refine keep rfl hn0 ?_
    rcases hwhere with⟨rfl,rfl⟩ | ⟨ad',rfl,_⟩ <;>
     simp[Builtin.append_,run_underlying hdd,sizeOf,typeInfo,hinf,Builtin.lenOf,Builtin.firstCells,loadCells,loadCellsFrom,storeCells]
   ·have hnews:=hcell
    have hzs':z.cells.size=inf.size:=by rw[hsz];exact hzs
    rcases hwhere with⟨rfl,rfl⟩ | ⟨ad',rfl,hold⟩
    ·have hv0:vals=[]:=JB (by simpa using hvl)
     subst hv0
     have hr:=run_append_nil (P:=P) w t o.type e inf z hdd hinf hz sad ys.length cc news (by rw[hnl,hesz,hsz]) hnews (by omega) (by simp at hm;omega) (by rw[hby];simp at hb;omega)
     refine fresh w.drew _ (Builtin.zeroCells z.cells (grownCap w ys.length 0 e-ys.length)).toList (grownCap w ys.length 0 e) ?_ rfl rfl rfl rfl ?_ (by simpa using hr)
     ·simp
     ·simpa using grownCap_ge w ys.length 0 e
    ·have holds:=hold
     have hr:=run_append_grow (P:=P) w t o.type e inf z hdd hinf hz ad' xs.length xs.length vals (by rw[hvl,hesz,hsz]) holds sad ys.length cc news (by rw[hnl,hesz,hsz]) hnews (by omega) (by omega) (growslice_fits (by omega) (by rw[hby];exact hb))
     refine fresh w.drew _ (Builtin.zeroCells z.cells (grownCap w (xs.length+ys.length) xs.length e-(xs.length+ys.length))).toList (grownCap w (xs.length+ys.length) xs.length e) ?_ rfl rfl rfl rfl ?_ (by simpa using hr)
     ·simp
     ·exact grownCap_ge w _ _ e
 ·exact h.elim
end
end Go.Abs
