/-
 Soundness, fourth part: how memory changes: states behind a new block, a store, an append.
-/
import Derived.Test.YtdodahpkpeodfaaGreatDoorAbsF
set_option linter.all false
open List renaming eq_nil_of_length_eq_zero→JB,mem_of_getElem?→Jm,range→Jq
open Nat renaming le_refl→H9,zero_add→Jp
namespace Go.Abs
open Go
section
variable {P:Program}{tt:TT}{M M':GM}{s s':St}{a:Act}{w w':World}
theorem alloc_old(w:World)(o:Obj)(b:Nat)(h:b<w.heap.size):(w.alloc o).heap[b]? = w.heap[b]?:=by
 show(w.heap.push o)[b]? = _
 rw[Array.getElem?_push,if_neg (by omega)]
theorem aK{o:Obj}{b:Nat}(h:w.heap[b]? = some o):b<w.heap.size:=(Array.getElem?_eq_some_iff.1 h).1
theorem qy{h:Value}{e sz:Nat}{fz:Bool}{xs:List D}(hok:jh M w h e sz fz xs){b:Nat}(hb:h.ownBlock=some b):b<w.heap.size:=by
 obtain⟨_,h,_⟩:=hok;exact(h.lt b hb).2
theorem K3{o:Ob}(h:gW M w o){b:Nat}(hb:bu o b):b<w.heap.size:=by
 cases o with
 | cells b' cs=>simp[bu]at hb;subst hb;obtain⟨_,_,h,_⟩:=h;exact aK h
 | arr h' e sz fz xs=>exact qy h hb
 | map b' es=>simp[bu]at hb;subst hb;obtain⟨_,_,h,_⟩:=h;exact aK h
 | mit b' _ _ _ _ _=>simp[bu]at hb;subst hb;obtain⟨_,_,h,_⟩:=h;exact aK h
 | loop b' r j=>simp[bu]at hb;subst hb;exact aK h.1
 | bld b' t e h' bs =>
  obtain⟨p,_,h,h0,_⟩:=h
  rcases hb with rfl | hb
  ·exact aK h
  ·exact(h0.lt b hb).2
 | raw b' o=>simp[bu]at hb;subst hb;exact aK h.1
 | rows h' e re rsz hs hole xs =>
  obtain⟨h0,_,_,h3,_⟩:=h
  rcases hb with hb | ⟨j,hj,hh,hb⟩
  ·exact(h0.lt b hb).2
  ·exact qy (h3 j xs[j] (by simp[hj]) hh) hb
theorem gy{hd:Value}{e sz:Nat}{fz:Bool}{xs:List D}(h:jh M w hd e sz fz xs)(hM:M.le M')(hb:∀b,hd.ownBlock=some b→w'.heap[b]? = w.heap[b]?∧(∀q,M'.c b q=M.c b q)∧M'.m b=M.m b):jh M' w' hd e sz fz xs:=by
  obtain⟨vals,h0,h1,h2,h3,h4⟩:=h
  refine⟨vals,⟨h0.1,?_⟩,h1.mono fun _ _ x=>x.mono hM,h2,h3,fun b e'=>?_⟩
  ·rcases h0.2 with hn | ⟨g,cap,cur,rfl,hg,hh,r⟩
   ·exact .inl hn
   ·exact .inr ⟨g,cap,cur,rfl,hg,by rw[(hb g rfl).1];exact hh,r⟩
  ·obtain⟨_,k1,k2⟩:=hb b e'
   exact⟨by rw[k2];exact(h4 b e').1,fun q hq=>by rw[k1];exact(h4 b e').2 q hq⟩
theorem iq{o:Ob}(h:gW M w o)(hM:M.le M')(hb:∀b,bu o b→w'.heap[b]? = w.heap[b]?∧(∀q,M'.c b q=M.c b q)∧M'.m b=M.m b):gW M' w' o:=by
 cases o with
 | cells b cs =>
  obtain⟨vals,elem,h0,h1,h2,h3⟩:=h
  obtain⟨k0,k1,k2⟩:=hb b rfl
  exact⟨vals,elem,by rw[k0];exact h0,h1.mono fun _ _ x=>x.mono hM,h2,⟨fun q=>by rw[k1];exact h3.c q,by rw[k2];exact h3.m⟩⟩
 | arr hd e sz fz xs=>exact gy h hM hb
 | rows hd e re rsz hs hole xs =>
  obtain⟨h0,h1,h2,h3,h4,h5⟩:=h
  refine⟨⟨h0.1,?_⟩,fun b e'=>?_,h2,fun j x hx hh=>gy (h3 j x hx hh) hM fun b e'=>hb b (.inr ⟨j,(List.getElem?_eq_some_iff.1 hx).1,hh,e'⟩),h4,h5⟩
  ·rcases h0.2 with hn | ⟨g,cap,cur,rfl,hg,hh,r⟩
   ·exact .inl hn
   ·exact .inr ⟨g,cap,cur,rfl,hg,by rw[(hb g (.inl rfl)).1];exact hh,r⟩
  ·obtain⟨_,k1,k2⟩:=hb b (.inl e')
   exact⟨fun q=>by rw[k1];exact(h1 b e').c q,by rw[k2];exact(h1 b e').m⟩
 | map b es =>
  obtain⟨arr,clock,h0,h1,h2,h3,h4⟩:=h
  obtain⟨k0,k1,k2⟩:=hb b rfl
  exact⟨arr,clock,by rw[k0];exact h0,h1,fun i e v x y=>let⟨p,q,r⟩:=h2 i e v x y;⟨p.mono hM,q.mono hM,r⟩,h3,⟨fun q=>by rw[k1];exact h4.c q,by rw[k2];exact h4.m⟩⟩
 | mit b km mb es rem last =>
  obtain⟨seen,I,h0,h1,h2,h3,h5,h4⟩:=h
  obtain⟨k0,k1,k2⟩:=hb b rfl
  exact⟨seen,I,by rw[k0];exact h0,h1,h2,h3,h5,⟨fun q=>by rw[k1];exact h4.c q,by rw[k2];exact h4.m⟩⟩
 | loop b r j =>
  obtain⟨h0,h4⟩:=h
  obtain⟨k0,k1,k2⟩:=hb b rfl
  exact⟨by rw[k0];exact h0,⟨fun q=>by rw[k1];exact h4.c q,by rw[k2];exact h4.m⟩⟩
 | bld b t e hd bs =>
  obtain⟨p,h0,h1,h2,h3,h4,h5⟩:=h
  obtain⟨k0,k1,k2⟩:=hb b (.inl rfl)
  refine⟨p,h0,by rw[k0];exact h1,⟨h2.1,?_⟩,h3,⟨fun q=>by rw[k1];exact h4.c q,by rw[k2];exact h4.m⟩,fun g e'=>?_⟩
  ·rcases h2.2 with hn | ⟨g,cap,cur,rfl,hg,hh,r⟩
   ·exact .inl hn
   ·exact .inr ⟨g,cap,cur,rfl,hg,by rw[(hb g (.inr rfl)).1];exact hh,r⟩
  ·obtain⟨_,q1,q2⟩:=hb g (.inr e')
   exact⟨fun q=>by rw[q1];exact(h5 g e').c q,by rw[q2];exact(h5 g e').m⟩
 | raw b o =>
  obtain⟨h0,h4⟩:=h
  obtain⟨k0,k1,k2⟩:=hb b rfl
  exact⟨by rw[k0];exact h0,⟨fun q=>by rw[k1];exact h4.c q,by rw[k2];exact h4.m⟩⟩
theorem Rel.upd0(hR:Rel M s a w)(hfr:Frm (fun _=>False) M w M' w')(hrs:Resp M' w'):Rel M' s a w'∧Stp s.ob M w s.ob M' w':=by
 refine⟨⟨hR.df,hR.sz,fun t=>(hR.tm t).mono hfr.mle,⟨fun k o hk=>?_,hR.ob.dj⟩,hrs⟩,⟨hfr.os,hfr.tape,hfr.output,hfr.size,fun b hb _=>hfr.keep b hb id,hfr.mle,fun b hb _=>hfr.mc b hb id,fun b hb _=>hfr.mm b hb id⟩,fun b h=>.inl h⟩
 have hok:=hR.ob.ok k o hk
 refine iq hok hfr.mle fun b hb=>?_
 have hlt:=K3 hok hb
 exact⟨hfr.keep b hlt id,hfr.mc b hlt id,hfr.mm b hlt id⟩
theorem Rel.upd(hR:Rel M s a w){S:Nat→Prop}(k:Nat)(o:Ob)(hn:s'.n=s.n)(hg:∀q,s'.get q=s.get q)(ho:look s'.ob k=some o)(hj:∀j,j≠k→look s'.ob j=look s.ob j)
  (hfr:Frm S M w M' w') (hrs:Resp M' w') (hS:∀b,b<w.heap.size→S b→∃o0,look s.ob k=some o0∧bu o0 b)
  (hok:gW M' w' o) (hb:∀b,bu o b→w.heap.size≤b∨∃o0,look s.ob k=some o0∧bu o0 b) :
  Rel M' s' a w'∧Stp s.ob M w s'.ob M' w':=by
 have hother:∀j o' b,j≠k→look s.ob j=some o'→bu o' b→¬S b:=by
  intro j o' b hjk h1 h2 hSb
  obtain⟨o0,h3,h4⟩:=hS b (K3 (hR.ob.ok j o' h1) h2) hSb
  exact hjk (hR.ob.dj j k o' o0 b h1 h3 h2 h4)
 refine⟨⟨hR.df,by rw[hn];exact hR.sz,fun t=>by rw[hg];exact(hR.tm t).mono hfr.mle,⟨fun j oj h1=>?_,?_⟩,hrs⟩,⟨hfr.os,hfr.tape,hfr.output,hfr.size,?_,hfr.mle,?_,?_⟩,?_⟩
 ·by_cases e:j=k
  ·subst e;rw[ho]at h1;cases h1;exact hok
  ·rw[hj j e]at h1
   have hokj:=hR.ob.ok j oj h1
   refine iq hokj hfr.mle fun b hb'=>?_
   have hlt:=K3 hokj hb'
   have hns:=hother j oj b e h1 hb'
   exact⟨hfr.keep b hlt hns,hfr.mc b hlt hns,hfr.mm b hlt hns⟩
 ·intro i j oi oj b h1 h2 h3 h4
  by_cases ei:i=k
  ·by_cases ej:j=k
   ·rw[ei,ej]
   ·rw[ei,ho]at h1;cases h1
    rw[hj j ej]at h2
    rcases hb b h3 with hlt | ⟨o0,h5,h6⟩
    ·exact absurd (K3 (hR.ob.ok j oj h2) h4) (by omega)
    ·rw[ei];exact hR.ob.dj k j o0 oj b h5 h2 h6 h4
  ·rw[hj i ei]at h1
   by_cases ej:j=k
   ·rw[ej,ho]at h2;cases h2
    rcases hb b h4 with hlt | ⟨o0,h5,h6⟩
    ·exact absurd (K3 (hR.ob.ok i oi h1) h3) (by omega)
    ·rw[ej];exact hR.ob.dj i k oi o0 b h1 h5 h3 h6
   ·rw[hj j ej]at h2
    exact hR.ob.dj i j oi oj b h1 h2 h3 h4
 ·intro b hb' hno
  exact hfr.keep b hb' fun hSb=>hno (let⟨o0,h1,h2⟩:=hS b hb' hSb;⟨k,o0,h1,h2⟩)
 ·intro b hb' hno
  exact hfr.mc b hb' fun hSb=>hno (let⟨o0,h1,h2⟩:=hS b hb' hSb;⟨k,o0,h1,h2⟩)
 ·intro b hb' hno
  exact hfr.mm b hb' fun hSb=>hno (let⟨o0,h1,h2⟩:=hS b hb' hSb;⟨k,o0,h1,h2⟩)
 ·rintro b ⟨j,oj,h1,h2⟩
  by_cases e:j=k
  ·subst e;rw[ho]at h1;cases h1
   rcases hb b h2 with hlt | ⟨o0,h5,h6⟩
   ·exact .inr hlt
   ·exact .inl ⟨_,o0,h5,h6⟩
  ·rw[hj j e]at h1;exact .inl ⟨j,oj,h1,h2⟩
theorem Rel.upd2(hR:Rel M s a w){S:Nat→Prop}(k k2:Nat)(o o2:Ob)(hkk:k2≠k)(hn:s'.n=s.n)(hg:∀q,s'.get q=s.get q)(ho:look s'.ob k=some o)(ho2:look s'.ob k2=some o2)
  (hj:∀j,j≠k→j≠k2→look s'.ob j=look s.ob j) (hfr:Frm S M w M' w') (hrs:Resp M' w')
  (hS:∀b,b<w.heap.size→S b→∃k0 o0,(k0=k∨k0=k2)∧look s.ob k0=some o0∧bu o0 b) (hok:gW M' w' o) (hok2:gW M' w' o2)
  (hb:∀b,bu o b∨bu o2 b→w.heap.size≤b∨∃k0 o0,(k0=k∨k0=k2)∧look s.ob k0=some o0∧bu o0 b) (hdj:∀b,bu o b→bu o2 b→False) :
  Rel M' s' a w'∧Stp s.ob M w s'.ob M' w':=by
 have hother:∀j o' b,j≠k→j≠k2→look s.ob j=some o'→bu o' b→¬S b:=by
  intro j o' b hjk hjk2 h1 h2 hSb
  obtain⟨k0,o0,hk0,h3,h4⟩:=hS b (K3 (hR.ob.ok j o' h1) h2) hSb
  have:=hR.ob.dj j k0 o' o0 b h1 h3 h2 h4
  rcases hk0 with rfl | rfl
  ·exact hjk this
  ·exact hjk2 this
 -- an object of the new state: one of the two, or an old one
 have cs:∀j oj,look s'.ob j=some oj→(j=k∧oj=o)∨(j=k2∧oj=o2)∨(j≠k∧j≠k2∧look s.ob j=some oj):=by
  intro j oj h
  by_cases e:j=k
  ·subst e;rw[ho]at h;cases h;exact .inl ⟨rfl,rfl⟩
  ·by_cases e2:j=k2
   ·subst e2;rw[ho2]at h;cases h;exact .inr (.inl ⟨rfl,rfl⟩)
   ·rw[hj j e e2]at h;exact .inr (.inr ⟨e,e2,h⟩)
 have far:∀j oj b,j≠k→j≠k2→look s.ob j=some oj→bu oj b→bu o b∨bu o2 b→False:=by
  intro j oj b e1 e2 h1 h2 h3
  rcases hb b h3 with hlt | ⟨k0,o0,hk0,h5,h6⟩
  ·exact absurd (K3 (hR.ob.ok j oj h1) h2) (by omega)
  ·have:=hR.ob.dj j k0 oj o0 b h1 h5 h2 h6
   rcases hk0 with rfl | rfl
   ·exact e1 this
   ·exact e2 this
 have hsub:∀b,b<w.heap.size→S b→du s.ob b:=fun b hb' hSb=>by
  obtain⟨k0,o0,_,h1,h2⟩:=hS b hb' hSb
  exact⟨k0,o0,h1,h2⟩
 refine⟨⟨hR.df,by rw[hn];exact hR.sz,fun t=>by rw[hg];exact(hR.tm t).mono hfr.mle,⟨fun j oj h1=>?_,?_⟩,hrs⟩,⟨hfr.os,hfr.tape,hfr.output,hfr.size,?_,hfr.mle,?_,?_⟩,?_⟩
 ·rcases cs j oj h1 with⟨_,rfl⟩ | ⟨_,rfl⟩ | ⟨e1,e2,h1⟩
  ·exact hok
  ·exact hok2
  ·have hokj:=hR.ob.ok j oj h1
   refine iq hokj hfr.mle fun b hb'=>?_
   have hlt:=K3 hokj hb'
   have hns:=hother j oj b e1 e2 h1 hb'
   exact⟨hfr.keep b hlt hns,hfr.mc b hlt hns,hfr.mm b hlt hns⟩
 ·intro i j oi oj b h1 h2 h3 h4
  rcases cs i oi h1 with⟨ei,rfl⟩ | ⟨ei,rfl⟩ | ⟨e1,e2,h1⟩<;>rcases cs j oj h2 with⟨ej,rfl⟩ | ⟨ej,rfl⟩ | ⟨e3,e4,h2⟩
  ·rw[ei,ej]
  ·exact(hdj b h3 h4).elim
  ·exact(far j oj b e3 e4 h2 h4 (.inl h3)).elim
  ·exact(hdj b h4 h3).elim
  ·rw[ei,ej]
  ·exact(far j oj b e3 e4 h2 h4 (.inr h3)).elim
  ·exact(far i oi b e1 e2 h1 h3 (.inl h4)).elim
  ·exact(far i oi b e1 e2 h1 h3 (.inr h4)).elim
  ·exact hR.ob.dj i j oi oj b h1 h2 h3 h4
 ·intro b hb' hno
  exact hfr.keep b hb' fun hSb=>hno (hsub b hb' hSb)
 ·intro b hb' hno
  exact hfr.mc b hb' fun hSb=>hno (hsub b hb' hSb)
 ·intro b hb' hno
  exact hfr.mm b hb' fun hSb=>hno (hsub b hb' hSb)
 ·rintro b ⟨j,oj,h1,h2⟩
  have fin:bu o b∨bu o2 b→du s.ob b∨w.heap.size≤b:=fun h=>by
   rcases hb b h with hlt | ⟨k0,o0,_,h5,h6⟩
   ·exact .inr hlt
   ·exact .inl ⟨_,o0,h5,h6⟩
  rcases cs j oj h1 with⟨_,rfl⟩ | ⟨_,rfl⟩ | ⟨e1,e2,h1⟩
  ·exact fin (.inl h2)
  ·exact fin (.inr h2)
  ·exact .inl ⟨j,oj,h1,h2⟩
theorem Resp.free(hr:Resp M w){b:Nat}(hb:w.heap.size≤b):Free M b:=by
 refine⟨fun o=>?_,?_⟩
 ·cases h:M.c b o with
  | none=>rfl
  | some v=>have:=World.block_lt_of_cell? w _ (hr.c _ _ _ h);simp at this;omega
 ·cases h:M.m b with
  | none=>rfl
  | some v=>have:=aK (hr.m _ _ h);omega
theorem Resp.alloc(hr:Resp M w)(o:Obj):Resp M (w.alloc o):=by
 refine⟨fun b off v h=>?_,fun b x h=>?_,hr.t⟩
 ·have:=hr.c _ _ _ h
  rw[World.cell?_alloc_lt _ _ _ (World.block_lt_of_cell? w _ this)];exact this
 ·have:=hr.m _ _ h
  rw[alloc_old w o b (aK this)];exact this
theorem Frm.alloc(S:Nat→Prop)(M:GM)(w:World)(o:Obj):Frm S M w M (w.alloc o) :=
 ⟨rfl,rfl,rfl,by simp,fun b hb _=>alloc_old w o b hb,M.le_refl,fun _ _ _ _=>rfl,fun _ _ _=>rfl⟩
theorem Rel.new(hR:Rel M s a w)(g:Obj)(k:Nat)(o:Ob){K:St→Prop}(h:s.setO k o K)(hok:gW M (w.alloc g) o)(hb:∀b,bu o b→b=w.heap.size) :
  ∃s',K s'∧Rel M s' a (w.alloc g)∧Stp s.ob M w s'.ob M (w.alloc g)∧s'.n=s.n∧(∀q,s'.get q=s.get q):=by
 obtain⟨s',hk,hn,hg,ho,hj⟩:=St.setO_ok h
 obtain⟨h1,h2⟩:=hR.upd (S:=fun _=>False) k o hn hg ho hj (Frm.alloc _ M w g) (hR.rs.alloc g) (fun _ _ h=>h.elim) hok (fun b e=>.inl (by rw[hb b e];exact H9 _))
 exact⟨s',hk,h1,h2,hn,hg⟩
def GM.row(M:GM)(b:Nat)(vals:List Value):GM:=⟨fun b' o=>if b'=b then(match vals[o]? with | some v=>some v | none=>M.c b o)else M.c b' o,M.m⟩
theorem GM.row_at(M:GM)(b:Nat){vals:List Value}{o:Nat}{v:Value}(h:vals[o]? = some v):(M.row b vals).c b o=some v:=by simp[GM.row,h]
theorem GM.row_other(M:GM)(b:Nat)(vals:List Value){b':Nat}(h:b'≠b)(o:Nat):(M.row b vals).c b' o=M.c b' o:=by simp[GM.row,h]
theorem GM.le_row{b:Nat}{vals:List Value}(h:∀o v,M.c b o=some v→∀u,vals[o]? = some u→u=v):M.le (M.row b vals):=by
 refine⟨fun b' o v hv=>?_,fun _ _ h=>h⟩
 by_cases e:b'=b
 ·subst e
  simp only[GM.row,if_true]
  split
  ·rename_i u hu;rw[h o v hv u hu]
  ·exact hv
 ·rw[GM.row_other M b vals e];exact hv
theorem Resp.row(hr:Resp M w){b:Nat}{vals:List Value}(h:∀o v,vals[o]? = some v→w.cell? ⟨b,o,none⟩=some v)(hle:M.le (M.row b vals)):Resp (M.row b vals) w:=by
 refine⟨fun b' o v hv=>?_,hr.m,hr.t.mono hle⟩
 by_cases e:b'=b
 ·subst e
  simp only[GM.row,if_true]at hv
  split at hv
  ·rename_i u hu;cases hv;exact h o _ hu
  ·exact hr.c _ _ _ hv
 ·rw[GM.row_other M b vals e]at hv;exact hr.c _ _ _ hv
theorem Rel.imm(hR:Rel M s a w)(vals:List Value)(e:TypeId) :
  ∃M',Rel M' s a (w.alloc (.cells ⟨vals⟩ e))∧Stp s.ob M w s.ob M' (w.alloc (.cells ⟨vals⟩ e))∧M.le M'∧∀o v,vals[o]? = some v→M'.c w.heap.size o=some v:=by
 have hfree:=hR.rs.free (H9 w.heap.size)
 have hle:M.le (M.row w.heap.size vals):=GM.le_row fun o v hv=>by rw[hfree.c]at hv;cases hv
 have hcell:∀o v,vals[o]? = some v→(w.alloc (.cells ⟨vals⟩ e)).cell? ⟨w.heap.size,o,none⟩=some v:=by
  intro o v hv
  rw[World.cell?_alloc_new];simpa using hv
 obtain⟨h1,h2⟩:=hR.upd0 (M':=M.row w.heap.size vals) (w':=w.alloc (.cells ⟨vals⟩ e))
  ⟨rfl,rfl,rfl,by simp,fun b hb _=>alloc_old w _ b hb,hle,fun b hb _ o=>GM.row_other M _ vals (by omega) o,fun _ _ _=>rfl⟩ ((hR.rs.alloc _).row hcell hle)
 exact⟨_,h1,h2,hle,fun o v hv=>GM.row_at M _ hv⟩
theorem GamA.sl_inv{k:Nat}{h v:Value}(hv:GamA M (.sl k h) v):v=h∧∃a n c,h=.slice a n c:=by
 cases hv;exact⟨rfl,_,_,_,rfl⟩
theorem kM{M1:GM}{hd:Value}{e sz:Nat}{fz:Bool}{xs:List D}(h:jh M w hd e sz fz xs)(hr:Resp M1 w)(hM:M.le M1) :
  ∃M2,M1.le M2∧Resp M2 w∧Gam M2 (.list sz xs) hd∧(∀b,hd.ownBlock≠some b→∀o,M2.c b o=M1.c b o)∧M2.m=M1.m ∧
   ((∀b,hd.ownBlock=some b→M1.m b=none∧∀o,xs.length*sz≤o→M1.c b o=none)→jh M2 w hd e sz true xs):=by
 obtain⟨vals,hown,hall,h1,hsz,hfree⟩:=h
 rcases hown.2 with⟨e1,e2⟩ | ⟨g,cap,cur,e1,_,hgg,hnc,hcm,hcs,htake⟩
 ·have hx:xs=[]:=JB e2
  subst hx
  exact⟨M1,M1.le_refl,hr,by rw[e1];exact .nils _,fun _ _ _=>rfl,rfl,fun hf=>⟨vals,hown,hall.mono fun _ _ x=>x.mono hM,h1,hsz,fun b hb=>by rw[e1]at hb;simp[Value.ownBlock]at hb⟩⟩
 ·rw[e1]at hfree hown ⊢
  have hcell:=hown.cells (g:=g) rfl
  have hc2:∀o v,vals[o]? = some v→w.cell? ⟨g,o,none⟩=some v:=by
   intro o v hv'
   have:=hcell o v hv'
   rwa[addr_add,Jp]at this
  have hle:M1.le (M1.row g vals):=GM.le_row fun o v hv' u hu=>by
   have:=hr.c _ _ _ hv'
   rw[hc2 o u hu]at this;cases this;rfl
  refine⟨M1.row g vals,hle,hr.row hc2 hle,?_,fun b hb o=>GM.row_other M1 _ vals (fun e=>hb (by rw[e];rfl)) o,rfl,fun hf=>⟨vals,hown,hall.mono fun _ _ x=>(x.mono hM).mono hle,h1,hsz,fun b hb=>⟨(hf b hb).1,fun o ho'=>?_⟩⟩⟩
  case refine_2 =>
   have hb':b=g:=by simp[Value.ownBlock]at hb;exact hb.symm
   subst hb'
   have hlen:vals.length=xs.length*sz:=hown.1
   rcases ho' with ho' | ho'
   ·cases ho'
   ·simp only[GM.row,if_true]
    have:vals[o]? = none:=by simp;omega
    rw[this]
    exact(hf b hb).2 o ho'
  exact Gam.list (M:=M1.row g vals) sz xs g 0 cap (fun i=>(vals[i]?).getD undef) hnc hsz
     (fun i d hd=>by
      obtain⟨u,hu,_⟩:=hall.get hd
      rw[Jp,hu];exact GM.row_at M1 _ hu)
     (fun i d hd=>by
      obtain⟨u,hu,hgu⟩:=hall.get hd
      rw[hu];exact(hgu.mono hM).mono hle)
     (fun i d hd=>by
      obtain⟨u,hu,_⟩:=hall.get hd
      rw[hu];exact h1 u (Jm hu))
theorem md{re rsz:Nat}{hs:Nat→Value}{xs:List (List D)}(hr:Resp M w)(h:∀j x,xs[j]? = some x→jh M w (hs j) re rsz false x) :
  ∀k,k≤xs.length→∃M2,M.le M2∧Resp M2 w∧(∀j x,j<k→xs[j]? = some x→Gam M2 (.list rsz x) (hs j))∧(∀b,(∀j,j<k→(hs j).ownBlock≠some b)→∀o,M2.c b o=M.c b o)∧M2.m=M.m
 | 0,_=>⟨M,M.le_refl,hr,fun _ _ h=>absurd h (by omega),fun _ _ _=>rfl,rfl⟩
 | k+1,hk=>by
  obtain⟨M1,l1,r1,g1,c1,m1⟩:=md hr h k (by omega)
  obtain⟨M2,l2,r2,g2,c2,m2,_⟩:=kM (h k xs[k] (by simp)) r1 l1
  refine⟨M2,GM.le_trans l1 l2,r2,fun j x hj hx=>?_,fun b hb o=>?_,m2.trans m1⟩
  ·by_cases e:j=k
   ·subst e
    rw[List.getElem?_eq_getElem (by omega)]at hx
    cases hx;exact g2
   ·exact(g1 j x (by omega) hx).mono l2
  ·rw[c2 b (hb k (by omega)),c1 b (fun j hj=>hb j (by omega))]
theorem rG(sz:Nat)(xs:List (List D)):(xs.map (D.list sz)).flatMap cellsOf=xs.map (D.list sz):=by
 induction xs with
 | nil=>rfl
 | cons x r ih=>simp only[List.map_cons,List.flatMap_cons,ih];rfl
theorem ju(hR:Rel M s a w){v:AV}{val:Value}(hv:GamA M v val){K:St→AV→Prop}(h:NR s v K) :
  ∃s' v' M',K s' v'∧Rel M' s' a w∧Stp s.ob M w s'.ob M' w∧M.le M'∧GamA M' v' val∧(∀q,s'.get q=s.get q)∧s'.n=s.n:=by
 unfold NR at h
 split at h
 ·rename_i k hd
  split at h
  ·rename_i h' e sz fz xs hk
   obtain⟨rfl,h⟩:=h
   obtain⟨s',hks,hn,hg,ho,hj⟩:=St.setO_ok h
   obtain⟨rfl,aa,nn,cc,rfl⟩:=hv.sl_inv
   have hok:=hR.ob.ok k _ hk
   obtain⟨vals,hown,hall,h1,hsz,hfree⟩:=hok
   rcases hown.2 with⟨e1,e2⟩ | ⟨g,cap,cur,e1,_,hgg,hnc,hcm,hcs,htake⟩
   ·-- nil
    rw[e1]at ho hk ⊢
    have hx:xs=[]:=JB e2
    subst hx
    obtain⟨r1,r2⟩:=hR.upd (S:=fun _=>False) (M':=M) (w':=w) k _ hn hg ho hj (.refl _ _ _) hR.rs (fun _ _ h=>h.elim)
     (by refine⟨vals,by rw[← e1];exact hown,hall,h1,hsz,fun b hb=>by simp[Value.ownBlock]at hb⟩) (fun b hb=>by simp[bu,Value.ownBlock]at hb)
    exact⟨s',_,M,hks,r1,r2,M.le_refl,.d _ _ (.nils _),hg,hn⟩
   ·rw[e1]at ho hk hfree hown ⊢
    have hcell:=hown.cells (g:=g) rfl
    have hc2:∀o v,vals[o]? = some v→w.cell? ⟨g,o,none⟩=some v:=by
     intro o v hv'
     have:=hcell o v hv'
     rwa[addr_add,Jp]at this
    have hle:M.le (M.row g vals):=GM.le_row fun o v hv' u hu=>by
     have:=hR.rs.c _ _ _ hv'
     rw[hc2 o u hu]at this;cases this;rfl
    obtain⟨r1,r2⟩:=hR.upd (S:=fun b=>b=g) (M':=M.row g vals) (w':=w) k _ hn hg ho hj
     ⟨rfl,rfl,rfl,H9 _,fun _ _ _=>rfl,hle,fun b _ hb o=>GM.row_other M _ vals hb o,fun _ _ _=>rfl⟩ (hR.rs.row hc2 hle)
     (fun b _ hb=>⟨_,hk,by rw[hb];rfl⟩)
     (by
      refine⟨vals,hown,hall.mono fun _ _ x=>x.mono hle,h1,hsz,fun b hb=>⟨(hfree b hb).1,fun o ho'=>?_⟩⟩
      have hb':b=g:=by simp[Value.ownBlock]at hb;exact hb.symm
      subst hb'
      have hlen:vals.length=xs.length*sz:=hown.1
      rcases ho' with ho' | ho'
      ·cases ho'
      ·simp only[GM.row,if_true]
       have:vals[o]? = none:=by simp;omega
       rw[this]
       exact(hfree b hb).2 o (.inr ho'))
     (fun b hb=>.inr ⟨_,hk,hb⟩)
    refine⟨s',_,_,hks,r1,r2,hle,.d _ _ ?_,hg,hn⟩
    have hlist:=Gam.list (M:=M.row g vals) sz xs g 0 cap (fun i=>(vals[i]?).getD undef) hnc hsz
     (fun i d hd=>by
      obtain⟨u,hu,_⟩:=hall.get hd
      rw[Jp,hu];exact GM.row_at M _ hu)
     (fun i d hd=>by
      obtain⟨u,hu,hgu⟩:=hall.get hd
      rw[hu];exact hgu.mono hle)
     (fun i d hd=>by
      obtain⟨u,hu,_⟩:=hall.get hd
      rw[hu];exact h1 u (Jm hu))
    exact hlist
  ·rename_i h' e re rsz hs xs hk
   obtain⟨rfl,zs,rfl,h⟩:=h
   obtain⟨s',hks,hn,hg,ho,hj⟩:=St.setO_ok h
   obtain⟨rfl,aa,nn,cc,rfl⟩:=hv.sl_inv
   have hok:=hR.ob.ok k _ hk
   obtain⟨hown,hfree,hsl,hrow,hd1,hd2⟩:=hok
   obtain⟨M1,l1,r1,g1,c1,m1⟩:=md hR.rs (fun j x hx=>hrow j x hx (by simp)) xs.length (H9 _)
   have hlen:((Jq xs.length).map hs).length=xs.length:=by simp
   have h1:∀v∈(Jq xs.length).map hs,v.oneCell'=true:=by
    intro v hv'
    obtain⟨j,hj',rfl⟩:=List.mem_map.1 hv'
    obtain⟨_,_,_,e⟩:=hsl j (List.mem_range.1 hj')
    rw[e];rfl
   have hsz:∀x∈xs.map (D.list rsz),(cellsOf x).length=1:=by
    intro x hx
    obtain⟨y,_,rfl⟩:=List.mem_map.1 hx
    rfl
   have hall1:∀M2:GM,M1.le M2→All2 (Gam M2) ((xs.map (D.list rsz)).flatMap cellsOf) ((Jq xs.length).map hs):=by
    intro M2 hM2
    rw[rG]
    refine⟨by simp,fun j x y hx hy=>?_⟩
    simp only[List.getElem?_map,Option.map_eq_some_iff]at hx hy
    obtain⟨u,hu,rfl⟩:=hx
    obtain⟨v,hv',rfl⟩:=hy
    have hlt:j<xs.length:=(List.getElem?_eq_some_iff.1 hu).1
    rw[List.getElem?_range hlt]at hv'
    cases hv'
    exact(g1 j u hlt hu).mono hM2
   have hokA:jh M1 w (.slice aa nn cc) e 1 true (xs.map (D.list rsz)):=by
    refine⟨_,by simpa using hown,hall1 M1 M1.le_refl,h1,hsz,fun b hb=>⟨by rw[m1];exact(hfree b hb).m,fun o _=>?_⟩⟩
    rw[c1 b (fun j hj' e=>hd1 j hj' (by simp) b e hb)]
    exact(hfree b hb).c o
   have hc1:∀b,(Value.slice aa nn cc).ownBlock=some b→∀o,M1.c b o=none:=fun b hb o=>by
    rw[c1 b (fun j hj' e=>hd1 j hj' (by simp) b e hb)];exact(hfree b hb).c o
   obtain⟨M2,l2,r2,g2,c2,m2,hok2⟩:=kM hokA r1 M1.le_refl
   have hok2:=hok2 fun b hb=>⟨by rw[m1];exact(hfree b hb).m,fun o _=>hc1 b hb o⟩
   obtain⟨r3,r4⟩:=hR.upd (S:=bu (.rows (.slice aa nn cc) e re rsz hs none xs)) (M':=M2) (w':=w) k _ hn hg ho hj
     ⟨rfl,rfl,rfl,H9 _,fun _ _ _=>rfl,GM.le_trans l1 l2,fun b _ hb o=>by
      rw[c2 b (fun e=>hb (.inl e)),c1 b (fun j hj' e=>hb (.inr ⟨j,hj',by simp,e⟩))],fun b _ _=>by rw[m2,m1]⟩ r2
     (fun b _ hb=>⟨_,hk,hb⟩) hok2 (fun b hb=>.inr ⟨_,hk,.inl hb⟩)
   exact⟨s',_,M2,hks,r3,r4,GM.le_trans l1 l2,.d _ _ g2,hg,hn⟩
  ·exact h.elim
 ·exact⟨s,v,M,h,hR,.refl _ _ _,M.le_refl,hv,fun _=>rfl,rfl⟩
theorem lq:∀{vs:List AV} {vals:List Value} {M:GM} {s:St} {K:St→List AV→Prop},Rel M s a w→All2 (GamA M) vs vals→NK vs s K →
  ∃s' vs' M',K s' vs'∧Rel M' s' a w∧Stp s.ob M w s'.ob M' w∧M.le M'∧All2 (GamA M') vs' vals∧(∀q,s'.get q=s.get q)∧s'.n=s.n
 | [],vals,M,s,K,hR,hv,h=>⟨s,[],M,h,hR,.refl _ _ _,M.le_refl,hv,fun _=>rfl,rfl⟩
 | v::vs,vals,M,s,K,hR,hv,h=>by
  obtain⟨u,us,rfl,hu,ht⟩:=hv.inv
  rw[qm]at h
  obtain⟨s1,v1,M1,h1,r1,p1,l1,g1,q1,n1⟩:=ju hR hu h
  obtain⟨s2,v2,M2,h2,r2,p2,l2,g2,q2,n2⟩:=lq r1 (ht.mono fun _ _ x=>x.mono l1) h1
  exact⟨s2,_,M2,h2,r2,p1.trans p2,GM.le_trans l1 l2,.cons (g1.mono l2) g2,fun q=>by rw[q2,q1],by rw[n2,n1]⟩
theorem kN(hR:Rel M s a w){v:AV}{val:Value}(hv:GamA M v val){K:St→AV→Prop}(h:ma s v K) :
  ∃s' v' M',K s' v'∧Rel M' s' a w∧Stp s.ob M w s'.ob M' w∧M.le M'∧GamA M' v' val∧(∀q,s'.get q=s.get q)∧s'.n=s.n:=by
 unfold ma at h
 split at h
 ·rename_i l
  cases hv with | agg _ vs hl hg h1=>?_
  obtain⟨s',l',M',h,r,p,le,g,q,n⟩:=lq hR ⟨hl,hg⟩ h
  split at h
  ·rename_i ds hds
   have:=Mz hds g
   exact⟨s',_,M',h,r,p,le,.d _ _ (.agg _ _ this.1 this.2 h1),q,n⟩
  ·exact⟨s',_,M',h,r,p,le,.agg _ _ g.1 g.2 h1,q,n⟩
 ·exact ju hR hv h
theorem jU:∀{vs:List AV} {vals:List Value} {M:GM} {s:St} {K:St→List AV→Prop},Rel M s a w→All2 (GamA M) vs vals→kj vs s K →
  ∃s' vs' M',K s' vs'∧Rel M' s' a w∧Stp s.ob M w s'.ob M' w∧M.le M'∧All2 (GamA M') vs' vals∧(∀q,s'.get q=s.get q)∧s'.n=s.n
 | [],vals,M,s,K,hR,hv,h=>⟨s,[],M,h,hR,.refl _ _ _,M.le_refl,hv,fun _=>rfl,rfl⟩
 | v::vs,vals,M,s,K,hR,hv,h=>by
  obtain⟨u,us,rfl,hu,ht⟩:=hv.inv
  rw[qn]at h
  obtain⟨s1,v1,M1,h1,r1,p1,l1,g1,q1,n1⟩:=kN hR hu h
  obtain⟨s2,v2,M2,h2,r2,p2,l2,g2,q2,n2⟩:=jU r1 (ht.mono fun _ _ x=>x.mono l1) h1
  exact⟨s2,_,M2,h2,r2,p1.trans p2,GM.le_trans l1 l2,.cons (g1.mono l2) g2,fun q=>by rw[q2,q1],by rw[n2,n1]⟩
theorem cells_ok{v:AV}{val:Value}(hv:GamA M v val){l:List AV}(h:v.cells? = some l):All2 (GamA M) l val.cells.toList∧∀u∈val.cells.toList,u.oneCell'=true:=by
 have one:∀{x:AV} {u:Value},GamA M x u→u.oneCell'=true→(match u with | .agg _=>false | _=>true)=true→All2 (GamA M) [x] u.cells.toList∧∀z∈u.cells.toList,z.oneCell'=true:=by
  intro x u hx h1 h2
  have:u.cells=#[u]:=by cases u<;>first | rfl | cases h2
  rw[this]
  exact⟨.cons hx .nil,by simpa using h1⟩
 cases hv with
 | d x _ hx =>
  cases hx with
  | agg cs vs hl hg h1 =>
   simp only[AV.cells?,Option.some.injEq,bY]at h;subst h
   exact⟨LG ⟨hl,hg⟩,h1⟩
  | tup=>simp[AV.cells?]at h
  | _=>simp only[AV.cells?,Option.some.injEq]at h;subst h;exact one (.d _ _ (by constructor<;>assumption)) rfl rfl
 | agg cs vs hl hg h1 =>
  simp only[AV.cells?,Option.some.injEq]at h;subst h
  exact⟨⟨hl,hg⟩,h1⟩
 | tup=>simp[AV.cells?]at h
 | top=>simp[AV.cells?]at h
 | un=>simp[AV.cells?]at h
 | b l=>simp only[AV.cells?,Option.some.injEq]at h;subst h;exact one (.d _ _ (.bool _)) rfl rfl
 | i k n=>simp only[AV.cells?,Option.some.injEq]at h;subst h;exact one (.d _ _ (.int _ _)) rfl rfl
 | nn sz xs a n c hh=>simp only[AV.cells?,Option.some.injEq]at h;subst h;exact one (.d _ _ hh) rfl rfl
 | cl sz xs a n hh=>simp only[AV.cells?,Option.some.injEq]at h;subst h;exact one (.d _ _ hh) rfl rfl
 | _=>simp only[AV.cells?,Option.some.injEq]at h;subst h;exact one (by constructor<;>assumption) rfl rfl
end
end Go.Abs
