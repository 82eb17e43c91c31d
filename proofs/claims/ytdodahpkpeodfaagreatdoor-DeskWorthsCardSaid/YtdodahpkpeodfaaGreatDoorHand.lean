/-
 Functions that defer, and strings.Builder: by hand.
-/
import Derived.Test.YtdodahpkpeodfaaGreatDoorBld
import Derived.Test.YtdodahpkpeodfaaGreatDoorProg
import Derived.Test.YtdodahpkpeodfaaGreatDoorHand0
set_option linter.all false
namespace Go.Proofs.YtdodahpkpeodfaaGreatDoor
open Go Go.Abs Go.Kp Go.RowKit
set_option maxHeartbeats 1000000
set_option maxRecDepth 100000
theorem wu(b:Nat)(w:World)(h0:w.cell? ⟨b,0,none⟩=some (.pointer (some ⟨b,0,none⟩))) :
  Calls Tryz.prog 95 #[.pointer (some ⟨b,0,none⟩)] w fun e w'=>e=.returned (.tuple #[])∧w'=w:=by
 obtain⟨j,hj,_⟩:=Option.map_eq_some_iff.1 (show(Tryz.prog.info? 126).map (·.size)=some 2 by kernel_rfl)
 go_enter Tryz.func95,Tryz.ntmps95
 go_wp2
 rw[Lib.run_neq_ptr_same w _ Tryz.underlying124 hj]
 go_wp2
 go_end0
 exact⟨rfl,rfl⟩
theorem vk(b:Nat)(w:World)(h0:w.cell? ⟨b,0,none⟩=some (.pointer none))(hsh:w.shape? b=some (126,2))(hfz:w.frozen? ⟨b,0,none⟩=false) :
  Calls Tryz.prog 95 #[.pointer (some ⟨b,0,none⟩)] w fun e w'=>e=.returned (.tuple #[])∧w'=w.setCell ⟨b,0,none⟩ (.pointer (some ⟨b,0,none⟩)):=by
 obtain⟨j,hj,hjs⟩:=Option.map_eq_some_iff.1 (show(Tryz.prog.info? 126).map (·.size)=some 2 by kernel_rfl)
 go_enter Tryz.func95,Tryz.ntmps95
 go_wp2
 rw[Lib.run_to_unsafe w ⟨b,0,none⟩ Tryz.underlying124 Tryz.underlying241 hj (by rw[hjs];decide) hsh (Nat.zero_lt_succ 1)]
 simp only[Result.andThen]
 rw[Oper.upon_value]
 go_wp2
 rw[run_callFunc_extern Tryz.func133 (by kernel_rfl) (by kernel_rfl) (by kernel_rfl) (e:=Extern.AbiNoEscape.same) (by kernel_rfl)]
 rw[Lib.run_noEscape]
 simp only[Result.andThen]
 rw[Oper.upon_value]
 go_wp2
 rw[Lib.run_from_unsafe w ⟨b,0,none⟩ Tryz.underlying241 Tryz.underlying124 hj hsh (by kernel_rfl)]
 simp only[Result.andThen]
 rw[Oper.upon_value]
 go_wp2
 go_end0
 exact⟨rfl,rfl⟩
theorem tY(b:Nat)(p v:Value)(bs:List Value)(s:ByteArray)(w:World)(hp:p=.pointer none∨p=.pointer (some ⟨b,0,none⟩))(hbk:w.heap[b]? = some (.cells #[p,v] 126 (0,0)))
  (hown:w.ownsRow 0 5 1 v bs.length bs) (hne:v.ownBlock≠some b) (hlen:bs.length+s.size≤140737488355328) :
  Calls Tryz.prog 51 #[.pointer (some ⟨b,0,none⟩),.string s] w fun e w'=>e=.returned (.tuple #[.int .i64 s.size,.nilIface])∧∃v' w1,w1.heap[b]? = some (.cells #[.pointer (some ⟨b,0,none⟩),v] 126 (0,0)) ∧
   (∀k,k≠b→w1.heap[k]? = w.heap[k]?)∧w1.heap.size=w.heap.size∧w1.os=w.os∧w1.tape=w.tape∧w1.output=w.output∧(∃w2,App w1 w2 5 1 v v' bs.length s.size bs (Lib.strCells s)∧w'=w2.setCell ⟨b,1,none⟩ v'):=by
 obtain⟨i0,hi,hz0,hz1,hz2⟩:=info_parts (show(Tryz.prog.info? 5).map (fun i=>(i.zero,i.size,i.bytes))=some (some (.int .u8 0),1,1) by kernel_rfl)
 have hcc:Calls Tryz.prog 95 #[.pointer (some ⟨b,0,none⟩)] w fun e w'=>e=.returned (.tuple #[])∧w'.heap[b]? = some (.cells #[.pointer (some ⟨b,0,none⟩),v] 126 (0,0))∧(∀k,k≠b→w'.heap[k]? = w.heap[k]?)∧w'.heap.size=w.heap.size∧w'.os=w.os∧w'.tape=w.tape∧w'.output=w.output:=by
  rcases hp with rfl | rfl
  ·refine(vk b w (by rw[Lib.cell_of_heap hbk];rfl) (by simp[World.shape?,hbk]) (Lib.frozen_of_heap hbk 0)).mono ?_
   rintro e w' ⟨rfl,rfl⟩
   exact⟨rfl,by simp[World.setCell,Array.getElem?_modify,hbk],fun k hk=>Below.heap_setCell _ _ _ _ hk,by simp[World.setCell],rfl,rfl,rfl⟩
  ·refine(wu b w (by rw[Lib.cell_of_heap hbk];rfl)).mono ?_
   rintro e w' ⟨rfl,rfl⟩
   exact⟨rfl,hbk,fun _ _=>rfl,rfl,rfl,rfl,rfl⟩
 go_enter Tryz.func51,Tryz.ntmps51
 go_wp2_with (go_at_call 95;refine hcc.mono ?_)
 rintro e w1 ⟨rfl,hbk1,hk1,hs1,ho1,ht1,hu1⟩
 have hown1:w1.ownsRow 0 5 1 v bs.length bs:=by
  refine⟨hown.1,?_⟩
  rcases hown.2 with hn | ⟨g,cap,cur,rfl,hg,hh,r⟩
  ·exact .inl hn
  ·exact .inr ⟨g,cap,cur,rfl,hg,by rw[hk1 g (fun e=>hne (by rw[e];rfl))];exact hh,r⟩
 have c0:w1.cell? ⟨b,0,none⟩=some (.pointer (some ⟨b,0,none⟩)):=by rw[Lib.cell_of_heap hbk1];rfl
 have c1:w1.cell? ⟨b,1,none⟩=some v:=by rw[Lib.cell_of_heap hbk1];rfl
 go_wp2_with (at_builtin;refine qU rfl _ _ 74 9 rfl 5 i0 Tryz.underlying74 Tryz.underlying9 hi hz0 hz1 hz2 _ _ _ rfl hown1 s rfl hlen ?_)
 intro v' w2 hA
 have hlt:b<w1.heap.size:=by
  rcases Nat.lt_or_ge b w1.heap.size with h' | h'
  ·exact h'
  ·simp[Array.getElem?_eq_none h']at hbk1
 have hb2:w2.heap[b]? = some (.cells #[.pointer (some ⟨b,0,none⟩),v] 126 (0,0)):=by
  rw[hA.keep b hlt hne]
  exact hbk1
 have d0:w2.cell? ⟨b,0,none⟩=some (.pointer (some ⟨b,0,none⟩)):=by rw[Lib.cell_of_heap hb2];rfl
 have d1:w2.cell? ⟨b,1,none⟩=some v:=by rw[Lib.cell_of_heap hb2];rfl
 have f1:w2.frozen? ⟨b,1,none⟩=false:=Lib.frozen_of_heap hb2 1
 obtain⟨ao,n',cap,rfl⟩:=hA.sl
 go_wp2
 go_ret2
 exact⟨rfl,_,w1,hbk1,hk1,hs1,ho1,ht1,hu1,w2,hA,rfl⟩
end Go.Proofs.YtdodahpkpeodfaaGreatDoor
namespace Go.Proofs.YtdodahpkpeodfaaGreatDoor
open Go Go.Abs Go.Kp Go.RowKit
theorem cQ{M:GM}{z:Nat}{l:List D}{v:Value}(h:GamA M (.d (.list z l)) v):∃x n c,v=.slice x n c:=by
 cases h with | d _ _ h=>?_
 generalize hd:D.list z l=d at h
 cases h<;>first | exact⟨_,_,_,rfl⟩ | cases hd
theorem vh{k bo:Nat}{s:List UInt8}{z1 z2 z3 z4 z5 z6:Nat}{a1 a2 a3 a4 a5 a6:List D}{b1 b2 b3 b4 b5 b6:D}
  (h:ACalls Tryz.prog 107 [.ptr k bo 0,.d (.str s)] [(k,.cells bo [.d (.list z1 a1),.d (.list z2 a2),.d (.list z3 a3),.d (.list z4 a4),.d (.list z5 a5),.d (.list z6 a6)])] (fun ae os=>∃_:Unit,True∧ae=.ret (.d (.tup []))∧os=[(k,.cells bo [.d b1,.d b2,.d b3,.d b4,.d b5,.d b6])])) :
  ACalls Tryz.prog 62 [.ptr k bo 0,.d (.str s)] [(k,.cells bo [.d (.list z1 a1),.d (.list z2 a2),.d (.list z3 a3),.d (.list z4 a4),.d (.list z5 a5),.d (.list z6 a6)])] (fun ae os=>∃_:Unit,True∧ae=.ret (.d (.int .i64 0))∧os=[(k,.cells bo [.d b1,.d b2,.d b3,.d b4,.d b5,.d b6])]):=by
 refine⟨Tryz.call62,fun M w vs hr ha hO=>?_⟩
 obtain⟨v1,vs',rfl,hv,ht⟩:=ha.inv
 obtain⟨v2,vs2,rfl,hv2,ht2⟩:=ht.inv
 have:=ht2.inv_nil
 subst this
 cases hv with | ptr=>?_
 obtain⟨u,rfl,rfl⟩:=gj hv2
 obtain⟨vals,el,hb,hall,hone,hfree⟩:=hO.ok k _ (cZ _ _)
 obtain⟨y1,r1,rfl,p1,t1⟩:=hall.inv
 obtain⟨y2,r2,rfl,p2,t2⟩:=t1.inv
 obtain⟨y3,r3,rfl,p3,t3⟩:=t2.inv
 obtain⟨y4,r4,rfl,p4,t4⟩:=t3.inv
 obtain⟨y5,r5,rfl,p5,t5⟩:=t4.inv
 obtain⟨y6,r6,rfl,p6,t6⟩:=t5.inv
 have:=t6.inv_nil
 subst this
 obtain⟨x1,n1,c1,rfl⟩:=cQ p1
 obtain⟨x2,n2,c2,rfl⟩:=cQ p2
 obtain⟨x3,n3,c3,rfl⟩:=cQ p3
 obtain⟨x4,n4,c4,rfl⟩:=cQ p4
 obtain⟨x5,n5,c5,rfl⟩:=cQ p5
 obtain⟨x6,n6,c6,rfl⟩:=cQ p6
 have hlt:=aK hb
 let A0:Obj:=.cells #[.pointer (some ⟨bo,0,none⟩)] 84
 let A1:Obj:=.cells #[.int .i64 0] 33
 let A2:Obj:=.cells #[.slice x1 n1 c1,.slice x2 n2 c2,.slice x3 n3 c3,.slice x4 n4 c4,.slice x5 n5 c5,.slice x6 n6 c6] 31
 let W:=((w.alloc A0).alloc A1).alloc A2
 have hWs:W.heap.size=w.heap.size+1+1+1:=by simp[W]
 have hWo:∀q,q<w.heap.size→W.heap[q]? = w.heap[q]?:=fun q hq=>by
  show(((w.alloc A0).alloc A1).alloc A2).heap[q]? = _
  rw[alloc_old _ _ _ (by simp;omega),alloc_old _ _ _ (by simp;omega),alloc_old _ _ _ hq]
 have hW1:W.heap[w.heap.size+1]? = some A1:=by
  show(((w.alloc A0).alloc A1).alloc A2).heap[w.heap.size+1]? = _
  rw[alloc_old _ _ _ (by simp)]
  have h0:=heap_alloc_new (w.alloc A0) A1
  have hs:(w.alloc A0).heap.size=w.heap.size+1:=by simp
  rw[hs]at h0
  exact h0
 have hrW:Resp M W:=((hr.alloc _).alloc _).alloc _
 have hOW:Obs M W [(k,Ob.cells bo [.d (.list z1 a1),.d (.list z2 a2),.d (.list z3 a3),.d (.list z4 a4),.d (.list z5 a5),.d (.list z6 a6)])] :=
  ve ⟨_,el,(hWo bo hlt).trans hb,hall,hone,hfree⟩
 have hrun:=h.run M W _ hrW ha hOW
 refine(tW (X:=fun w'=>∃M',Obs M' w' [(k,Ob.cells bo [.d b1,.d b2,.d b3,.d b4,.d b5,.d b6])]∧Resp M' w'∧Stp [(k,Ob.cells bo [.d (.list z1 a1),.d (.list z2 a2),.d (.list z3 a3),.d (.list z4 a4),.d (.list z5 a5),.d (.list z6 a6)])] M W [(k,Ob.cells bo [.d b1,.d b2,.d b3,.d b4,.d b5,.d b6])] M' w') hb (hrun.mono ?_)).mono ?_
 ·rintro e w' ⟨os',M',ho,hrs,st,g⟩
  rcases g with⟨r,v,rfl,⟨_,_,hq,rfl⟩,hg⟩ | ⟨d,v,rfl,⟨_,_,hq,_⟩,_⟩
  ·cases hq
   cases hg with | d _ _ hg=>?_
   refine⟨by cases hg with | tup _ vs hl hh=>(have:vs=[]:=List.eq_nil_of_length_eq_zero (by simpa using hl.symm);subst this;rfl),?_,M',ho,hrs,st⟩
   exact(st.fr.keep _ (by omega) (by rintro⟨j,o,hj,hq⟩;obtain⟨_,rfl⟩:=mi hj;have:bo=w.heap.size+1:=hq;omega)).trans hW1
  ·cases hq
 ·rintro e w'' ⟨rfl,w',⟨M',ho,hrs,st⟩,rfl⟩
  have own0:∀q,du [(k,Ob.cells bo [.d (.list z1 a1),.d (.list z2 a2),.d (.list z3 a3),.d (.list z4 a4),.d (.list z5 a5),.d (.list z6 a6)])] q→q=bo:=by
   rintro q ⟨j,o,hj,hq⟩
   obtain⟨_,rfl⟩:=mi hj
   exact(show bo=q from hq).symm
  have hfr0:=hrW.free (b:=w.heap.size+1)
  have hfW:Free M (w.heap.size+1):=hr.free (by omega)
  have hf':Free M' (w.heap.size+1):=⟨fun o=>(st.fr.mc _ (by omega) (fun q=>by have:=own0 _ q;omega) o).trans (hfW.c o),(st.fr.mm _ (by omega) (fun q=>by have:=own0 _ q;omega)).trans hfW.m⟩
  have hset:∀q,q≠w.heap.size+1→(w'.setCell ⟨w.heap.size+1,0,none⟩ (.int .i64 0)).heap[q]? = w'.heap[q]?:=fun q hq=>Below.heap_setCell _ _ _ _ hq
  obtain⟨vals2,el2,hb2,hall2,hone2,hfree2⟩:=ho.ok k _ (cZ _ _)
  refine⟨_,M',ve (o:=Ob.cells bo [.d b1,.d b2,.d b3,.d b4,.d b5,.d b6]) ⟨vals2,el2,(hset bo (by omega)).trans hb2,hall2,hone2,hfree2⟩,⟨fun q o x hx=>?_,fun q x hx=>?_,hrs.t⟩,⟨⟨by show w'.os=_;rw[st.fr.os];rfl,by show w'.tape=_;rw[st.fr.tape];rfl,by show w'.output=_;rw[st.fr.output];rfl,by have:=st.fr.size;simp[World.setCell];omega,fun q hq hn=>?_,st.fr.mle,fun q hq hn=>st.fr.mc q (by omega) hn,fun q hq hn=>st.fr.mm q (by omega) hn⟩,fun q hq=>?_⟩,.inl ⟨_,_,rfl,⟨(),trivial,rfl,rfl⟩,.d _ _ (.int _ _)⟩⟩
  ·have h0:=hrs.c _ _ _ hx
   rw[World.cell?_of_block (w:=w') (hset q fun e=>by rw[e,hf'.c]at hx;cases hx)];exact h0
  ·have h0:=hrs.m _ _ hx
   rw[hset q fun e=>by rw[e,hf'.m]at hx;cases hx];exact h0
  ·rw[hset q (by omega),st.fr.keep q (by omega) hn,hWo q hq]
  ·rcases st.ow q hq with q1 | q1
   ·exact .inl q1
   ·exact .inr (by omega)
theorem vj{k bo:Nat}{s:List UInt8}{er:Int}{z1 z2 z3 z4 z5 z6:Nat}{a1 a2 a3 a4 a5 a6:List D}{b1 b2 b3 b4 b5 b6:D}
  (h:ACalls Tryz.prog 107 [.ptr k bo 0,.d (.str s)] [(k,.cells bo [.d (.list z1 a1),.d (.list z2 a2),.d (.list z3 a3),.d (.list z4 a4),.d (.list z5 a5),.d (.list z6 a6)])] (fun ae os=>∃_:Unit,True∧ae=.pan (.ifc 211 (.agg [.int .i64 er]))∧os=[(k,.cells bo [.d b1,.d b2,.d b3,.d b4,.d b5,.d b6])])) :
  ACalls Tryz.prog 62 [.ptr k bo 0,.d (.str s)] [(k,.cells bo [.d (.list z1 a1),.d (.list z2 a2),.d (.list z3 a3),.d (.list z4 a4),.d (.list z5 a5),.d (.list z6 a6)])] (fun ae os=>∃_:Unit,True∧ae=.ret (.d (.int .i64 er))∧os=[(k,.cells bo [.d (.list z1 a1),.d (.list z2 a2),.d (.list z3 a3),.d (.list z4 a4),.d (.list z5 a5),.d (.list z6 a6)])]):=by
 refine⟨Tryz.call62,fun M w vs hr ha hO=>?_⟩
 obtain⟨v1,vs',rfl,hv,ht⟩:=ha.inv
 obtain⟨v2,vs2,rfl,hv2,ht2⟩:=ht.inv
 have:=ht2.inv_nil
 subst this
 cases hv with | ptr=>?_
 obtain⟨u,rfl,rfl⟩:=gj hv2
 obtain⟨vals,el,hb,hall,hone,hfree⟩:=hO.ok k _ (cZ _ _)
 obtain⟨y1,r1,rfl,p1,t1⟩:=hall.inv
 obtain⟨y2,r2,rfl,p2,t2⟩:=t1.inv
 obtain⟨y3,r3,rfl,p3,t3⟩:=t2.inv
 obtain⟨y4,r4,rfl,p4,t4⟩:=t3.inv
 obtain⟨y5,r5,rfl,p5,t5⟩:=t4.inv
 obtain⟨y6,r6,rfl,p6,t6⟩:=t5.inv
 have:=t6.inv_nil
 subst this
 obtain⟨x1,n1,c1,rfl⟩:=cQ p1
 obtain⟨x2,n2,c2,rfl⟩:=cQ p2
 obtain⟨x3,n3,c3,rfl⟩:=cQ p3
 obtain⟨x4,n4,c4,rfl⟩:=cQ p4
 obtain⟨x5,n5,c5,rfl⟩:=cQ p5
 obtain⟨x6,n6,c6,rfl⟩:=cQ p6
 have hlt:=aK hb
 let A0:Obj:=.cells #[.pointer (some ⟨bo,0,none⟩)] 84
 let A1:Obj:=.cells #[.int .i64 0] 33
 let A2:Obj:=.cells #[.slice x1 n1 c1,.slice x2 n2 c2,.slice x3 n3 c3,.slice x4 n4 c4,.slice x5 n5 c5,.slice x6 n6 c6] 31
 let W:=((w.alloc A0).alloc A1).alloc A2
 have hWs:W.heap.size=w.heap.size+1+1+1:=by simp[W]
 have hWo:∀q,q<w.heap.size→W.heap[q]? = w.heap[q]?:=fun q hq=>by
  show(((w.alloc A0).alloc A1).alloc A2).heap[q]? = _
  rw[alloc_old _ _ _ (by simp;omega),alloc_old _ _ _ (by simp;omega),alloc_old _ _ _ hq]
 have hW0:W.heap[w.heap.size]? = some A0:=by
  show(((w.alloc A0).alloc A1).alloc A2).heap[w.heap.size]? = _
  rw[alloc_old _ _ _ (by simp;omega),alloc_old _ _ _ (by simp)]
  exact heap_alloc_new w A0
 have hW1:W.heap[w.heap.size+1]? = some A1:=by
  show(((w.alloc A0).alloc A1).alloc A2).heap[w.heap.size+1]? = _
  rw[alloc_old _ _ _ (by simp)]
  have h0:=heap_alloc_new (w.alloc A0) A1
  have hs:(w.alloc A0).heap.size=w.heap.size+1:=by simp
  rw[hs]at h0
  exact h0
 have hW2:W.heap[w.heap.size+1+1]? = some A2:=by
  have h0:=heap_alloc_new ((w.alloc A0).alloc A1) A2
  have hs:((w.alloc A0).alloc A1).heap.size=w.heap.size+1+1:=by simp
  rw[hs]at h0
  exact h0
 have hrW:Resp M W:=((hr.alloc _).alloc _).alloc _
 have hOW:Obs M W [(k,Ob.cells bo [.d (.list z1 a1),.d (.list z2 a2),.d (.list z3 a3),.d (.list z4 a4),.d (.list z5 a5),.d (.list z6 a6)])] :=
  ve ⟨_,el,(hWo bo hlt).trans hb,hall,hone,hfree⟩
 have own0:∀q,du [(k,Ob.cells bo [.d (.list z1 a1),.d (.list z2 a2),.d (.list z3 a3),.d (.list z4 a4),.d (.list z5 a5),.d (.list z6 a6)])] q→q=bo:=by
  rintro q ⟨j,o,hj,hq⟩
  obtain⟨_,rfl⟩:=mi hj
  exact(show bo=q from hq).symm
 have hrun:=h.run M W _ hrW ha hOW
 refine(tX (er:=er) (X:=fun w'=>∃M',(∃y1 y2 y3 y4 y5 y6 el',w'.heap[bo]? = some (.cells #[y1,y2,y3,y4,y5,y6] el' (0,0)))∧Free M' bo∧Resp M' w'∧Stp [(k,Ob.cells bo [.d (.list z1 a1),.d (.list z2 a2),.d (.list z3 a3),.d (.list z4 a4),.d (.list z5 a5),.d (.list z6 a6)])] M W [(k,Ob.cells bo [.d b1,.d b2,.d b3,.d b4,.d b5,.d b6])] M' w') hb (hrun.mono ?_)).mono ?_
 ·rintro e w' ⟨os',M',ho,hrs,st,g⟩
  rcases g with⟨r,v,rfl,⟨_,_,hq,_⟩,_⟩ | ⟨d,v,rfl,⟨_,_,hq,rfl⟩,hg⟩
  ·cases hq
  ·cases hq
   cases hg with | ifc _ _ v hg=>?_
   cases hg with | agg _ vs hl hh h1=>?_
   obtain⟨vals2,el2,hb2,hall2,hone2,hfree2⟩:=ho.ok k _ (cZ _ _)
   have six:∃y1 y2 y3 y4 y5 y6 el',w'.heap[bo]? = some (.cells #[y1,y2,y3,y4,y5,y6] el' (0,0)):=by
    obtain⟨y1,r1,rfl,_,t1⟩:=hall2.inv
    obtain⟨y2,r2,rfl,_,t2⟩:=t1.inv
    obtain⟨y3,r3,rfl,_,t3⟩:=t2.inv
    obtain⟨y4,r4,rfl,_,t4⟩:=t3.inv
    obtain⟨y5,r5,rfl,_,t5⟩:=t4.inv
    obtain⟨y6,r6,rfl,_,t6⟩:=t5.inv
    have:=t6.inv_nil
    subst this
    exact⟨_,_,_,_,_,_,_,hb2⟩
   have keep:∀q o,w.heap.size≤q→q<w.heap.size+1+1+1→W.heap[q]? = some o→w'.heap[q]? = some o:=fun q o h1 h2 h3 =>
    (st.fr.keep q (by omega) (fun e=>by have:=own0 _ e;omega)).trans h3
   refine⟨?_,keep _ _ (by omega) (by omega) hW0,keep _ _ (by omega) (by omega) hW1,keep _ _ (by omega) (by omega) hW2,six,M',six,hfree2,hrs,st⟩
   match vs,hl with
   | [x],_ =>
    have:=hh 0 _ _ rfl rfl
    cases this
    rfl
 ·rintro e w'' ⟨rfl,w',⟨M',⟨y1,y2,y3,y4,y5,y6,el',hq3⟩,hfb,hrs,st⟩,rfl⟩
  generalize hW6:((((((w'.setCell ⟨bo,0,none⟩ (.slice x1 n1 c1)).setCell ⟨bo,1,none⟩ (.slice x2 n2 c2)).setCell ⟨bo,2,none⟩ (.slice x3 n3 c3)).setCell ⟨bo,3,none⟩ (.slice x4 n4 c4)).setCell ⟨bo,4,none⟩ (.slice x5 n5 c5)).setCell ⟨bo,5,none⟩ (.slice x6 n6 c6))=W6
  obtain⟨k0,k1,k2,k3,k4,k5⟩:=wG w' bo _ _ _ _ _ _ y1 y2 y3 y4 y5 y6 el' hq3 hW6
  have hfW:Free M (w.heap.size+1):=hr.free (by omega)
  have hf':Free M' (w.heap.size+1):=⟨fun o=>(st.fr.mc _ (by omega) (fun q=>by have:=own0 _ q;omega) o).trans (hfW.c o),(st.fr.mm _ (by omega) (fun q=>by have:=own0 _ q;omega)).trans hfW.m⟩
  have hsz:=st.fr.size
  have hset:∀q,q≠w.heap.size+1→q<w'.heap.size→((W6.setCell ⟨w.heap.size+1,0,none⟩ (.int .i64 er)).alloc (.cells #[.int .i64 er] 211)).drew.heap[q]? = W6.heap[q]?:=fun q hq hlq=>by
   show((W6.setCell ⟨w.heap.size+1,0,none⟩ (.int .i64 er)).alloc (.cells #[.int .i64 er] 211)).heap[q]? = _
   rw[alloc_old _ _ _ (by simp[World.setCell];omega)]
   exact Below.heap_setCell _ _ _ _ hq
  refine⟨_,M',ve (o:=Ob.cells bo [.d (.list z1 a1),.d (.list z2 a2),.d (.list z3 a3),.d (.list z4 a4),.d (.list z5 a5),.d (.list z6 a6)]) ⟨_,el',(hset bo (by omega) (by omega)).trans k0,hall.mono fun _ _ q=>q.mono st.fr.mle,hone,hfb⟩,⟨fun q o x hx=>?_,fun q x hx=>?_,hrs.t⟩,⟨⟨by show W6.os=_;rw[k3,st.fr.os];rfl,by show W6.tape=_;rw[k4,st.fr.tape];rfl,by show W6.output=_;rw[k5,st.fr.output];rfl,by show _≤((W6.setCell ⟨w.heap.size+1,0,none⟩ (.int .i64 er)).alloc (.cells #[.int .i64 er] 211)).heap.size;simp[World.setCell];omega,fun q hq hn=>?_,st.fr.mle,fun q hq hn=>st.fr.mc q (by omega) hn,fun q hq hn=>st.fr.mm q (by omega) hn⟩,fun q hq=>?_⟩,.inl ⟨_,_,rfl,⟨(),trivial,rfl,rfl⟩,.d _ _ (.int _ _)⟩⟩
  ·have h0:=hrs.c _ _ _ hx
   have hqb:q≠bo:=fun e=>by rw[e,hfb.c]at hx;cases hx
   have hlq:q<w'.heap.size:=by have:=World.block_lt_of_cell? w' _ h0;simpa using this
   rw[World.cell?_of_block (w:=w') ((hset q (fun e=>by rw[e,hf'.c]at hx;cases hx) hlq).trans (k1 q hqb))];exact h0
  ·have h0:=hrs.m _ _ hx
   have hqb:q≠bo:=fun e=>by rw[e,hfb.m]at hx;cases hx
   rw[hset q (fun e=>by rw[e,hf'.m]at hx;cases hx) (aK h0),k1 q hqb];exact h0
  ·have hqb:q≠bo:=fun e=>hn ⟨k,_,cZ _ _,by rw[e];exact rfl⟩
   rw[hset q (by omega) (by omega),k1 q hqb,st.fr.keep q (by omega) hn,hWo q hq]
  ·obtain⟨j,o,hj,hq⟩:=hq
   obtain⟨_,rfl⟩:=mi hj
   exact .inl ⟨k,_,cZ _ _,hq⟩
