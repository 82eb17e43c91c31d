/-
 Functions that defer, and strings.Builder: by hand.
-/
import Derived.Test.YtdodahpkpeodfaaGreatDoorBld
import Derived.Test.YtdodahpkpeodfaaGreatDoorProg
set_option linter.all false
namespace Go.Proofs.YtdodahpkpeodfaaGreatDoor
open Go Go.Abs Go.Kp Go.RowKit
set_option maxHeartbeats 1000000
set_option maxRecDepth 100000
theorem wu(b:Nat)(w:World)(h0:w.cell? ⟨b,0,none⟩=some (.pointer (some ⟨b,0,none⟩))) :
  Calls Tryz.prog 95 #[.pointer (some ⟨b,0,none⟩)] w fun e w'=>e=.returned (.tuple #[])∧w'=w:=by
 obtain⟨j,hj,_⟩:=Option.map_eq_some_iff.1 (show(Tryz.prog.info? 126).map (·.size)=some 2 by kernel_rfl)
 go_enter Tryz.func95,Tryz.ntmps95
 go_wp2
 rw[Lib.run_neq_ptr_same w _ Tryz.underlying124 hj]
 go_wp2
 go_end0
 exact⟨rfl,rfl⟩
theorem vk(b:Nat)(w:World)(h0:w.cell? ⟨b,0,none⟩=some (.pointer none))(hsh:w.shape? b=some (126,2))(hfz:w.frozen? ⟨b,0,none⟩=false) :
  Calls Tryz.prog 95 #[.pointer (some ⟨b,0,none⟩)] w fun e w'=>e=.returned (.tuple #[])∧w'=w.setCell ⟨b,0,none⟩ (.pointer (some ⟨b,0,none⟩)):=by
 obtain⟨j,hj,hjs⟩:=Option.map_eq_some_iff.1 (show(Tryz.prog.info? 126).map (·.size)=some 2 by kernel_rfl)
 go_enter Tryz.func95,Tryz.ntmps95
 go_wp2
 rw[Lib.run_to_unsafe w ⟨b,0,none⟩ Tryz.underlying124 Tryz.underlying241 hj (by rw[hjs];decide) hsh (Nat.zero_lt_succ 1)]
 simp only[Result.andThen]
 rw[Oper.upon_value]
 go_wp2
 rw[run_callFunc_extern Tryz.func133 (by kernel_rfl) (by kernel_rfl) (by kernel_rfl) (e:=Extern.AbiNoEscape.same) (by kernel_rfl)]
 rw[Lib.run_noEscape]
 simp only[Result.andThen]
 rw[Oper.upon_value]
 go_wp2
 rw[Lib.run_from_unsafe w ⟨b,0,none⟩ Tryz.underlying241 Tryz.underlying124 hj hsh (by kernel_rfl)]
 simp only[Result.andThen]
 rw[Oper.upon_value]
 go_wp2
 go_end0
 exact⟨rfl,rfl⟩
theorem tY(b:Nat)(p v:Value)(bs:List Value)(s:ByteArray)(w:World)(hp:p=.pointer none∨p=.pointer (some ⟨b,0,none⟩))(hbk:w.heap[b]? = some (.cells #[p,v] 126 (0,0)))
  (hown:w.ownsRow 0 5 1 v bs.length bs) (hne:v.ownBlock≠some b) (hlen:bs.length+s.size≤140737488355328) :
  Calls Tryz.prog 51 #[.pointer (some ⟨b,0,none⟩),.string s] w fun e w'=>e=.returned (.tuple #[.int .i64 s.size,.nilIface])∧∃v' w1,w1.heap[b]? = some (.cells #[.pointer (some ⟨b,0,none⟩),v] 126 (0,0)) ∧
   (∀k,k≠b→w1.heap[k]? = w.heap[k]?)∧w1.heap.size=w.heap.size∧w1.os=w.os∧w1.tape=w.tape∧w1.output=w.output∧(∃w2,App w1 w2 5 1 v v' bs.length s.size bs (Lib.strCells s)∧w'=w2.setCell ⟨b,1,none⟩ v'):=by
 obtain⟨i0,hi,hz0,hz1,hz2⟩:=info_parts (show(Tryz.prog.info? 5).map (fun i=>(i.zero,i.size,i.bytes))=some (some (.int .u8 0),1,1) by kernel_rfl)
 have hcc:Calls Tryz.prog 95 #[.pointer (some ⟨b,0,none⟩)] w fun e w'=>e=.returned (.tuple #[])∧w'.heap[b]? = some (.cells #[.pointer (some ⟨b,0,none⟩),v] 126 (0,0))∧(∀k,k≠b→w'.heap[k]? = w.heap[k]?)∧w'.heap.size=w.heap.size∧w'.os=w.os∧w'.tape=w.tape∧w'.output=w.output:=by
  rcases hp with rfl | rfl
  ·refine(vk b w (by rw[Lib.cell_of_heap hbk];rfl) (by simp[World.shape?,hbk]) (Lib.frozen_of_heap hbk 0)).mono ?_
   rintro e w' ⟨rfl,rfl⟩
   exact⟨rfl,by simp[World.setCell,Array.getElem?_modify,hbk],fun k hk=>Below.heap_setCell _ _ _ _ hk,by simp[World.setCell],rfl,rfl,rfl⟩
  ·refine(wu b w (by rw[Lib.cell_of_heap hbk];rfl)).mono ?_
   rintro e w' ⟨rfl,rfl⟩
   exact⟨rfl,hbk,fun _ _=>rfl,rfl,rfl,rfl,rfl⟩
 go_enter Tryz.func51,Tryz.ntmps51
 go_wp2_with (go_at_call 95;refine hcc.mono ?_)
 rintro e w1 ⟨rfl,hbk1,hk1,hs1,ho1,ht1,hu1⟩
 have hown1:w1.ownsRow 0 5 1 v bs.length bs:=by
  refine⟨hown.1,?_⟩
  rcases hown.2 with hn | ⟨g,cap,cur,rfl,hg,hh,r⟩
  ·exact .inl hn
  ·exact .inr ⟨g,cap,cur,rfl,hg,by rw[hk1 g (fun e=>hne (by rw[e];rfl))];exact hh,r⟩
 have c0:w1.cell? ⟨b,0,none⟩=some (.pointer (some ⟨b,0,none⟩)):=by rw[Lib.cell_of_heap hbk1];rfl
 have c1:w1.cell? ⟨b,1,none⟩=some v:=by rw[Lib.cell_of_heap hbk1];rfl
 go_wp2_with (at_builtin;refine qU rfl _ _ 74 9 rfl 5 i0 Tryz.underlying74 Tryz.underlying9 hi hz0 hz1 hz2 _ _ _ rfl hown1 s rfl hlen ?_)
 intro v' w2 hA
 have hlt:b<w1.heap.size:=by
  rcases Nat.lt_or_ge b w1.heap.size with h' | h'
  ·exact h'
  ·simp[Array.getElem?_eq_none h']at hbk1
 have hb2:w2.heap[b]? = some (.cells #[.pointer (some ⟨b,0,none⟩),v] 126 (0,0)):=by
  rw[hA.keep b hlt hne]
  exact hbk1
 have d0:w2.cell? ⟨b,0,none⟩=some (.pointer (some ⟨b,0,none⟩)):=by rw[Lib.cell_of_heap hb2];rfl
 have d1:w2.cell? ⟨b,1,none⟩=some v:=by rw[Lib.cell_of_heap hb2];rfl
 have f1:w2.frozen? ⟨b,1,none⟩=false:=Lib.frozen_of_heap hb2 1
 obtain⟨ao,n',cap,rfl⟩:=hA.sl
 go_wp2
 go_ret2
 exact⟨rfl,_,w1,hbk1,hk1,hs1,ho1,ht1,hu1,w2,hA,rfl⟩
