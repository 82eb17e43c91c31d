/-
 Functions that defer, and strings.Builder: by hand.
-/
import Derived.Test.YtdodahpkpeodfaaGreatDoorBld
import Derived.Test.YtdodahpkpeodfaaGreatDoorProg
import Derived.Recover
import Derived.Laws.NewBlocks
set_option linter.all false
namespace Go.Proofs.YtdodahpkpeodfaaGreatDoor
open Go Go.Abs Go.Kp Go.RowKit
set_option maxHeartbeats 1000000
set_option maxRecDepth 100000
theorem rW(a b c:Addr)(w:World) :
  CallsD Tryz.prog 106 #[.pointer (some a),.pointer (some b),.pointer (some c)] .returning w fun e u' w'=>e=.returned (.tuple #[])∧u'=.returning∧w'=w:=by
 refine callsD_of_wpS Tryz.func106 rfl fun c₀ cs hu=>?_
 apply wpS_seq
 apply wpS_region
 simp[wpOpsS,go_sem,recoverD,hu,Tryz.ntmps106,Exit.thenS]
 refine wpS_of_wp ?_
 go_wp2
 cases c₀
 simp_all[bodyPostS,results,Tryz.results106]
theorem wX(er:Int):∀w:World,(Instr.typeAssert (Value.iface 211 (Value.agg #[Value.int IntKind.i64 er])) 20 211 true).run Tryz.prog w=.ok (.tuple #[Value.agg #[Value.int IntKind.i64 er],.bool true]) w:=fun w=>by simp only[Instr.typeAssert,Sem.run_bind,run_underlying Tryz.underlying211,Result.andThen_ok];simp
set_option maxHeartbeats 8000000 in
theorem tV(b0 b1 b2 bo:Nat)(er:Int)(x1 x2 x3 x4 x5 x6:Option Addr)(n1 n2 n3 n4 n5 n6 c1 c2 c3 c4 c5 c6:Nat)(y1 y2 y3 y4 y5 y6:Value)(el:TypeId)(w:World)
  (h0:w.cell? ⟨b0,0,none⟩=some (.pointer (some ⟨bo,0,none⟩))) (hr:w.heap[b1]? = some (.cells #[.int .i64 0] 33 (0,0)))
  (h2:w.heap[b2]? = some (.cells #[.slice x1 n1 c1,.slice x2 n2 c2,.slice x3 n3 c3,.slice x4 n4 c4,.slice x5 n5 c5,.slice x6 n6 c6] 31 (0,0)))
  (hb:w.heap[bo]? = some (.cells #[y1,y2,y3,y4,y5,y6] el (0,0))) (n1b:¬b1=bo) (nb1:¬bo=b1) (n2b:¬b2=bo) (nb2:¬bo=b2) (n3b:¬b0=bo) (nb3:¬bo=b0) :
  CallsD Tryz.prog 106 #[.pointer (some ⟨b2,0,none⟩),.pointer (some ⟨b0,0,none⟩),.pointer (some ⟨b1,0,none⟩)] (.panicking [{v:=.iface 211 (.agg #[.int .i64 er]),recovered:=false}]) w fun e u' w'=>e=.returned (.tuple #[])∧u'=.panicking [{v:=.iface 211 (.agg #[.int .i64 er]),recovered:=true}]∧w'=((((((((w.setCell ⟨bo,0,none⟩ (.slice x1 n1 c1)).setCell ⟨bo,1,none⟩ (.slice x2 n2 c2)).setCell ⟨bo,2,none⟩ (.slice x3 n3 c3)).setCell ⟨bo,3,none⟩ (.slice x4 n4 c4)).setCell ⟨bo,4,none⟩ (.slice x5 n5 c5)).setCell ⟨bo,5,none⟩ (.slice x6 n6 c6)).setCell ⟨b1,0,none⟩ (.int .i64 er)).alloc (.cells #[.int .i64 er] 211)).drew:=by
 have hta:=wX er
 have mixed:Tryz.prog.follows .mixedOrders=true:=by kernel_rfl
 have e0:w.cell? ⟨bo,0,none⟩=some y1:=by rw[Lib.cell_of_heap hb];rfl
 have e1:w.cell? ⟨bo,1,none⟩=some y2:=by rw[Lib.cell_of_heap hb];rfl
 have e2:w.cell? ⟨bo,2,none⟩=some y3:=by rw[Lib.cell_of_heap hb];rfl
 have e3:w.cell? ⟨bo,3,none⟩=some y4:=by rw[Lib.cell_of_heap hb];rfl
 have e4:w.cell? ⟨bo,4,none⟩=some y5:=by rw[Lib.cell_of_heap hb];rfl
 have e5:w.cell? ⟨bo,5,none⟩=some y6:=by rw[Lib.cell_of_heap hb];rfl
 have fz:∀i,w.frozen? ⟨bo,i,none⟩=false:=fun i=>Lib.frozen_of_heap hb i
 have er0:w.cell? ⟨b1,0,none⟩=some (.int .i64 0):=by rw[Lib.cell_of_heap hr];rfl
 have fr0:w.frozen? ⟨b1,0,none⟩=false:=Lib.frozen_of_heap hr 0
 have hlt:∀b o,w.heap[b]? = some o→b<w.heap.size:=fun b o h=>aK h
 have hcell:∀(b i:Nat) (v:Value) (A:Obj),w.cell? ⟨b,i,none⟩=some v→(w.alloc A).cell? ⟨b,i,none⟩=some v:=fun b i v A h=>by
  rw[World.cell?_alloc_past _ _ _ (by have:=World.block_lt_of_cell? w _ h;simpa using this)];exact h
 have q0:∀A,(w.alloc A).cell? ⟨b0,0,none⟩=some (.pointer (some ⟨bo,0,none⟩)):=fun A=>hcell _ _ _ A h0
 have z1:∀A,(w.alloc A).cell? ⟨b2,0,none⟩=some (.slice x1 n1 c1):=fun A=>hcell _ _ _ A (by rw[Lib.cell_of_heap h2];rfl)
 have z2:∀A,(w.alloc A).cell? ⟨b2,1,none⟩=some (.slice x2 n2 c2):=fun A=>hcell _ _ _ A (by rw[Lib.cell_of_heap h2];rfl)
 have z3:∀A,(w.alloc A).cell? ⟨b2,2,none⟩=some (.slice x3 n3 c3):=fun A=>hcell _ _ _ A (by rw[Lib.cell_of_heap h2];rfl)
 have z4:∀A,(w.alloc A).cell? ⟨b2,3,none⟩=some (.slice x4 n4 c4):=fun A=>hcell _ _ _ A (by rw[Lib.cell_of_heap h2];rfl)
 have z5:∀A,(w.alloc A).cell? ⟨b2,4,none⟩=some (.slice x5 n5 c5):=fun A=>hcell _ _ _ A (by rw[Lib.cell_of_heap h2];rfl)
 have z6:∀A,(w.alloc A).cell? ⟨b2,5,none⟩=some (.slice x6 n6 c6):=fun A=>hcell _ _ _ A (by rw[Lib.cell_of_heap h2];rfl)
 refine callsD_of_wpS Tryz.func106 rfl fun c₀ cs hu=>?_
 apply wpS_seq
 apply wpS_region
 simp[wpOpsS,go_sem,recoverD,hu,Tryz.ntmps106,Exit.thenS]
 refine wpS_of_wp ?_
 go_wp2
 go_region_o
 all_goals exact⟨rfl,_,rfl,.tuple #[],by simp[results,Tryz.results106],rfl,rfl,rfl⟩
theorem tW{w:World}{bo:Nat}{s:ByteArray}{x1 x2 x3 x4 x5 x6:Option Addr}{n1 n2 n3 n4 n5 n6 c1 c2 c3 c4 c5 c6:Nat}{el:TypeId}(hb:w.heap[bo]? = some (.cells #[.slice x1 n1 c1,.slice x2 n2 c2,.slice x3 n3 c3,.slice x4 n4 c4,.slice x5 n5 c5,.slice x6 n6 c6] el (0,0)))
  {X:World→Prop} (hc:Calls Tryz.prog 107 #[.pointer (some ⟨bo,0,none⟩),.string s] (((w.alloc (.cells #[.pointer (some ⟨bo,0,none⟩)] 84)).alloc (.cells #[.int .i64 0] 33)).alloc (.cells #[.slice x1 n1 c1,.slice x2 n2 c2,.slice x3 n3 c3,.slice x4 n4 c4,.slice x5 n5 c5,.slice x6 n6 c6] 31)) fun e w'=>e=.returned (.tuple #[])∧w'.heap[w.heap.size+1]? = some (.cells #[.int .i64 0] 33 (0,0))∧X w') :
  Calls Tryz.prog 62 #[.pointer (some ⟨bo,0,none⟩),.string s] w fun e w''=>e=.returned (.int .i64 0)∧∃w',X w'∧w''=w'.setCell ⟨w.heap.size+1,0,none⟩ (.int .i64 0):=by
 have hmf:∀(fn:Fn) (first cap:Array Value) (w:World),(Instr.makeFunc fn first cap).run Tryz.prog w=.ok (.func fn first cap) w:=fun _ _ _ _=>rfl
 have hlt:bo<w.heap.size:=aK hb
 have k:∀(i:Nat) (v:Value) (A B:Obj),w.cell? ⟨bo,i,none⟩=some v→((w.alloc A).alloc B).cell? ⟨bo,i,none⟩=some v:=fun i v A B h=>by
  rw[World.cell?_alloc_past _ _ _ (by simp;omega),World.cell?_alloc_past _ _ _ hlt];exact h
 have hz:∀i,w.cell? ⟨bo,i,none⟩=(#[Value.slice x1 n1 c1,.slice x2 n2 c2,.slice x3 n3 c3,.slice x4 n4 c4,.slice x5 n5 c5,.slice x6 n6 c6]:Array Value)[i]?:=fun i=>by rw[Lib.cell_of_heap hb]
 have g1:∀A B,((w.alloc A).alloc B).cell? ⟨bo,0,none⟩=some (.slice x1 n1 c1):=fun A B=>k 0 _ A B (hz 0)
 have g2:∀A B,((w.alloc A).alloc B).cell? ⟨bo,1,none⟩=some (.slice x2 n2 c2):=fun A B=>k 1 _ A B (hz 1)
 have g3:∀A B,((w.alloc A).alloc B).cell? ⟨bo,2,none⟩=some (.slice x3 n3 c3):=fun A B=>k 2 _ A B (hz 2)
 have g4:∀A B,((w.alloc A).alloc B).cell? ⟨bo,3,none⟩=some (.slice x4 n4 c4):=fun A B=>k 3 _ A B (hz 3)
 have g5:∀A B,((w.alloc A).alloc B).cell? ⟨bo,4,none⟩=some (.slice x5 n5 c5):=fun A B=>k 4 _ A B (hz 4)
 have g6:∀A B,((w.alloc A).alloc B).cell? ⟨bo,5,none⟩=some (.slice x6 n6 c6):=fun A B=>k 5 _ A B (hz 5)
 clear k hz
 go_enter_defers Tryz.func62,Tryz.ntmps62
 go_wp2_with (go_at_call 107;refine hc.mono ?_;rintro e w1 ⟨rfl,hr,hX⟩;have r0:w1.cell? ⟨w.heap.size+1,0,none⟩=some (.int .i64 0):=(by rw[Lib.cell_of_heap hr];rfl);have f0:w1.frozen? ⟨w.heap.size+1,0,none⟩=false:=Lib.frozen_of_heap hr 0)
 refine leaves_cons (f:=106) (args:=#[.pointer (some ⟨w.heap.size+1+1,0,none⟩),.pointer (some ⟨w.heap.size,0,none⟩),.pointer (some ⟨w.heap.size+1,0,none⟩)]) (by simp) (by simp[go_sem]) ?_
 refine(rW _ _ _ _).mono ?_
 rintro e u' w'' ⟨rfl,rfl,rfl⟩
 have r1:(w1.setCell ⟨w.heap.size+1,0,none⟩ (.int .i64 0)).cell? ⟨w.heap.size+1,0,none⟩=some (.int .i64 0):=World.cell?_setCell_same _ _ _ (by rw[r0])
 simp[Leaves,settle,results,Tryz.results62,go_sem,r1]
 exact⟨w1,hX,rfl⟩
theorem gt{w:World}{b i:Nat}{arr:Array Value}{el:TypeId}{fr:Nat×Nat}(v:Value)(h:w.heap[b]? = some (.cells arr el fr)) :
  (w.setCell ⟨b,i,none⟩ v).heap[b]? = some (.cells (arr.setIfInBounds i v) el fr):=by
 simp[World.setCell,Array.getElem?_modify,h]
theorem wG(w:World)(bo:Nat)(v1 v2 v3 v4 v5 v6 y1 y2 y3 y4 y5 y6:Value)(el:TypeId)(hb:w.heap[bo]? = some (.cells #[y1,y2,y3,y4,y5,y6] el (0,0))){W:World}
  (hW:((((((w.setCell ⟨bo,0,none⟩ v1).setCell ⟨bo,1,none⟩ v2).setCell ⟨bo,2,none⟩ v3).setCell ⟨bo,3,none⟩ v4).setCell ⟨bo,4,none⟩ v5).setCell ⟨bo,5,none⟩ v6)=W) :
  W.heap[bo]? = some (.cells #[v1,v2,v3,v4,v5,v6] el (0,0))∧(∀q,q≠bo→W.heap[q]? = w.heap[q]?)∧W.heap.size=w.heap.size∧W.os=w.os∧W.tape=w.tape∧W.output=w.output:=by
 subst hW
 refine⟨?_,fun q hq=>?_,by simp only[World.setCell,Array.size_modify],by simp only[World.setCell],by simp only[World.setCell],by simp only[World.setCell]⟩
 ·exact(gt v6 (gt v5 (gt v4 (gt v3 (gt v2 (gt v1 hb)))))).trans (by simp only[List.setIfInBounds_toArray,List.set_cons_zero,List.set_cons_succ])
 ·iterate 6 rw[Below.heap_setCell _ _ _ _ hq]
set_option maxHeartbeats 8000000 in
theorem tX{w:World}{bo:Nat}{s:ByteArray}{er:Int}{x1 x2 x3 x4 x5 x6:Option Addr}{n1 n2 n3 n4 n5 n6 c1 c2 c3 c4 c5 c6:Nat}{el:TypeId}(hb:w.heap[bo]? = some (.cells #[.slice x1 n1 c1,.slice x2 n2 c2,.slice x3 n3 c3,.slice x4 n4 c4,.slice x5 n5 c5,.slice x6 n6 c6] el (0,0)))
  {X:World→Prop} (hc:Calls Tryz.prog 107 #[.pointer (some ⟨bo,0,none⟩),.string s] (((w.alloc (.cells #[.pointer (some ⟨bo,0,none⟩)] 84)).alloc (.cells #[.int .i64 0] 33)).alloc (.cells #[.slice x1 n1 c1,.slice x2 n2 c2,.slice x3 n3 c3,.slice x4 n4 c4,.slice x5 n5 c5,.slice x6 n6 c6] 31)) fun e w'=>e=.panicked [{v:=.iface 211 (.agg #[.int .i64 er]),recovered:=false}]∧w'.heap[w.heap.size]? = some (.cells #[.pointer (some ⟨bo,0,none⟩)] 84 (0,0))∧w'.heap[w.heap.size+1]? = some (.cells #[.int .i64 0] 33 (0,0)) ∧
   w'.heap[w.heap.size+1+1]? = some (.cells #[.slice x1 n1 c1,.slice x2 n2 c2,.slice x3 n3 c3,.slice x4 n4 c4,.slice x5 n5 c5,.slice x6 n6 c6] 31 (0,0))∧(∃y1 y2 y3 y4 y5 y6 el',w'.heap[bo]? = some (.cells #[y1,y2,y3,y4,y5,y6] el' (0,0)))∧X w') :
  Calls Tryz.prog 62 #[.pointer (some ⟨bo,0,none⟩),.string s] w fun e w''=>e=.returned (.int .i64 er)∧∃w',X w'∧w''=((((((((w'.setCell ⟨bo,0,none⟩ (.slice x1 n1 c1)).setCell ⟨bo,1,none⟩ (.slice x2 n2 c2)).setCell ⟨bo,2,none⟩ (.slice x3 n3 c3)).setCell ⟨bo,3,none⟩ (.slice x4 n4 c4)).setCell ⟨bo,4,none⟩ (.slice x5 n5 c5)).setCell ⟨bo,5,none⟩ (.slice x6 n6 c6)).setCell ⟨w.heap.size+1,0,none⟩ (.int .i64 er)).alloc (.cells #[.int .i64 er] 211)).drew:=by
 have hmf:∀(fn:Fn) (first cap:Array Value) (w:World),(Instr.makeFunc fn first cap).run Tryz.prog w=.ok (.func fn first cap) w:=fun _ _ _ _=>rfl
 have hlt:bo<w.heap.size:=aK hb
 have k:∀(i:Nat) (v:Value) (A B:Obj),w.cell? ⟨bo,i,none⟩=some v→((w.alloc A).alloc B).cell? ⟨bo,i,none⟩=some v:=fun i v A B h=>by
  rw[World.cell?_alloc_past _ _ _ (by simp;omega),World.cell?_alloc_past _ _ _ hlt];exact h
 have hz:∀i,w.cell? ⟨bo,i,none⟩=(#[Value.slice x1 n1 c1,.slice x2 n2 c2,.slice x3 n3 c3,.slice x4 n4 c4,.slice x5 n5 c5,.slice x6 n6 c6]:Array Value)[i]?:=fun i=>by rw[Lib.cell_of_heap hb]
 have g1:∀A B,((w.alloc A).alloc B).cell? ⟨bo,0,none⟩=some (.slice x1 n1 c1):=fun A B=>k 0 _ A B (hz 0)
 have g2:∀A B,((w.alloc A).alloc B).cell? ⟨bo,1,none⟩=some (.slice x2 n2 c2):=fun A B=>k 1 _ A B (hz 1)
 have g3:∀A B,((w.alloc A).alloc B).cell? ⟨bo,2,none⟩=some (.slice x3 n3 c3):=fun A B=>k 2 _ A B (hz 2)
 have g4:∀A B,((w.alloc A).alloc B).cell? ⟨bo,3,none⟩=some (.slice x4 n4 c4):=fun A B=>k 3 _ A B (hz 3)
 have g5:∀A B,((w.alloc A).alloc B).cell? ⟨bo,4,none⟩=some (.slice x5 n5 c5):=fun A B=>k 4 _ A B (hz 4)
 have g6:∀A B,((w.alloc A).alloc B).cell? ⟨bo,5,none⟩=some (.slice x6 n6 c6):=fun A B=>k 5 _ A B (hz 5)
 clear k hz
 go_enter_defers Tryz.func62,Tryz.ntmps62
 go_wp2_with (go_at_call 107;refine hc.mono ?_;rintro e w1 ⟨rfl,q0,q1,q2,⟨y1,y2,y3,y4,y5,y6,el',q3⟩,hX⟩)
 refine leaves_cons (f:=106) (args:=#[.pointer (some ⟨w.heap.size+1+1,0,none⟩),.pointer (some ⟨w.heap.size,0,none⟩),.pointer (some ⟨w.heap.size+1,0,none⟩)]) (by simp) (by simp[go_sem]) ?_
 refine(tV w.heap.size (w.heap.size+1) (w.heap.size+1+1) bo er x1 x2 x3 x4 x5 x6 n1 n2 n3 n4 n5 n6 c1 c2 c3 c4 c5 c6 y1 y2 y3 y4 y5 y6 el' w1 (by rw[Lib.cell_of_heap q0];rfl) q1 q2 q3 (by omega) (by omega) (by omega) (by omega) (by omega) (by omega)).mono ?_
 rintro e u' w'' ⟨rfl,rfl,rfl⟩
 generalize hW6:((((((w1.setCell ⟨bo,0,none⟩ (.slice x1 n1 c1)).setCell ⟨bo,1,none⟩ (.slice x2 n2 c2)).setCell ⟨bo,2,none⟩ (.slice x3 n3 c3)).setCell ⟨bo,3,none⟩ (.slice x4 n4 c4)).setCell ⟨bo,4,none⟩ (.slice x5 n5 c5)).setCell ⟨bo,5,none⟩ (.slice x6 n6 c6))=W6
 obtain⟨_,k1,k2,_,_,_⟩:=wG w1 bo _ _ _ _ _ _ y1 y2 y3 y4 y5 y6 el' q3 hW6
 have q1':=(k1 (w.heap.size+1) (by omega)).trans q1
 have hs1:=aK q1'
 have r1:((W6.setCell ⟨w.heap.size+1,0,none⟩ (.int .i64 er)).alloc (.cells #[.int .i64 er] 211)).cell? ⟨w.heap.size+1,0,none⟩=some (.int .i64 er):=by
  rw[World.cell?_alloc_past _ _ _ (by simpa [World.setCell]using hs1)]
  exact World.cell?_setCell_same _ _ _ (show W6.cell? ⟨w.heap.size+1,0,none⟩=some (.int .i64 0) by rw[Lib.cell_of_heap q1'];rfl)
 simp[Leaves,settle,results,Tryz.results62,go_sem,r1]
 exact⟨w1,hX,by rw[hW6]⟩
