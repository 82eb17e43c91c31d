/-
  Walks: what the typed functions compute, the program’s functions return.
-/
import Derived.Test.YtdodahpkpeodfaaGreatDoorWe
import Derived.Test.YtdodahpkpeodfaaGreatDoorVa
import Derived.Test.YtdodahpkpeodfaaGreatDoorVb
namespace Go.Proofs.YtdodahpkpeodfaaGreatDoor
open Go Go.Abs Go.Kp
set_option maxRecDepth 100000
set_option maxHeartbeats 8000000
set_option linter.all false
theorem zY{N:Nat}(hN:N≤1073741824){c1:Int}{c2:Int}{c3:Int}{c4:List LadderResult}{c5:List LadderPair}{m1:List (Int×LadderResult)}{l1:List (Ar2 Int)}{bo1:Nat}{bo2:Nat}{bo3:Nat}{ho1:Value}{r:(List LadderMatch)}(h:yI N c1 c2 c3 c4 c5 m1 l1=some r) :
    ACalls Tryz.prog 298 [.nils 5,.fn (.func 299) [] [.ptr 3430001 bo1 0]] [(3430001,.cells bo1 [.ptr 505040 bo2 0]),(505040,.cells bo2 (cD c1 c2 c3 c4 c5 505038 bo3 1735055 ho1)),(505038,.map bo3 (List.map eMR m1)),(1735055,.arr ho1 162 2 false (List.map eA2 l1))] fun ae os=>∃y:Unit,True∧ae=.ret (.d (.list 5 (List.map LadderMatch.enc r)))∧os=[(3430001,.cells bo1 [.ptr 505040 bo2 0]),(505040,.cells bo2 (cD c1 c2 c3 c4 c5 505038 bo3 1735055 ho1)),(505038,.map bo3 (List.map eMR m1)),(1735055,.arr ho1 162 2 false (List.map eA2 l1))]:=by
  refine aJ (fresh:=false) al ap ⟨[],[],[],[],[1001],3440000,[]⟩ Tryz.func298 rfl Tryz.call298 rfl ?_
  unfold yI at h
  repeat' ((conv=>whnf)<;>first|refine u (k:=?_)|exact v|refine EU (eK:=(fun x:Int=>I x)) (eV:=(fun x:LadderResult=>.agg [I x.fMatch,.list 1 (List.map I x.fGames),.bool x.fProtested])) (fun _=>rfl) ?_|refine aap LadderMatch.enc _ [(LadderMatch.mk _ _ _ _ _)] hN rfl rfl ‹_› (by decide) ?_|refine IterG.mk _ _ ⟨[],[],[],[],[3,4,1002],2000,[]⟩ Tryz.func299 rfl Tryz.call299 rfl rfl ?_|refine Both.mk ?_ ?_|refine alk (eK:=(fun x:Int=>I x)) (eV:=(fun x:LadderResult=>.agg [I x.fMatch,.list 1 (List.map I x.fGames),.bool x.fProtested])) jg 0 ((LadderResult.mk 0 ([]) false)) rfl rfl ‹_› ?_|refine alk (eK:=(fun x:Int=>I x)) (eV:=(fun x:LadderResult=>.agg [I x.fMatch,.list 1 (List.map I x.fGames),.bool x.fProtested])) jg _ ((LadderResult.mk 0 ([]) false)) rfl rfl ‹_› ?_|apply sq 1001 h [2] [3430001,505040,505038,1735055] [.c 3440002 0] [] (_:Nat) (fun p x y=>[]) (fun p x y=>[(3440002,.cells p [.sl 3440011 (y.v 0)]),(3440011,.arr (y.v 0) 362 5 false (List.map LadderMatch.enc x))]) ?_ ?_|apply lp 1 h [0,1,9] [3430001,1735055,1000,505040,505038] [.c 3440002 0] [] (_:Nat) (fun p y=>[(10,.d (I y.x.1)),(11,.d (I y.x.2.1))]) (fun p y=>[(3440002,.cells p [.sl 3440011 (y.y.v 0)]),(3440011,.arr (y.y.v 0) 362 5 false (List.map LadderMatch.enc y.x.2.2))]) ?_ ?_|apply sq 1002 h [0,1,9,10,11] [3430001,1735055,1000,505040,505038] [.c 3440002 0] [] (_:Nat) (fun p x y=>[]) (fun p x y=>[(3440002,.cells p [.sl 3440011 (y.v 0)]),(3440011,.arr (y.v 0) 362 5 false (List.map LadderMatch.enc x))]) ?_ ?_|refine sq 3 h [0,1,3,4,9,10,11] [3430001,2004,1735055,3440002,1000,505040,3440011,505038] [] [] () (fun p x y=>[(29,.d (.bool x))]) (fun p x y=>[]) ?_ ?_|refine co (ym hN am) ?_|refine sq 4 h [0,1,3,4,9,10,11] [3430001,2004,1735055,3440002,1000,505040,3440011,505038] [] [.t 5] () (fun p x y=>[(5,.ptr 2005 (y.b 0) 0)]) (fun p x y=>[(2005,.cells (y.b 0) [.d (I x.a0),.d (I x.a1)])]) ?_ ?_|refine dr 0 30 (tkA 7 0 (.alt 7 [4,3,2,1,0] (.take 8 (.alt 9 [4,3,2] (.alt 10 [4,3,2] (.alt 11 [] .done .nil) .nil) (.alt 10 [8,4,3,2,1,0] (.alt 9 [4,3,2] (.alt 11 [] .done .nil) .nil) .nil))) (.alt 10 [6,5,4,3,2,1,0] (.alt 7 [4,3,2,1,0] (.take 8 (.alt 9 [4,3,2] (.alt 11 [] .done .nil) .nil)) .nil) .nil))) rfl (by kernel_rfl) ?_|refine co (yj hN am) ?_|(rw[rc]at h;delta w64 at h)|intro _|refine Br.mk (fun _=>?_) fun _=>?_|refine TyG.mk fun _ h=>?_|(refine hs h ?_;intro _ _ h)|fail)
theorem Au{N:Nat}(hN:N≤1073741824){c1:Int}{c2:Int}{c3:Int}{c4:List LadderResult}{c5:List LadderPair}{m1:List (Int×LadderResult)}{l1:List (Ar2 Int)}{bo1:Nat}{bo2:Nat}{bo3:Nat}{ho1:Value}{r:(List LadderMatch)}(h:yG N c1 c2 c3 c4 c5 m1 l1=some r) :
    ACalls Tryz.prog 284 [.fn (.func 299) [] [.ptr 3430001 bo1 0]] [(3430001,.cells bo1 [.ptr 505040 bo2 0]),(505040,.cells bo2 (cD c1 c2 c3 c4 c5 505038 bo3 1735055 ho1)),(505038,.map bo3 (List.map eMR m1)),(1735055,.arr ho1 162 2 false (List.map eA2 l1))] fun ae os=>∃y:Unit,True∧ae=.ret (.d (.list 5 (List.map LadderMatch.enc r)))∧os=[(3430001,.cells bo1 [.ptr 505040 bo2 0]),(505040,.cells bo2 (cD c1 c2 c3 c4 c5 505038 bo3 1735055 ho1)),(505038,.map bo3 (List.map eMR m1)),(1735055,.arr ho1 162 2 false (List.map eA2 l1))]:=by
  refine aJ (fresh:=false) al ap ⟨[],[],[4],[],[],3440000,[]⟩ Tryz.func284 rfl Tryz.call284 rfl ?_
  unfold yG at h
  repeat' ((conv=>whnf)<;>first|refine u (k:=?_)|exact v|refine co (zY hN am) ?_|intro _|refine Br.mk (fun _=>?_) fun _=>?_|(refine hs h ?_;intro _ _ h)|fail)
theorem Bi{N:Nat}(hN:N≤1073741824){c1:LadderCup}{r:(List LadderMatch)×Int}(h:yh N c1=some r) :
    ACalls Tryz.prog 255 [.d (.agg [.int .u8 c1.fForm,I c1.fPlayers,I c1.fGames,.list 3 (List.map LadderResult.enc c1.fResults)])] [] fun e os=>e=.ret (.d (.tup [.list 5 (List.map LadderMatch.enc r.1),I r.2]))∧os=[]:=by
  refine ah (fresh:=false) al ap ⟨[1],[],[],[],[],0,[]⟩ Tryz.func255 rfl Tryz.call255 rfl ?_
  unfold yh at h
  repeat' ((conv=>whnf)<;>first|refine u (k:=?_)|exact v|refine co (oe hN am) ?_|refine co (Ad hN am) ?_|refine co (Au hN am) ?_|intro _|refine Br.mk (fun _=>?_) fun _=>?_|(refine hs h ?_;intro _ _ h)|(refine np ?_;cases ‹_⊕_›)|fail)
theorem zT{N:Nat}(hN:N≤1073741824) {r:Unit}(h:zm N=some r) :
    ACalls Tryz.prog 258 [.nils 3] [] fun e os=>e=.ret (.nils 3)∧os=[]:=by
  refine ah (fresh:=true) al ap ⟨[],[],[],[],[],0,[]⟩ Tryz.func258 rfl Tryz.call258 rfl ?_
  unfold zm at h
  repeat' ((conv=>whnf)<;>first|refine u (k:=?_)|exact v|intro _|refine Br.mk (fun _=>?_) fun _=>?_|(refine hs h ?_;intro _ _ h)|fail)
theorem zU{N:Nat}(hN:N≤1073741824){s1:List LadderResult}{r:(List LadderResult)}(h:yp N s1=some r) :
    ACalls Tryz.prog 258 [.nn 3 (List.map LadderResult.enc s1)] [] fun e os=>∃hd,e=.ret (.sl 0 hd)∧os=[(0,.arr hd 97 3 false (List.map LadderResult.enc r))]:=by
  refine gk al ap ⟨[],[],[],[],[],0,[]⟩ Tryz.func258 rfl Tryz.call258 rfl ?_
  unfold yp at h
  repeat' ((conv=>whnf)<;>first|refine u (k:=?_)|exact v|refine aap LadderResult.enc [] _ hN rfl rfl ‹_› (by decide) ?_|intro _|refine Br.mk (fun _=>?_) fun _=>?_|(refine hs h ?_;intro _ _ h)|fail)
theorem yV{N:Nat}(hN:N≤1073741824){l:List LadderResult}{r:(List LadderResult)}(h:yk N l=some r) :
    ACalls Tryz.prog 258 [.d (.list 3 (List.map LadderResult.enc l))] [] fun e os=>∃hd,e=.ret (.sl 0 hd)∧os=[(0,.arr hd 97 3 false (List.map LadderResult.enc r))]:=by
  unfold yk at h
  refine ACalls.nils_or (fun e=>?_) (zU hN h)
  have e2:=List.map_eq_nil_iff.1 e
  subst e2
  have e3:r=[]:=by simpa [yp,app]using h.symm
  subst e3
  exact ACalls.nil_own (zT hN (r:=()) rfl)
theorem AY{N:Nat}(hN:N≤1073741824){l1:List LadderResult}{x1:LadderResult}{r:(List LadderResult)}(h:yY N l1 x1=some r) :
    ACalls Tryz.prog 256 [.d (.list 3 (List.map LadderResult.enc l1)),.d (.agg [I x1.fMatch,.list 1 (List.map I x1.fGames),.bool x1.fProtested])] [] fun e os=>e=.ret (.d (.list 3 (List.map LadderResult.enc r)))∧os=[]:=by
  refine ah (fresh:=false) al ap ⟨[3],[],[],[],[1],0,[]⟩ Tryz.func256 rfl Tryz.call256 rfl ?_
  unfold yY at h
  repeat' ((conv=>whnf)<;>first|refine u (k:=?_)|exact v|refine aap LadderResult.enc _ [_] hN rfl rfl ‹_› (by decide) ?_|refine Both.mk ?_ ?_|refine sq 1 h [] [] [.t 4] [] () (fun p x y=>[(4,.sl 6 (y.v 0))]) (fun p x y=>[(6,.arr (y.v 0) 97 3 false (List.map LadderResult.enc x))]) ?_ ?_|refine dr 0 5 (.take 0 (.take 2 (.alt 1 [2] (.alt 3 [] (.alt 4 [] (.take 5 .done) .nil) .nil) (.alt 3 [0] (.alt 1 [] (.alt 4 [] (.take 5 .done) .nil) .nil) .nil)))) rfl (by kernel_rfl) ?_|refine cf 6 6 (yV hN am) ?_|intro _|refine Br.mk (fun _=>?_) fun _=>?_|refine TyG.mk fun _ h=>?_|(refine hs h ?_;intro _ _ h)|fail)
def Ay (bo1:Nat):(DeskRefusal×DeskWork)⊕DeskWork→AE→List (Nat×Ob)→Prop
  | .inl r=>fun ae os=>∃y:Unit,True∧ae=.pan (.ifc 211 (.agg [I r.1.fE]))∧os=[(390003,.cells bo1 (cW r.2))]
  | .inr r=>fun ae os=>∃y:Unit,True∧ae=.ret (.d (.tup []))∧os=[(390003,.cells bo1 (cW r))]
theorem zF{N:Nat}(hN:N≤1073741824){n1:List Int}{c1:DeskWork}{bo1:Nat}{r:(DeskRefusal×DeskWork)⊕DeskWork}(h:yR N n1 c1=some r) :
    ACalls Tryz.prog 211 [.ptr 390003 bo1 0,.d (.list 1 (List.map I n1))] [(390003,.cells bo1 (cW c1))] (Ay bo1 r):=by
  refine bt (fresh:=false) al ap ⟨[],[],[],[],[2],400000,[]⟩ Tryz.func211 rfl Tryz.call211 rfl ?_
  unfold yR at h
  repeat' ((conv=>whnf)<;>first|refine u (k:=?_)|exact v|refine Side.mk (by kernel_rfl) ?_|refine co (qh hN am) ?_|refine cp (Bi hN am) ?_|refine cq (aI hN am) ?_|refine co (aI hN am) ?_|apply st 2 (F:=C7 (yw N n1 c1 _)) r [0,1,4] [390003] [] [] () (fun p y=>[]) (fun p y=>[]) ?_ ?_|refine dr 0 16 (tkA 9 0 (.spl 24 (tkA 9 9 (.alt 18 [16,15,14,13,12,11,10,9,7,6,5,4,3,2,1,0] .done .nil)))) rfl (by kernel_rfl) ?_|refine dr 0 35 (tkA 13 0 (.alt 13 [11,10,9,8,7,6,5,4,3,2,1,0] (.alt 14 [11,10,8,7,6,5,4,3,2,1,0] (.alt 15 [11,10,8,7,6,4,3,2,1,0] (tkA 3 16 (.alt 19 [17,16] .done .nil)) .nil) .nil) .nil)) rfl (by kernel_rfl) ?_|refine cp (AY (x1:=(LadderResult.mk _ _ false)) hN am) ?_|unfold yw at h|intro _|refine Br.mk (fun _=>?_) fun _=>?_|refine TyG.mk fun _ h=>?_|(refine hs h ?_;intro _ _ h)|(refine np ?_;cases ‹_⊕_›)|fail)
theorem Ae{N:Nat}(hN:N≤1073741824){r1:LadderResult}{a1:List Int}{r:Bool}(h:yB N r1 a1=some r) :
    ACalls Tryz.prog 257 [.d (.agg [I r1.fMatch,.list 1 (List.map I r1.fGames),.bool r1.fProtested]),.d (.ref (.agg [.list 1 (List.map I a1)]))] [] fun e os=>e=.ret (.d (.bool r))∧os=[]:=by
  refine ah (fresh:=false) al ap ⟨[2],[],[],[],[],0,[]⟩ Tryz.func257 rfl Tryz.call257 rfl ?_
  unfold yB at h
  repeat' ((conv=>whnf)<;>first|refine u (k:=?_)|exact v|refine dr 0 4 (tkA 7 0 .done) rfl (by kernel_rfl) ?_|intro _|refine Br.mk (fun _=>?_) fun _=>?_|(refine hs h ?_;intro _ _ h)|fail)
theorem jO{N:Nat}(hN:N≤1073741824){s1:List LadderResult}{f1:List Int}{r:Int}(h:dE N s1 f1=some r) :
    ACalls Tryz.prog 230 [.d (.list 3 (List.map LadderResult.enc s1)),.d (.fn (.func 257) [] [.ref (.agg [.list 1 (List.map I f1)])])] [] fun e os=>e=.ret (.d (I r))∧os=[]:=by
  refine ah (fresh:=false) al ap ⟨[],[],[],[],[1001],0,[]⟩ Tryz.func230 rfl Tryz.call230 rfl ?_
  unfold dE at h
  repeat' ((conv=>whnf)<;>first|refine u (k:=?_)|exact v|refine st0 1001 (F:=C7 (yr N)) r [] (fun y=>[]) ?_ ?_|refine lp0 2 h [0,1] (fun y=>[(7,.d (I y.x.1)),(8,.d (I y.x.2))]) ?_ ?_|refine cp (Ae hN am) ?_|(rw[xU]at h;delta w64 at h)|unfold yr at h|intro _|refine Br.mk (fun _=>?_) fun _=>?_|refine TyG.mk fun _ h=>?_|(refine hs h ?_;intro _ _ h)|fail)
def Av (bo1:Nat):(DeskRefusal×DeskWork)⊕DeskWork→AE→List (Nat×Ob)→Prop
  | .inl r=>fun ae os=>∃y:Unit,True∧ae=.pan (.ifc 211 (.agg [I r.1.fE]))∧os=[(390003,.cells bo1 (cW r.2))]
  | .inr r=>fun ae os=>∃y:Unit,True∧ae=.ret (.d (.tup []))∧os=[(390003,.cells bo1 (cW r))]
theorem zA{N:Nat}(hN:N≤1073741824){n1:List Int}{c1:DeskWork}{bo1:Nat}{r:(DeskRefusal×DeskWork)⊕DeskWork}(h:yH N n1 c1=some r) :
    ACalls Tryz.prog 212 [.ptr 390003 bo1 0,.d (.list 1 (List.map I n1))] [(390003,.cells bo1 (cW c1))] (Av bo1 r):=by
  refine bt (fresh:=false) al ap ⟨[3],[],[100390003],[],[],400000,[]⟩ Tryz.func212 rfl Tryz.call212 rfl ?_
  unfold yH at h
  repeat' ((conv=>whnf)<;>first|refine u (k:=?_)|exact v|refine ast (LadderResult.mk _ _ true) rfl ?_|refine cp (jO hN am) ?_|refine cq (aI hN am) ?_|refine co (aI hN am) ?_|refine cf 32 400032 (yV hN am) ?_|intro _|refine Br.mk (fun _=>?_) fun _=>?_|(refine hs h ?_;intro _ _ h)|(refine np ?_;cases ‹_⊕_›)|fail)
def oH (bo1:Nat):(DeskRefusal×DeskWork)⊕DeskWork→AE→List (Nat×Ob)→Prop
  | .inl r=>fun ae os=>∃y:Unit,True∧ae=.pan (.ifc 211 (.agg [I r.1.fE]))∧os=[(390003,.cells bo1 (cW r.2))]
  | .inr r=>fun ae os=>∃y:Unit,True∧ae=.ret (.d (.tup []))∧os=[(390003,.cells bo1 (cW r))]
theorem kc{N:Nat}(hN:N≤1073741824){s1:List UInt8}{c1:DeskWork}{bo1:Nat}{r:(DeskRefusal×DeskWork)⊕DeskWork}(h:iS N s1 c1=some r) :
    ACalls Tryz.prog 107 [.ptr 390003 bo1 0,.d (.str s1)] [(390003,.cells bo1 (cW c1))] (oH bo1 r):=by
  refine bt (fresh:=false) al ap ⟨[],[],[],[],[1,2,1004],400000,[]⟩ Tryz.func107 rfl Tryz.call107 rfl ?_
  unfold iS at h
  delta w64 at h
  repeat' ((refine np ?_;conv=>whnf)<;>first|refine u (k:=?_)|exact v|refine EU (eK:=(fun x:List UInt8=>.str x)) (eV:=(fun x:DeskAct=>.agg [I x.fMany,Cx x.fDo])) (fun _=>rfl) ?_|(refine itx h (fun hc h=>?_) fun hc h=>?_)|refine Both.mk ?_ ?_|refine alk (eK:=(fun x:List UInt8=>.str x)) (eV:=(fun x:DeskAct=>.agg [I x.fMany,Cx x.fDo])) cM _ ((DeskAct.mk 0 (-1))) rfl rfl ‹_› ?_|refine cp (xm hN am) ?_|refine sq 1 h [0,4] [390003] [] [.t 5] () (fun p x y=>[(5,.ptr 400005 (y.b 0) 0),(6,.d (.bool x.1))]) (fun p x y=>[(400005,.cells (y.b 0) [.d (I x.2.fMany),.d (Cx x.2.fDo)])]) ?_ ?_|refine dr 0 13 (tkA 3 1 (.alt 0 [3,2,1] (.alt 4 [2,1] (tkA 3 5 (.alt 8 [7,6,5,2,1] (.alt 9 [7] (.take 10 .done) .nil) .nil)) (.alt 8 [3,2,1] (.alt 4 [2,1] (tkA 3 5 (.alt 9 [7] (.take 10 .done) .nil)) .nil) .nil)) (.alt 8 [3,2,1] (.alt 0 [3,2,1] (.alt 4 [2,1] (tkA 3 5 (.alt 9 [7] (.take 10 .done) .nil)) .nil) .nil) .nil))) rfl (by kernel_rfl) ?_|refine co (pj hN am) ?_|apply st 2 (F:=C7 (dQ N c1 _ _)) r [0,4,5] [390003,400005] [] [] () (fun p y=>[]) (fun p y=>[]) ?_ ?_|refine cq (aI hN am) ?_|refine co (aI hN am) ?_|apply st 1004 (F:=GR (fV N c1 _)) r [0,5] [390003,400005] [.t 7] [] () (fun p y=>[(7,.sl 400041 (y.y.v 0))]) (fun p y=>[(400041,.arr (y.y.v 0) 3 1 false (List.map I y.x))]) ?_ ?_|refine lp 5 h [0,5,31] [390003,400005] [.t 7] [] () (fun p y=>[(7,.sl 400041 (y.y.v 0)),(32,.d (I y.x.1)),(33,.d (I y.x.2.1))]) (fun p y=>[(400041,.arr (y.y.v 0) 3 1 false (List.map I y.x.2.2))]) ?_ ?_|refine co (mr hN am) ?_|refine cq (mr hN am) ?_|refine cq (jm hN am) ?_|refine co (jm hN am) ?_|refine cq (ka hN am) ?_|refine co (ka hN am) ?_|refine cq (DN hN am) ?_|refine co (DN hN am) ?_|refine cq (zE hN am) ?_|refine co (zE hN am) ?_|refine cq (jL hN am) ?_|refine co (jL hN am) ?_|refine cq (zy hN am) ?_|refine co (zy hN am) ?_|refine cq (zt hN am) ?_|refine co (zt hN am) ?_|refine cq (zF hN am) ?_|refine co (zF hN am) ?_|refine cq (zA hN am) ?_|refine co (zA hN am) ?_|unfold dQ at h|(rw[cN]at h;delta w64 at h)|unfold fV at h|intro _|refine Br.mk (fun _=>?_) fun _=>?_|refine TyG.mk fun _ h=>?_|(refine hs h ?_;intro _ _ h)|(cases ‹_⊕_›)|(refine itd h (fun hc h=>?_) fun hc h=>?_;rw[of_decide_eq_true hc])|fail)
theorem oI{N:Nat}(hN:N≤1073741824){s1:List UInt8}{c1:DeskWork}{bo1:Nat}{r:Int×DeskWork}(h:iT N s1 c1=some r) :
    ACalls Tryz.prog 62 [.ptr 390003 bo1 0,.d (.str s1)] [(390003,.cells bo1 (cW c1))] (fun ae os=>∃y:Unit,True∧ae=.ret (.d (I r.1))∧os=[(390003,.cells bo1 (cW r.2))]):=by
  unfold iT at h
  split at h
  · cases h
  · rename_i e;cases h;exact vj (kc hN e)
  · rename_i e;cases h;exact vh (kc hN e)
theorem i7{N:Nat}(hN:N≤1073741824){lines1:List (List UInt8)}{r:(List Int)×DeskWork}(h:gn N lines1=some r) :
    ACalls Tryz.prog 35 [.d (.list 1 (List.map D.str lines1))] [] fun ae os=>∃y:Nat,True∧ae=.ret (.tup [.ptr 390003 y 0,.d (.list 1 (List.map I r.1))])∧os=[(390003,.cells y (cW r.2))]:=by
  refine aJ (fresh:=false) al ap ⟨[],[],[],[],[1003],180000,[]⟩ Tryz.func35 rfl Tryz.call35 rfl ?_
  unfold gn at h
  repeat' ((conv=>whnf)<;>first|refine u (k:=?_)|exact v|refine co (sg hN am) ?_|apply sq 1003 h [4] [] [.t 5] [] (_:Nat) (fun p x y=>[(5,.sl 180020 (y.v 0))]) (fun p x y=>[(390003,.cells p (cW x.1)),(180020,.arr (y.v 0) 33 1 false (List.map I x.2))]) ?_ ?_|apply lp 4 h [4,9] [] [.t 5] [] (_:Nat) (fun p y=>[(5,.sl 180020 (y.y.v 0)),(10,.d (I y.x.1)),(11,.d (I y.x.2.1))]) (fun p y=>[(390003,.cells p (cW y.x.2.2.1)),(180020,.arr (y.y.v 0) 33 1 false (List.map I y.x.2.2.2))]) ?_ ?_|refine co (oI hN am) ?_|(rw[eD]at h;delta w64 at h)|intro _|refine Br.mk (fun _=>?_) fun _=>?_|refine TyG.mk fun _ h=>?_|(refine hs h ?_;intro _ _ h)|fail)
theorem lZ{N:Nat}(hN:N≤1073741824){s1:DeskState}{r:DeskState}(h:fW N s1=some r) :
    ACalls Tryz.prog 36 [.d (.agg [.list 1 (List.map I s1.fBowlers),.list 2 (List.map DeskLane.enc s1.fLanes),.list 1 (List.map eL s1.fKept),.list 6 (List.map RateSheet.enc s1.fSheets),.list 1 (List.map I s1.fWithdrawn),.list 3 (List.map LadderResult.enc s1.fResults)])] [] fun e os=>e=.ret (.d (.agg [.list 1 (List.map I r.fBowlers),.list 2 (List.map DeskLane.enc r.fLanes),.list 1 (List.map eL r.fKept),.list 6 (List.map RateSheet.enc r.fSheets),.list 1 (List.map I r.fWithdrawn),.list 3 (List.map LadderResult.enc r.fResults)]))∧os=[]:=by
  refine ah (fresh:=false) al ap ⟨[1],[],[],[],[1,1002,1007,1012],0,[]⟩ Tryz.func36 rfl Tryz.call36 rfl ?_
  unfold fW at h
  repeat' ((conv=>whnf)<;>first|refine u (k:=?_)|exact v|refine aap DeskLane.enc _ [(DeskLane.mk _ _)] hN rfl rfl ‹_› (by decide) ?_|refine aap eL _ [_] hN rfl rfl ‹_› (by decide) ?_|refine aap LadderResult.enc _ [(LadderResult.mk _ _ _)] hN rfl rfl ‹_› (by decide) ?_|refine Both.mk ?_ ?_|refine sq 1 h [1,2] [2] [] [.t 3] () (fun p x y=>[(3,.ptr 3 (y.b 0) 0)]) (fun p x y=>[(3,.cells (y.b 0) [.d (.list 1 (List.map I x.1)),.nils 2,.nils 1,.d (.list 6 (List.map RateSheet.enc x.2.1)),.d (.list 1 (List.map I x.2.2)),.nils 3])]) ?_ ?_|refine dr 0 10 (tkA 2 0 (tkA 2 3 (tkA 2 6 (.alt 2 [7,6,4,3,0] (.alt 5 [7,6,3,0] (.alt 8 [6,3,0] (.alt 9 [6,3,0] (.alt 10 [6,3,0] (.alt 11 [] .done .nil) .nil) (.alt 10 [6,3,0] (.alt 9 [6,3,0] (.alt 11 [] .done .nil) .nil) .nil)) (.alt 10 [7,6,3,0] (.alt 8 [6,3,0] (.alt 9 [6,3,0] (.alt 11 [] .done .nil) .nil) .nil) .nil)) (.alt 10 [7,6,4,3,0] (.alt 5 [7,6,3,0] (.alt 8 [6,3,0] (.alt 9 [6,3,0] (.alt 11 [] .done .nil) .nil) .nil) .nil) .nil)) (.alt 10 [7,6,4,3,1,0] (.alt 2 [7,6,4,3,0] (.alt 5 [7,6,3,0] (.alt 8 [6,3,0] (.alt 9 [6,3,0] (.alt 11 [] .done .nil) .nil) .nil) .nil) .nil) .nil))))) rfl (by kernel_rfl) ?_|refine cf 12 12 (bB hN am) ?_|refine cf 15 15 (Dt hN am) ?_|refine cf 18 18 (bB hN am) ?_|apply sq 1002 h [1,2,3] [2] [.c 3 1] [] ((_:Nat),(_:List Int),(_:List RateSheet),(_:List Int)) (fun p x y=>[]) (fun p x y=>[(3,.cells p.1 [.d (.list 1 (List.map I p.2.1)),.sl 36 (y.v 0),.nils 1,.d (.list 6 (List.map RateSheet.enc p.2.2.1)),.d (.list 1 (List.map I p.2.2.2)),.nils 3]),(36,.arr (y.v 0) 91 2 false (List.map DeskLane.enc x))]) ?_ ?_|apply lp 3 h [1,2,3,21] [2] [.c 3 1] [] ((_:Nat),(_:List Int),(_:List RateSheet),(_:List Int)) (fun p y=>[(22,.d (I y.x.1)),(23,.d (I y.x.2.1))]) (fun p y=>[(3,.cells p.1 [.d (.list 1 (List.map I p.2.1)),.sl 36 (y.y.v 0),.nils 1,.d (.list 6 (List.map RateSheet.enc p.2.2.1)),.d (.list 1 (List.map I p.2.2.2)),.nils 3]),(36,.arr (y.y.v 0) 91 2 false (List.map DeskLane.enc y.x.2.2))]) ?_ ?_|refine dr 0 27 (tkA 6 0 (.alt 6 [4,3,2,1,0] (.alt 7 [4,2,1,0] (.alt 8 [4,2,1,0] (.alt 9 [4,2,0] (.take 10 (.alt 11 [] .done .nil)) .nil) .nil) .nil) .nil)) rfl (by kernel_rfl) ?_|refine cf 33 33 (bB hN am) ?_|apply sq 1007 h [1,2,3] [2,36] [.c 3 2] [] ((_:Nat),(_:List Int),(_:Value),(_:List RateSheet),(_:List Int)) (fun p x y=>[]) (fun p x y=>[(3,.cells p.1 [.d (.list 1 (List.map I p.2.1)),.sl 36 p.2.2.1,.sl 51 (y.v 0),.d (.list 6 (List.map RateSheet.enc p.2.2.2.1)),.d (.list 1 (List.map I p.2.2.2.2)),.nils 3]),(51,.arr (y.v 0) 25 1 false (List.map eL x))]) ?_ ?_|apply lp 8 h [1,2,3,40] [2,36] [.c 3 2] [] ((_:Nat),(_:List Int),(_:Value),(_:List RateSheet),(_:List Int)) (fun p y=>[(41,.d (I y.x.1)),(42,.d (I y.x.2.1))]) (fun p y=>[(3,.cells p.1 [.d (.list 1 (List.map I p.2.1)),.sl 36 p.2.2.1,.sl 51 (y.y.v 0),.d (.list 6 (List.map RateSheet.enc p.2.2.2.1)),.d (.list 1 (List.map I p.2.2.2.2)),.nils 3]),(51,.arr (y.y.v 0) 25 1 false (List.map eL y.x.2.2))]) ?_ ?_|refine dr 0 46 (tkA 3 0 (.alt 3 [1,0] (.alt 4 [1,0] (.alt 5 [0] (.take 6 (.alt 7 [] .done .nil)) .nil) .nil) .nil)) rfl (by kernel_rfl) ?_|refine cf 49 49 (bB hN am) ?_|apply sq 1012 h [2,3] [2,36,51] [.c 3 5] [] ((_:Nat),(_:List Int),(_:Value),(_:Value),(_:List RateSheet),(_:List Int)) (fun p x y=>[]) (fun p x y=>[(3,.cells p.1 [.d (.list 1 (List.map I p.2.1)),.sl 36 p.2.2.1,.sl 51 p.2.2.2.1,.d (.list 6 (List.map RateSheet.enc p.2.2.2.2.1)),.d (.list 1 (List.map I p.2.2.2.2.2)),.sl 72 (y.v 0)]),(72,.arr (y.v 0) 97 3 false (List.map LadderResult.enc x))]) ?_ ?_|apply lp 13 h [2,3,55] [2,36,51] [.c 3 5] [] ((_:Nat),(_:List Int),(_:Value),(_:Value),(_:List RateSheet),(_:List Int)) (fun p y=>[(56,.d (I y.x.1)),(57,.d (I y.x.2.1))]) (fun p y=>[(3,.cells p.1 [.d (.list 1 (List.map I p.2.1)),.sl 36 p.2.2.1,.sl 51 p.2.2.2.1,.d (.list 6 (List.map RateSheet.enc p.2.2.2.2.1)),.d (.list 1 (List.map I p.2.2.2.2.2)),.sl 72 (y.y.v 0)]),(72,.arr (y.y.v 0) 97 3 false (List.map LadderResult.enc y.x.2.2))]) ?_ ?_|refine dr 0 61 (tkA 6 0 (tkA 2 7 (.alt 6 [8,7,4,3,2,1,0] (.alt 9 [7,4,2,1,0] (.alt 10 [7,4,2,1,0] (.alt 11 [7,4,2,0] (.take 12 (.alt 13 [] .done .nil)) .nil) .nil) .nil) .nil))) rfl (by kernel_rfl) ?_|refine cf 67 67 (bB hN am) ?_|(rw[bR]at h;delta w64 at h)|(rw[bS]at h;delta w64 at h)|(rw[bT]at h;delta w64 at h)|intro _|refine Br.mk (fun _=>?_) fun _=>?_|refine TyG.mk fun _ h=>?_|(refine hs h ?_;intro _ _ h)|fail)
theorem uk{N:Nat}(hN:N≤1073741824){lines1:List (List UInt8)}{r:DeskState×(List Int)×Int}(h:nE N lines1=some r) :
    ACalls Tryz.prog 10 [.d (.list 1 (List.map D.str lines1))] [] fun e os=>e=.ret (.d (.tup [.agg [.list 1 (List.map I r.1.fBowlers),.list 2 (List.map DeskLane.enc r.1.fLanes),.list 1 (List.map eL r.1.fKept),.list 6 (List.map RateSheet.enc r.1.fSheets),.list 1 (List.map I r.1.fWithdrawn),.list 3 (List.map LadderResult.enc r.1.fResults)],.list 1 (List.map I r.2.1),I r.2.2]))∧os=[]:=by
  refine ah (fresh:=false) al ap ⟨[],[],[],[],[],0,[]⟩ Tryz.func10 rfl Tryz.call10 rfl ?_
  unfold nE at h
  repeat' ((conv=>whnf)<;>first|refine u (k:=?_)|exact v|refine cp (gP hN am) ?_|refine co (i7 hN am) ?_|refine cp (lZ hN am) ?_|intro _|refine Br.mk (fun _=>?_) fun _=>?_|(refine hs h ?_;intro _ _ h)|fail)
theorem jM{N:Nat}(hN:N≤1073741824){l1:FrameLaw}{sheet1:List Int}{r:Int}(h:fk N l1 sheet1=some r) :
    ACalls Tryz.prog 165 [.d (.agg [I l1.fFrames,I l1.fPins,I l1.fBalls,I l1.fTap]),.d (.list 1 (List.map I sheet1))] [] fun e os=>e=.ret (.d (I r))∧os=[]:=by
  refine ah (fresh:=false) al ap ⟨[2],[],[],[],[1002],0,[]⟩ Tryz.func165 rfl Tryz.call165 rfl ?_
  unfold fk at h
  repeat' ((conv=>whnf)<;>first|refine u (k:=?_)|exact v|refine cp (cE hN am) ?_|refine sq0 1002 h [] (fun x=>[(4,.d (I x))]) ?_ ?_|apply lp 3 h [5,13] [] [] [] (_:Nat) (fun p y=>[(4,.d (I y.x.1)),(14,.d (I y.x.2.1)),(15,.d (I y.x.2.2.1))]) (fun p y=>[(5,.cells p [.d (I y.x.2.2.2.fLaw.fFrames),.d (I y.x.2.2.2.fLaw.fPins),.d (I y.x.2.2.2.fLaw.fBalls),.d (I y.x.2.2.2.fLaw.fTap),.d (I y.x.2.2.2.fAt.fFrame),.d (I y.x.2.2.2.fAt.fThrown),.d (I y.x.2.2.2.fAt.fStanding),.d (.bool y.x.2.2.2.fAt.fFresh),.d (I y.x.2.2.2.fAt.fNeed),.d (I y.x.2.2.2.fAt.fAfter.a0),.d (I y.x.2.2.2.fAt.fAfter.a1)])]) ?_ ?_|refine cp (aS hN am) ?_|refine dr 0 26 (tkA 2 0 (.take 4 (.alt 2 [4] (.alt 3 [4] (.take 5 (.alt 6 [] .done .nil)) .nil) .nil))) rfl (by kernel_rfl) ?_|refine cp (gv (l1:=[_,_]) hN am) ?_|(rw[ct]at h;delta w64 at h)|intro _|refine Br.mk (fun _=>?_) fun _=>?_|refine TyG.mk fun _ h=>?_|(refine hs h ?_;intro _ _ h)|fail)
theorem jn{N:Nat}(hN:N≤1073741824){p1:FramePlay}{r:Int}(h:gE N p1=some r) :
    ACalls Tryz.prog 125 [.d (.agg [I p1.fLaw.fFrames,I p1.fLaw.fPins,I p1.fLaw.fBalls,I p1.fLaw.fTap,I p1.fAt.fFrame,I p1.fAt.fThrown,I p1.fAt.fStanding,.bool p1.fAt.fFresh,I p1.fAt.fNeed,I p1.fAt.fAfter.a0,I p1.fAt.fAfter.a1])] [] fun e os=>e=.ret (.d (I r))∧os=[]:=by
  refine ah (fresh:=false) al ap ⟨[1],[],[],[],[],0,[]⟩ Tryz.func125 rfl Tryz.call125 rfl ?_
  unfold gE at h
  repeat' ((conv=>whnf)<;>first|refine u (k:=?_)|exact v|intro _|refine Br.mk (fun _=>?_) fun _=>?_|(refine hs h ?_;intro _ _ h)|fail)
theorem gQ{N:Nat}(hN:N≤1073741824){l1:FrameLaw}{sheet1:List Int}{r:Int}(h:g9 N l1 sheet1=some r) :
    ACalls Tryz.prog 124 [.d (.agg [I l1.fFrames,I l1.fPins,I l1.fBalls,I l1.fTap]),.d (.list 1 (List.map I sheet1)),.d (.agg [.fn (.func 125) [] []])] [] fun e os=>e=.ret (.d (I r))∧os=[]:=by
  refine ah (fresh:=false) al ap ⟨[3,5],[],[],[],[4,1002],0,[]⟩ Tryz.func124 rfl Tryz.call124 rfl ?_
  unfold g9 at h
  repeat' ((conv=>whnf)<;>first|refine u (k:=?_)|exact v|refine Both.mk ?_ ?_|refine cp (jM hN am) ?_|refine sq0 1002 h [] (fun x=>[(7,.d (I x))]) ?_ ?_|refine cp (CV hN am) ?_|refine lp 3 h [5] [] [] [.t 8] () (fun p y=>[(7,.d (I y.x.1)),(8,.ptr 8 (y.y.b 0) 0)]) (fun p y=>[(8,.cells (y.y.b 0) [.d (I y.x.2.fLaw.fFrames),.d (I y.x.2.fLaw.fPins),.d (I y.x.2.fLaw.fBalls),.d (I y.x.2.fLaw.fTap),.d (I y.x.2.fAt.fFrame),.d (I y.x.2.fAt.fThrown),.d (I y.x.2.fAt.fStanding),.d (.bool y.x.2.fAt.fFresh),.d (I y.x.2.fAt.fNeed),.d (I y.x.2.fAt.fAfter.a0),.d (I y.x.2.fAt.fAfter.a1)])]) ?_ ?_|refine cp (eT hN am) ?_|refine sq 4 h [5,7,8] [8] [] [.t 9] () (fun p x y=>[(9,.ptr 9 (y.b 0) 0),(11,.d (I x.1))]) (fun p x y=>[(9,.cells (y.b 0) [.d (I x.2.fLaw.fFrames),.d (I x.2.fLaw.fPins),.d (I x.2.fLaw.fBalls),.d (I x.2.fLaw.fTap),.d (I x.2.fAt.fFrame),.d (I x.2.fAt.fThrown),.d (I x.2.fAt.fStanding),.d (.bool x.2.fAt.fFresh),.d (I x.2.fAt.fNeed),.d (I x.2.fAt.fAfter.a0),.d (I x.2.fAt.fAfter.a1)])]) ?_ ?_|refine dr 0 22 (tkA 4 0 (.alt 4 [1,0] (.alt 5 [1] (tkA 4 6 (.alt 10 [9,8,7,6,1] (.alt 11 [9,8] (tkA 2 12 .done) .nil) .nil)) (.alt 10 [1,0] (.alt 5 [1] (tkA 4 6 (.alt 11 [9,8] (tkA 2 12 .done) .nil)) .nil) .nil)) (.alt 10 [3,2,1,0] (.alt 4 [1,0] (.alt 5 [1] (tkA 4 6 (.alt 11 [9,8] (tkA 2 12 .done) .nil)) .nil) .nil) .nil))) rfl (by kernel_rfl) ?_|refine cp (jn hN am) ?_|refine cp (aS hN am) ?_|refine dr 0 31 (tkA 2 0 (.take 4 (.alt 2 [4] (.alt 3 [4] (.take 5 (.alt 6 [] .done .nil)) .nil) .nil))) rfl (by kernel_rfl) ?_|refine cp (gv (l1:=[_,_]) hN am) ?_|rw[cu]at h|intro _|refine Br.mk (fun _=>?_) fun _=>?_|refine TyG.mk fun _ h=>?_|(refine hs h ?_;intro _ _ h)|fail)
theorem jN{N:Nat}(hN:N≤1073741824){p1:FramePlay}{r:Int}(h:Df N p1=some r) :
    ACalls Tryz.prog 126 [.d (.agg [I p1.fLaw.fFrames,I p1.fLaw.fPins,I p1.fLaw.fBalls,I p1.fLaw.fTap,I p1.fAt.fFrame,I p1.fAt.fThrown,I p1.fAt.fStanding,.bool p1.fAt.fFresh,I p1.fAt.fNeed,I p1.fAt.fAfter.a0,I p1.fAt.fAfter.a1])] [] fun e os=>e=.ret (.d (I r))∧os=[]:=by
  refine ah (fresh:=false) al ap ⟨[1],[],[],[],[],0,[]⟩ Tryz.func126 rfl Tryz.call126 rfl ?_
  unfold Df at h
  repeat' ((conv=>whnf)<;>first|refine u (k:=?_)|exact v|intro _|refine Br.mk (fun _=>?_) fun _=>?_|(refine hs h ?_;intro _ _ h)|fail)
theorem f5{N:Nat}(hN:N≤1073741824){l1:FrameLaw}{sheet1:List Int}{r:Int}(h:gF N l1 sheet1=some r) :
    ACalls Tryz.prog 124 [.d (.agg [I l1.fFrames,I l1.fPins,I l1.fBalls,I l1.fTap]),.d (.list 1 (List.map I sheet1)),.d (.agg [.fn (.func 126) [] []])] [] fun e os=>e=.ret (.d (I r))∧os=[]:=by
  refine ah (fresh:=false) al ap ⟨[3,5],[],[],[],[4,1002],0,[]⟩ Tryz.func124 rfl Tryz.call124 rfl ?_
  unfold gF at h
  repeat' ((conv=>whnf)<;>first|refine u (k:=?_)|exact v|refine Both.mk ?_ ?_|refine cp (jM hN am) ?_|refine sq0 1002 h [] (fun x=>[(7,.d (I x))]) ?_ ?_|refine cp (CV hN am) ?_|refine lp 3 h [5] [] [] [.t 8] () (fun p y=>[(7,.d (I y.x.1)),(8,.ptr 8 (y.y.b 0) 0)]) (fun p y=>[(8,.cells (y.y.b 0) [.d (I y.x.2.fLaw.fFrames),.d (I y.x.2.fLaw.fPins),.d (I y.x.2.fLaw.fBalls),.d (I y.x.2.fLaw.fTap),.d (I y.x.2.fAt.fFrame),.d (I y.x.2.fAt.fThrown),.d (I y.x.2.fAt.fStanding),.d (.bool y.x.2.fAt.fFresh),.d (I y.x.2.fAt.fNeed),.d (I y.x.2.fAt.fAfter.a0),.d (I y.x.2.fAt.fAfter.a1)])]) ?_ ?_|refine cp (eT hN am) ?_|refine sq 4 h [5,7,8] [8] [] [.t 9] () (fun p x y=>[(9,.ptr 9 (y.b 0) 0),(11,.d (I x.1))]) (fun p x y=>[(9,.cells (y.b 0) [.d (I x.2.fLaw.fFrames),.d (I x.2.fLaw.fPins),.d (I x.2.fLaw.fBalls),.d (I x.2.fLaw.fTap),.d (I x.2.fAt.fFrame),.d (I x.2.fAt.fThrown),.d (I x.2.fAt.fStanding),.d (.bool x.2.fAt.fFresh),.d (I x.2.fAt.fNeed),.d (I x.2.fAt.fAfter.a0),.d (I x.2.fAt.fAfter.a1)])]) ?_ ?_|refine dr 0 22 (tkA 4 0 (.alt 4 [1,0] (.alt 5 [1] (tkA 4 6 (.alt 10 [9,8,7,6,1] (.alt 11 [9,8] (tkA 2 12 .done) .nil) .nil)) (.alt 10 [1,0] (.alt 5 [1] (tkA 4 6 (.alt 11 [9,8] (tkA 2 12 .done) .nil)) .nil) .nil)) (.alt 10 [3,2,1,0] (.alt 4 [1,0] (.alt 5 [1] (tkA 4 6 (.alt 11 [9,8] (tkA 2 12 .done) .nil)) .nil) .nil) .nil))) rfl (by kernel_rfl) ?_|refine cp (jN hN am) ?_|refine cp (aS hN am) ?_|refine dr 0 31 (tkA 2 0 (.take 4 (.alt 2 [4] (.alt 3 [4] (.take 5 (.alt 6 [] .done .nil)) .nil) .nil))) rfl (by kernel_rfl) ?_|refine cp (gv (l1:=[_,_]) hN am) ?_|rw[ce]at h|intro _|refine Br.mk (fun _=>?_) fun _=>?_|refine TyG.mk fun _ h=>?_|(refine hs h ?_;intro _ _ h)|fail)
theorem oJ{N:Nat}(hN:N≤1073741824){l1:FrameLaw}{sheet1:List Int}{r:FrameRange}(h:iU N l1 sheet1=some r) :
    ACalls Tryz.prog 85 [.d (.agg [I l1.fFrames,I l1.fPins,I l1.fBalls,I l1.fTap]),.d (.list 1 (List.map I sheet1))] [] fun e os=>e=.ret (.d (.agg [I r.fLo,I r.fHi]))∧os=[]:=by
  refine ah (fresh:=false) al ap ⟨[2],[],[],[],[1],0,[]⟩ Tryz.func85 rfl Tryz.call85 rfl ?_
  unfold iU at h
  repeat' ((conv=>whnf)<;>first|refine u (k:=?_)|exact v|refine Both.mk ?_ ?_|apply sq 1 h [4] [] [] [] (_:Nat) (fun p x y=>[]) (fun p x y=>[(4,.cells p [.d (I x.fLo),.d (I x.fHi)])]) ?_ ?_|refine dr 0 5 (tkA 2 0 (tkA 2 4 (.alt 2 [5,4,1,0] (.alt 3 [5,4] (.alt 6 [5,4] (.alt 7 [] (.alt 8 [] (.alt 9 [] .done .nil) .nil) .nil) .nil) (.alt 6 [5,4,1,0] (.alt 3 [5,4] (.alt 7 [] (.alt 8 [] (.alt 9 [] .done .nil) .nil) .nil) .nil) .nil)) (.alt 6 [5,4,1,0] (.alt 2 [5,4,1,0] (.alt 3 [5,4] (.alt 7 [] (.alt 8 [] (.alt 9 [] .done .nil) .nil) .nil) .nil) .nil) .nil)))) rfl (by kernel_rfl) ?_|refine cp (gQ hN am) ?_|refine cp (f5 hN am) ?_|intro _|refine Br.mk (fun _=>?_) fun _=>?_|refine TyG.mk fun _ h=>?_|(refine hs h ?_;intro _ _ h)|fail)
theorem sj{N:Nat}(hN:N≤1073741824){l1:FrameLaw}{balls1:List Int}{r:FrameRange×Int}(h:lI N l1 balls1=some r) :
    ACalls Tryz.prog 42 [.d (.agg [I l1.fFrames,I l1.fPins,I l1.fBalls,I l1.fTap]),.d (.list 1 (List.map I balls1))] [] fun e os=>e=.ret (.d (.tup [.agg [I r.1.fLo,I r.1.fHi],I r.2]))∧os=[]:=by
  refine ah (fresh:=false) al ap ⟨[2],[],[],[],[],0,[]⟩ Tryz.func42 rfl Tryz.call42 rfl ?_
  unfold lI at h
  repeat' ((conv=>whnf)<;>first|refine u (k:=?_)|exact v|refine cp (jK hN am) ?_|refine cp (oJ hN am) ?_|intro _|refine Br.mk (fun _=>?_) fun _=>?_|(refine hs h ?_;intro _ _ h)|fail)
theorem F1{N:Nat}(hN:N≤1073741824){lines1:List (List UInt8)}{lane1:Int}{r:(List Int)×Int×Int×Int}(h:lJ N lines1 lane1=some r) :
    ACalls Tryz.prog 16 [.d (.list 1 (List.map D.str lines1)),.d (I lane1)] [] fun e os=>e=.ret (.d (.tup [.list 1 (List.map I r.1),I r.2.1,I r.2.2.1,I r.2.2.2]))∧os=[]:=by
  refine ah (fresh:=false) al ap ⟨[],[],[],[],[5],0,[]⟩ Tryz.func16 rfl Tryz.call16 rfl ?_
  unfold lJ at h
  delta w64 at h
  repeat' ((conv=>whnf)<;>first|refine u (k:=?_)|exact v|refine cp (gP hN am) ?_|refine co (i7 hN am) ?_|refine sq 5 h [1,9] [390003] [] [] () (fun p x y=>[(47,.d (.bool x))]) (fun p x y=>[]) ?_ ?_|refine cp (fO hN am) ?_|refine cp (fP hN am) ?_|refine cp (cm hN am) ?_|refine cp (sj hN am) ?_|refine dr 0 69 (tkA 10 0 .done) rfl (by kernel_rfl) ?_|intro _|refine Br.mk (fun _=>?_) fun _=>?_|refine TyG.mk fun _ h=>?_|(refine hs h ?_;intro _ _ h)|fail)
theorem ik{N:Nat}(hN:N≤1073741824){c1:DeskWork}{bo1:Nat}{r:RateBook}(h:eF N c1=some r) :
    ACalls Tryz.prog 47 [.ptr 390003 bo1 0] [(390003,.cells bo1 (cW c1))] fun ae os=>∃y:Unit,True∧ae=.ret (.d (.agg [I r.fLaw.fBase,I r.fLaw.fPercent,I r.fLaw.fCap,I r.fLaw.fLeast,I r.fLaw.fBlind,.list 1 (List.map I r.fBowlers),.list 6 (List.map RateSheet.enc r.fSheets),.list 1 (List.map I r.fWithdrawn)]))∧os=[(390003,.cells bo1 (cW c1))]:=by
  refine aJ (fresh:=false) al ap ⟨[],[],[],[],[],400000,[]⟩ Tryz.func47 rfl Tryz.call47 rfl ?_
  unfold eF at h
  repeat' ((conv=>whnf)<;>first|refine u (k:=?_)|exact v|refine dr 0 3 (tkA 15 1 (.alt 0 [15,14,13,12,11,10,9,8,7,6,5,4,3,2,1] (.alt 16 [14,13,12,11,9,8,7,6,4,3,2,1] (.alt 17 [] .done .nil) .nil) .nil)) rfl (by kernel_rfl) ?_|intro _|refine Br.mk (fun _=>?_) fun _=>?_|(refine hs h ?_;intro _ _ h)|fail)
theorem fQ{N:Nat}(hN:N≤1073741824){n1:Int}{low1:Int}{high1:Int}{r:Bool}(h:dZ N n1 low1 high1=some r) :
    ACalls Tryz.prog 166 [.d (I n1),.d (I low1),.d (I high1)] [] fun e os=>e=.ret (.d (.bool r))∧os=[]:=by
  refine ah (fresh:=false) al ap ⟨[],[],[],[],[1],0,[]⟩ Tryz.func166 rfl Tryz.call166 rfl ?_
  unfold dZ at h
  repeat' ((conv=>whnf)<;>first|refine u (k:=?_)|exact v|refine sq0 1 h [] (fun x=>[(6,.d (.bool x))]) ?_ ?_|intro _|refine Br.mk (fun _=>?_) fun _=>?_|refine TyG.mk fun _ h=>?_|(refine hs h ?_;intro _ _ h)|fail)
theorem ja{N:Nat}(hN:N≤1073741824){n1:Int}{r:Bool}(h:gp N n1=some r) :
    ACalls Tryz.prog 172 [.d (I n1)] [] fun e os=>e=.ret (.d (.bool r))∧os=[]:=by
  refine ah (fresh:=false) al ap ⟨[],[],[],[],[],0,[]⟩ Tryz.func172 rfl Tryz.call172 rfl ?_
  unfold gp at h
  repeat' ((conv=>whnf)<;>first|refine u (k:=?_)|exact v|refine cp (fQ hN am) ?_|intro _|refine Br.mk (fun _=>?_) fun _=>?_|(refine hs h ?_;intro _ _ h)|fail)
theorem oK{N:Nat}(hN:N≤1073741824){l1:RateLaw}{r:Bool}(h:iV N l1=some r) :
    ACalls Tryz.prog 170 [.d (.agg [I l1.fBase,I l1.fPercent,I l1.fCap,I l1.fLeast,I l1.fBlind])] [] fun e os=>e=.ret (.d (.bool r))∧os=[]:=by
  refine ah (fresh:=false) al ap ⟨[1],[],[],[],[1],0,[]⟩ Tryz.func170 rfl Tryz.call170 rfl ?_
  unfold iV at h
  repeat' ((conv=>whnf)<;>first|refine u (k:=?_)|exact v|refine sq0 1 h [] (fun x=>[(2,.d (.bool x))]) ?_ ?_|refine cp (ja hN am) ?_|refine cp (fQ hN am) ?_|intro _|refine Br.mk (fun _=>?_) fun _=>?_|refine TyG.mk fun _ h=>?_|(refine hs h ?_;intro _ _ h)|fail)
theorem ul{N:Nat}(hN:N≤1073741824){x1:Int}{r:Bool}(h:nF N x1=some r) :
    ACalls Tryz.prog 221 [.d (I x1),.d (.ref (.agg [.fn (.func 172) [] []]))] [] fun e os=>e=.ret (.d (.bool r))∧os=[]:=by
  refine ah (fresh:=false) al ap ⟨[],[],[],[],[],0,[]⟩ Tryz.func221 rfl Tryz.call221 rfl ?_
  unfold nF at h
  repeat' ((conv=>whnf)<;>first|refine u (k:=?_)|exact v|refine cp (ja hN am) ?_|intro _|refine Br.mk (fun _=>?_) fun _=>?_|(refine hs h ?_;intro _ _ h)|fail)
theorem jq{N:Nat}(hN:N≤1073741824){s1:List Int}{r:Int}(h:dl N s1=some r) :
    ACalls Tryz.prog 264 [.d (.list 1 (List.map I s1)),.d (.fn (.func 221) [] [.ref (.agg [.fn (.func 172) [] []])])] [] fun e os=>e=.ret (.d (I r))∧os=[]:=by
  refine ah (fresh:=false) al ap ⟨[],[],[],[],[1001],0,[]⟩ Tryz.func264 rfl Tryz.call264 rfl ?_
  unfold dl at h
  repeat' ((conv=>whnf)<;>first|refine u (k:=?_)|exact v|refine st0 1001 (F:=C7 (cy N)) r [] (fun y=>[]) ?_ ?_|refine lp0 2 h [0,1] (fun y=>[(7,.d (I y.x.1)),(8,.d (I y.x.2))]) ?_ ?_|refine cp (ul hN am) ?_|(rw[bc]at h;delta w64 at h)|unfold cy at h|intro _|refine Br.mk (fun _=>?_) fun _=>?_|refine TyG.mk fun _ h=>?_|(refine hs h ?_;intro _ _ h)|fail)
theorem iy{N:Nat}(hN:N≤1073741824){s1:List Int}{r:Bool}(h:cK N s1=some r) :
    ACalls Tryz.prog 220 [.d (.list 1 (List.map I s1)),.d (.fn (.func 221) [] [.ref (.agg [.fn (.func 172) [] []])])] [] fun e os=>e=.ret (.d (.bool r))∧os=[]:=by
  refine ah (fresh:=false) al ap ⟨[],[],[],[],[],0,[]⟩ Tryz.func220 rfl Tryz.call220 rfl ?_
  unfold cK at h
  repeat' ((conv=>whnf)<;>first|refine u (k:=?_)|exact v|refine cp (jq hN am) ?_|intro _|refine Br.mk (fun _=>?_) fun _=>?_|(refine hs h ?_;intro _ _ h)|fail)
theorem vM{N:Nat}(hN:N≤1073741824){l1:List Int}{r:Bool}(h:pW N l1=some r) :
    ACalls Tryz.prog 171 [.d (.list 1 (List.map I l1)),.d (.fn (.func 172) [] [])] [] fun e os=>e=.ret (.d (.bool r))∧os=[]:=by
  refine ah (fresh:=false) al ap ⟨[3],[],[],[],[],0,[]⟩ Tryz.func171 rfl Tryz.call171 rfl ?_
  unfold pW at h
  repeat' ((conv=>whnf)<;>first|refine u (k:=?_)|exact v|refine cp (iy hN am) ?_|intro _|refine Br.mk (fun _=>?_) fun _=>?_|(refine hs h ?_;intro _ _ h)|fail)
theorem jd{N:Nat}(hN:N≤1073741824){s1:List RateSheet}{f1:RateBook}{r:Int}(h:cV N s1 f1=some r) :
    ACalls Tryz.prog 265 [.d (.list 6 (List.map RateSheet.enc s1)),.d (.fn (.func 223) [] [.ref (.agg [.fn (.func 174) [.agg [I f1.fLaw.fBase,I f1.fLaw.fPercent,I f1.fLaw.fCap,I f1.fLaw.fLeast,I f1.fLaw.fBlind,.list 1 (List.map I f1.fBowlers),.list 6 (List.map RateSheet.enc f1.fSheets),.list 1 (List.map I f1.fWithdrawn)]] []])])] [] fun e os=>e=.ret (.d (I r))∧os=[]:=by
  refine ah (fresh:=false) al ap ⟨[],[],[],[],[1001],0,[]⟩ Tryz.func265 rfl Tryz.call265 rfl ?_
  unfold cV at h
  repeat' ((conv=>whnf)<;>first|refine u (k:=?_)|exact v|refine sq0 1001 h [] (fun x=>[]) ?_ ?_|refine lp0 2 h [0,1,8] (fun y=>[(7,.d (I y.x))]) ?_ ?_|rw[xR]at h|intro _|refine Br.mk (fun _=>?_) fun _=>?_|refine TyG.mk fun _ h=>?_|(refine hs h ?_;intro _ _ h)|fail)
theorem il{N:Nat}(hN:N≤1073741824){s1:List RateSheet}{f1:RateBook}{r:Bool}(h:cz N s1 f1=some r) :
    ACalls Tryz.prog 222 [.d (.list 6 (List.map RateSheet.enc s1)),.d (.fn (.func 223) [] [.ref (.agg [.fn (.func 174) [.agg [I f1.fLaw.fBase,I f1.fLaw.fPercent,I f1.fLaw.fCap,I f1.fLaw.fLeast,I f1.fLaw.fBlind,.list 1 (List.map I f1.fBowlers),.list 6 (List.map RateSheet.enc f1.fSheets),.list 1 (List.map I f1.fWithdrawn)]] []])])] [] fun e os=>e=.ret (.d (.bool r))∧os=[]:=by
  refine ah (fresh:=false) al ap ⟨[],[],[],[],[],0,[]⟩ Tryz.func222 rfl Tryz.call222 rfl ?_
  unfold cz at h
  repeat' ((conv=>whnf)<;>first|refine u (k:=?_)|exact v|refine cp (jd hN am) ?_|intro _|refine Br.mk (fun _=>?_) fun _=>?_|(refine hs h ?_;intro _ _ h)|fail)
theorem um{N:Nat}(hN:N≤1073741824){l1:List RateSheet}{right1:RateBook}{r:Bool}(h:nG N l1 right1=some r) :
    ACalls Tryz.prog 173 [.d (.list 6 (List.map RateSheet.enc l1)),.d (.fn (.func 174) [.agg [I right1.fLaw.fBase,I right1.fLaw.fPercent,I right1.fLaw.fCap,I right1.fLaw.fLeast,I right1.fLaw.fBlind,.list 1 (List.map I right1.fBowlers),.list 6 (List.map RateSheet.enc right1.fSheets),.list 1 (List.map I right1.fWithdrawn)]] [])] [] fun e os=>e=.ret (.d (.bool r))∧os=[]:=by
  refine ah (fresh:=false) al ap ⟨[3],[],[],[],[],0,[]⟩ Tryz.func173 rfl Tryz.call173 rfl ?_
  unfold nG at h
  repeat' ((conv=>whnf)<;>first|refine u (k:=?_)|exact v|refine cp (il hN am) ?_|intro _|refine Br.mk (fun _=>?_) fun _=>?_|(refine hs h ?_;intro _ _ h)|fail)
theorem zo{N:Nat}(hN:N≤1073741824){s1:List Int}{r:Int}(h:yu N s1=some r) :
    ACalls Tryz.prog 264 [.d (.list 1 (List.map I s1)),.d (.fn (.func 221) [] [.ref (.agg [.fn (.func 175) [] []])])] [] fun e os=>e=.ret (.d (I r))∧os=[]:=by
  refine ah (fresh:=false) al ap ⟨[],[],[],[],[1001],0,[]⟩ Tryz.func264 rfl Tryz.call264 rfl ?_
  unfold yu at h
  repeat' ((conv=>whnf)<;>first|refine u (k:=?_)|exact v|refine sq0 1001 h [] (fun x=>[]) ?_ ?_|refine lp0 2 h [0,1,8] (fun y=>[(7,.d (I y.x))]) ?_ ?_|rw[xQ]at h|intro _|refine Br.mk (fun _=>?_) fun _=>?_|refine TyG.mk fun _ h=>?_|(refine hs h ?_;intro _ _ h)|fail)
theorem gR{N:Nat}(hN:N≤1073741824){s1:List Int}{r:Bool}(h:ck N s1=some r) :
    ACalls Tryz.prog 220 [.d (.list 1 (List.map I s1)),.d (.fn (.func 221) [] [.ref (.agg [.fn (.func 175) [] []])])] [] fun e os=>e=.ret (.d (.bool r))∧os=[]:=by
  refine ah (fresh:=false) al ap ⟨[],[],[],[],[],0,[]⟩ Tryz.func220 rfl Tryz.call220 rfl ?_
  unfold ck at h
  repeat' ((conv=>whnf)<;>first|refine u (k:=?_)|exact v|refine cp (zo hN am) ?_|intro _|refine Br.mk (fun _=>?_) fun _=>?_|(refine hs h ?_;intro _ _ h)|fail)
theorem Gm{N:Nat}(hN:N≤1073741824){l1:List Int}{r:Bool}(h:lK N l1=some r) :
    ACalls Tryz.prog 171 [.d (.list 1 (List.map I l1)),.d (.fn (.func 175) [] [])] [] fun e os=>e=.ret (.d (.bool r))∧os=[]:=by
  refine ah (fresh:=false) al ap ⟨[3],[],[],[],[],0,[]⟩ Tryz.func171 rfl Tryz.call171 rfl ?_
  unfold lK at h
  repeat' ((conv=>whnf)<;>first|refine u (k:=?_)|exact v|refine cp (gR hN am) ?_|intro _|refine Br.mk (fun _=>?_) fun _=>?_|(refine hs h ?_;intro _ _ h)|fail)
theorem ro{N:Nat}(hN:N≤1073741824){l1:List Int}{r:Bool}(h:D5 N l1=some r) :
    ACalls Tryz.prog 176 [.d (.list 1 (List.map I l1))] [] fun e os=>e=.ret (.d (.bool r))∧os=[]:=by
  refine ah (fresh:=false) al ap ⟨[],[],[],[],[1001],0,[]⟩ Tryz.func176 rfl Tryz.call176 rfl ?_
  unfold D5 at h
  repeat' ((conv=>whnf)<;>first|refine u (k:=?_)|exact v|refine sq0 1001 h [] (fun x=>[]) ?_ ?_|refine lp0 2 h [0,6] (fun y=>[(5,.d (I y.x))]) ?_ ?_|rw[dI]at h|intro _|refine Br.mk (fun _=>?_) fun _=>?_|refine TyG.mk fun _ h=>?_|(refine hs h ?_;intro _ _ h)|fail)
end Go.Proofs.YtdodahpkpeodfaaGreatDoor
