/-
  Walks: what the typed functions compute, the program’s functions return.
-/
import Derived.Test.YtdodahpkpeodfaaGreatDoorWe
import Derived.Test.YtdodahpkpeodfaaGreatDoorVf
import Derived.Test.YtdodahpkpeodfaaGreatDoorVg
open List renaming map→Jy
namespace Go.Proofs.YtdodahpkpeodfaaGreatDoor
open Go Go.Abs Go.Kp
set_option maxRecDepth 100000
set_option maxHeartbeats 64000000
set_option linter.all false
theorem rm{N:Nat}(hN:N≤1073741824){lines1:List (List UInt8)}{r:Bool}(h:gz N lines1=some r) :
    ACalls Tryz.prog 37 [.d (.list 1 (Jy D.str lines1))] [] fun e os=>e=.ret (.d (.bool r))∧os=[]:=by
  refine Cs al ap [1001] 0 Tryz.func37 rfl Tryz.call37 rfl ?_
  unfold gz at h
  repeat' ((conv=>whnf)<;>first|refine u (k:=?_)|exact v|refine st0 1001 (F:=C7 (fc N lines1)) r [0] (fun y=>[]) ?_ ?_|refine lp0 2 h [0] (fun y=>[(3,.d (I y.x))]) ?_ ?_|(rw[bf]at h;delta w64 at h)|unfold fc at h|intro _|apply Br.mk|refine TyG.mk fun _ h=>?_|(refine hs h ?_;intro _ _ h))
theorem FQ{N:Nat}(hN:N≤1073741824) {r:bZ}(h:DJ N=some r) :
    ACalls Tryz.prog 38 [] [] fun e os=>e=.ret (.d (.agg [.list 1 (Jy I r.az),I r.ag.a0.af,.list 1 (Jy I r.ag.a0.ar),I r.ag.a1.af,.list 1 (Jy I r.ag.a1.ar),I r.ag.a2.af,.list 1 (Jy I r.ag.a2.ar),I r.ag.a3.af,.list 1 (Jy I r.ag.a3.ar),.list 1 (Jy eL r.iZ),.list 6 (Jy b9.enc r.aD),.list 1 (Jy I r.ak),.list 3 (Jy dt.enc r.aP)]))∧os=[]:=by
  refine Cs al ap [] 0 Tryz.func38 rfl Tryz.call38 rfl ?_
  unfold DJ at h
  repeat' ((conv=>whnf)<;>first|refine u (k:=?_)|exact v|refine IxG.mk 3 rfl (by decide) ?_|refine lun 3 5 ?_|intro _|apply Br.mk|(refine hs h ?_;intro _ _ h))
theorem If{N:Nat}(hN:N≤1073741824){s1:bZ}{line1:List UInt8}{r:bZ×Int}(h:Eh N s1 line1=some r) :
    ACalls Tryz.prog 30 [.d (.agg [.list 1 (Jy I s1.az),I s1.ag.a0.af,.list 1 (Jy I s1.ag.a0.ar),I s1.ag.a1.af,.list 1 (Jy I s1.ag.a1.ar),I s1.ag.a2.af,.list 1 (Jy I s1.ag.a2.ar),I s1.ag.a3.af,.list 1 (Jy I s1.ag.a3.ar),.list 1 (Jy eL s1.iZ),.list 6 (Jy b9.enc s1.aD),.list 1 (Jy I s1.ak),.list 3 (Jy dt.enc s1.aP)]),.d (.str line1)] [] fun e os=>e=.ret (.d (.tup [.agg [.list 1 (Jy I r.1.az),I r.1.ag.a0.af,.list 1 (Jy I r.1.ag.a0.ar),I r.1.ag.a1.af,.list 1 (Jy I r.1.ag.a1.ar),I r.1.ag.a2.af,.list 1 (Jy I r.1.ag.a2.ar),I r.1.ag.a3.af,.list 1 (Jy I r.1.ag.a3.ar),.list 1 (Jy eL r.1.iZ),.list 6 (Jy b9.enc r.1.aD),.list 1 (Jy I r.1.ak),.list 3 (Jy dt.enc r.1.aP)],I r.2]))∧os=[]:=by
  refine ah (fresh:=false) al ap ⟨[2],[],[],[],[],0,[]⟩ Tryz.func30 rfl Tryz.call30 rfl ?_
  unfold Eh at h
  repeat' ((conv=>whnf)<;>first|refine u (k:=?_)|exact v|refine cp (FSq hN am) ?_|refine dr 0 21 (tkA 4 0 (.alt 4 [2,1] (tkA 2 5 (.alt 7 [] (.take 8 .done) .nil)) .nil)) rfl (by kernel_rfl) ?_|refine cp (Fq hN am) ?_|refine dr 0 30 (tkA 7 0 (.alt 7 [5,4,2,1] (tkA 2 8 (.alt 10 [] (.take 11 .done) .nil)) .nil)) rfl (by kernel_rfl) ?_|refine cp (Gr hN am) ?_|refine dr 0 42 (tkA 7 0 (.alt 7 [5,4,2,1] (tkA 2 8 (.alt 10 [] (.take 11 .done) .nil)) .nil)) rfl (by kernel_rfl) ?_|refine cp (Gt hN am) ?_|refine dr 0 54 (tkA 4 0 (.alt 4 [2,1] (tkA 2 5 (.alt 7 [] (.take 8 .done) .nil)) .nil)) rfl (by kernel_rfl) ?_|refine cp (Gu hN am) ?_|refine dr 0 63 (tkA 4 0 (.alt 4 [2,1] (tkA 2 5 (.alt 7 [] (.take 8 .done) .nil)) .nil)) rfl (by kernel_rfl) ?_|refine cp (FW hN am) ?_|refine dr 0 72 (tkA 7 0 (.alt 7 [5,4,2,1] (tkA 2 8 (.alt 10 [] (.take 11 .done) .nil)) .nil)) rfl (by kernel_rfl) ?_|refine cp (FY hN am) ?_|refine dr 0 84 (tkA 4 0 (.alt 4 [2,1] (tkA 2 5 (.alt 7 [] (.take 8 .done) .nil)) .nil)) rfl (by kernel_rfl) ?_|refine cp (Fs hN am) ?_|refine dr 0 93 (tkA 4 0 (.alt 4 [2,1] (tkA 2 5 (.alt 7 [] (.take 8 .done) .nil)) .nil)) rfl (by kernel_rfl) ?_|refine cp (Gx hN am) ?_|refine dr 0 100 (tkA 4 0 (.alt 4 [2,1] (tkA 2 5 (.alt 7 [] (.take 8 .done) .nil)) .nil)) rfl (by kernel_rfl) ?_|refine cp (F0 hN am) ?_|intro _|apply Br.mk|(refine hs h ?_;intro _ _ h))
theorem Gy{N:Nat}(hN:N≤1073741824){lines1:List (List UInt8)}{r:bZ×(List Int)}(h:DC N lines1=some r) :
    ACalls Tryz.prog 14 [.d (.list 1 (Jy D.str lines1))] [] fun e os=>e=.ret (.d (.tup [.agg [.list 1 (Jy I r.1.az),I r.1.ag.a0.af,.list 1 (Jy I r.1.ag.a0.ar),I r.1.ag.a1.af,.list 1 (Jy I r.1.ag.a1.ar),I r.1.ag.a2.af,.list 1 (Jy I r.1.ag.a2.ar),I r.1.ag.a3.af,.list 1 (Jy I r.1.ag.a3.ar),.list 1 (Jy eL r.1.iZ),.list 6 (Jy b9.enc r.1.aD),.list 1 (Jy I r.1.ak),.list 3 (Jy dt.enc r.1.aP)],.list 1 (Jy I r.2)]))∧os=[]:=by
  refine Cs al ap [6,1003] 0 Tryz.func14 rfl Tryz.call14 rfl ?_
  unfold DC at h
  repeat' ((conv=>whnf)<;>first|refine u (k:=?_)|exact v|refine Both.mk ?_ ?_|refine cp (FQ hN am) ?_|apply sq 1003 h [2,4] [2] [.t 5] [] (_:Nat) (fun p x y=>[(5,.sl 29 (y.v 0))]) (fun p x y=>[(4,.cells p [.d (.list 1 (Jy I x.1.az)),.d (I x.1.ag.a0.af),.d (.list 1 (Jy I x.1.ag.a0.ar)),.d (I x.1.ag.a1.af),.d (.list 1 (Jy I x.1.ag.a1.ar)),.d (I x.1.ag.a2.af),.d (.list 1 (Jy I x.1.ag.a2.ar)),.d (I x.1.ag.a3.af),.d (.list 1 (Jy I x.1.ag.a3.ar)),.d (.list 1 (Jy eL x.1.iZ)),.d (.list 6 (Jy b9.enc x.1.aD)),.d (.list 1 (Jy I x.1.ak)),.d (.list 3 (Jy dt.enc x.1.aP))]),(29,.arr (y.v 0) 3 1 false (Jy I x.2))]) ?_ ?_|apply lp 4 h [0,2,4] [2] [.t 5] [] (_:Nat) (fun p y=>[(5,.sl 29 (y.y.v 0)),(6,.d (I y.x.1))]) (fun p y=>[(4,.cells p [.d (.list 1 (Jy I y.x.2.1.az)),.d (I y.x.2.1.ag.a0.af),.d (.list 1 (Jy I y.x.2.1.ag.a0.ar)),.d (I y.x.2.1.ag.a1.af),.d (.list 1 (Jy I y.x.2.1.ag.a1.ar)),.d (I y.x.2.1.ag.a2.af),.d (.list 1 (Jy I y.x.2.1.ag.a2.ar)),.d (I y.x.2.1.ag.a3.af),.d (.list 1 (Jy I y.x.2.1.ag.a3.ar)),.d (.list 1 (Jy eL y.x.2.1.iZ)),.d (.list 6 (Jy b9.enc y.x.2.1.aD)),.d (.list 1 (Jy I y.x.2.1.ak)),.d (.list 3 (Jy dt.enc y.x.2.1.aP))]),(29,.arr (y.y.v 0) 3 1 false (Jy I y.x.2.2))]) ?_ ?_|refine sq 6 h [0,2,4,5,6] [2,4,29] [] [.t 7] () (fun p x y=>[(7,.ptr 7 (y.b 0) 0),(8,.d (I x.1))]) (fun p x y=>[(7,.cells (y.b 0) [.d (.list 1 (Jy I x.2.az)),.d (I x.2.ag.a0.af),.d (.list 1 (Jy I x.2.ag.a0.ar)),.d (I x.2.ag.a1.af),.d (.list 1 (Jy I x.2.ag.a1.ar)),.d (I x.2.ag.a2.af),.d (.list 1 (Jy I x.2.ag.a2.ar)),.d (I x.2.ag.a3.af),.d (.list 1 (Jy I x.2.ag.a3.ar)),.d (.list 1 (Jy eL x.2.iZ)),.d (.list 6 (Jy b9.enc x.2.aD)),.d (.list 1 (Jy I x.2.ak)),.d (.list 3 (Jy dt.enc x.2.aP))])]) ?_ ?_|refine dr 0 17 (tkA 5 0 (.alt 5 [3,2,1] (tkA 3 6 (.alt 9 [8,7,6,3,2,1] (.alt 10 [8] (.take 11 .done) .nil) .nil)) (.alt 9 [4,3,2,1,0] (.alt 5 [3,2,1] (tkA 3 6 (.alt 10 [8] (.take 11 .done) .nil)) .nil) .nil))) rfl (by kernel_rfl) ?_|refine cp (If hN am) ?_|(rw[CO]at h;delta w64 at h)|intro _|apply Br.mk|refine TyG.mk fun _ h=>?_|(refine hs h ?_;intro _ _ h))
theorem LB{N:Nat}(hN:N≤1073741824){s1:bZ}{r:ml}(h:JG N s1=some r) :
    ACalls Tryz.prog 23 [.d (.agg [.list 1 (Jy I s1.az),I s1.ag.a0.af,.list 1 (Jy I s1.ag.a0.ar),I s1.ag.a1.af,.list 1 (Jy I s1.ag.a1.ar),I s1.ag.a2.af,.list 1 (Jy I s1.ag.a2.ar),I s1.ag.a3.af,.list 1 (Jy I s1.ag.a3.ar),.list 1 (Jy eL s1.iZ),.list 6 (Jy b9.enc s1.aD),.list 1 (Jy I s1.ak),.list 3 (Jy dt.enc s1.aP)])] [] fun e os=>e=.ret (.d (.agg [I r.fu.o8,I r.fu.jF,I r.fu.uq,I r.fu.ue,I r.fu.o9,.list 1 (Jy I r.az),.list 6 (Jy b9.enc r.aD),.list 1 (Jy I r.ak)]))∧os=[]:=by
  refine ah (fresh:=false) al ap ⟨[1],[],[],[],[],0,[]⟩ Tryz.func23 rfl Tryz.call23 rfl ?_
  unfold JG at h
  repeat' ((conv=>whnf)<;>first|refine u (k:=?_)|exact v|intro _|apply Br.mk|(refine hs h ?_;intro _ _ h))
theorem sf{N:Nat}(hN:N≤1073741824){lines1:List (List UInt8)}{r:Bool}(h:j0 N lines1=some r) :
    ACalls Tryz.prog 8 [.d (.list 1 (Jy D.str lines1))] [] fun e os=>e=.ret (.d (.bool r))∧os=[]:=by
  refine Cs al ap [2,1001] 0 Tryz.func8 rfl Tryz.call8 rfl ?_
  unfold j0 at h
  repeat' ((conv=>whnf)<;>first|refine u (k:=?_)|exact v|refine st0 1001 (F:=C7 (iN N lines1)) r [0] (fun y=>[]) ?_ ?_|refine lp0 2 h [0] (fun y=>[(3,.d (I y.x))]) ?_ ?_|refine sq0 2 h [0,3] (fun x=>[(11,.d (.bool x))]) ?_ ?_|(rw[bK]at h;delta w64 at h)|unfold iN at h|intro _|apply Br.mk|refine TyG.mk fun _ h=>?_|(refine hs h ?_;intro _ _ h))
theorem i6{N:Nat}(hN:N≤1073741824) {r:(List (List UInt8))}(h:gl N=some r) :
    ACalls Tryz.prog 32 [] [] fun e os=>∃hd,e=.ret (.sl 0 hd)∧os=[(0,.arr hd 9 1 false (Jy D.str r))]:=by
  refine gk al ap ⟨[],[],[],[],[],0,[]⟩ Tryz.func32 rfl Tryz.call32 rfl ?_
  unfold gl at h
  repeat' ((conv=>whnf)<;>first|refine u (k:=?_)|exact v|intro _|apply Br.mk|(refine hs h ?_;intro _ _ h))
theorem su{N:Nat}(hN:N≤1073741824){a1:List Int}{b1:List Int}{r:Bool}(h:lN N a1 b1=some r) :
    ACalls Tryz.prog 20 [.d (.list 1 (Jy I a1)),.d (.list 1 (Jy I b1))] [] fun e os=>e=.ret (.d (.bool r))∧os=[]:=by
  refine Cs al ap [1003] 0 Tryz.func20 rfl Tryz.call20 rfl ?_
  unfold lN at h
  repeat' ((conv=>whnf)<;>first|refine u (k:=?_)|exact v|refine st0 1003 (F:=C7 (iY N)) r [] (fun y=>[]) ?_ ?_|refine lp0 4 h [0,1] (fun y=>[(5,.d (I y.x))]) ?_ ?_|refine dr 0 17 (tkA 9 0 .done) rfl (by kernel_rfl) ?_|(rw[eN]at h;delta w64 at h)|unfold iY at h|intro _|apply Br.mk|refine TyG.mk fun _ h=>?_|(refine hs h ?_;intro _ _ h))
theorem sv{N:Nat}(hN:N≤1073741824){l1:List (List UInt8)}{r:(List (List UInt8))}(h:iw N l1=some r) :
    ACalls Tryz.prog 11 [.d (.list 1 (Jy D.str l1))] [] fun e os=>∃hd,e=.ret (.sl 0 hd)∧os=[(0,.arr hd 9 1 false (Jy D.str r))]:=by
  refine gk al ap ⟨[],[],[],[],[],0,[]⟩ Tryz.func11 rfl Tryz.call11 rfl ?_
  unfold iw at h
  repeat' ((conv=>whnf)<;>first|refine u (k:=?_)|exact v|refine aap D.str [] _ hN rfl rfl ‹_› (by decide) ?_|intro _|apply Br.mk|(refine hs h ?_;intro _ _ h))
theorem FP{N:Nat}(hN:N≤1073741824){lines1:List (List UInt8)}{r:Int}(h:Dg N lines1=some r) :
    ACalls Tryz.prog 12 [.d (.list 1 (Jy D.str lines1))] [] fun e os=>e=.ret (.d (I r))∧os=[]:=by
  refine Cs al ap [] 0 Tryz.func12 rfl Tryz.call12 rfl ?_
  unfold Dg at h
  repeat' ((conv=>whnf)<;>first|refine u (k:=?_)|exact v|refine cp (rm hN am) ?_|intro _|apply Br.mk|(refine hs h ?_;intro _ _ h))
