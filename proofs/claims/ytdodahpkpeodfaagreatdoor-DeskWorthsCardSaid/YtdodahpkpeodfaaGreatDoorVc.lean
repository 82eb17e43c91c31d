/-
  Walks: what the typed functions compute, the program’s functions return.
-/
import Derived.Test.YtdodahpkpeodfaaGreatDoorWe
open List renaming map→Jy
namespace Go.Proofs.YtdodahpkpeodfaaGreatDoor
open Go Go.Abs Go.Kp
set_option maxRecDepth 100000
set_option maxHeartbeats 64000000
set_option linter.all false
theorem FT{N:Nat}(hN:N≤1073741824){l1:bW}{r:nT}(h:DK N l1=some r) :
    ACalls Tryz.prog 89 [.d (.agg [I l1.bv,I l1.gV,I l1.ar,I l1.sd])] [] fun e os=>e=.ret (.d (.agg [I r.dI,I r.lS,I r.cw,.bool r.ww,I r.vz]))∧os=[]:=by
  refine ah (fresh:=false) al ap ⟨[1],[],[],[],[],0,[]⟩ Tryz.func89 rfl Tryz.call89 rfl ?_
  unfold DK at h
  repeat' ((conv=>whnf)<;>first|refine u (k:=?_)|exact v|intro _|apply Br.mk|(refine hs h ?_;intro _ _ h))
theorem Id{N:Nat}(hN:N≤1073741824){n1:Int}{low1:Int}{high1:Int}{r:Bool}(h:Ef N n1 low1 high1=some r) :
    ACalls Tryz.prog 128 [.d (I n1),.d (I low1),.d (I high1)] [] fun e os=>e=.ret (.d (.bool r))∧os=[]:=by
  refine Cs al ap [1] 0 Tryz.func128 rfl Tryz.call128 rfl ?_
  unfold Ef at h
  repeat' ((conv=>whnf)<;>first|refine u (k:=?_)|exact v|refine sq0 1 h [] (fun x=>[(6,.d (.bool x))]) ?_ ?_|intro _|apply Br.mk|refine TyG.mk fun _ h=>?_|(refine hs h ?_;intro _ _ h))
theorem Gs{N:Nat}(hN:N≤1073741824){l1:bW}{s1:nT}{ball1:Int}{r:Bool}(h:Dv N l1 s1 ball1=some r) :
    ACalls Tryz.prog 90 [.d (.agg [I l1.bv,I l1.gV,I l1.ar,I l1.sd]),.d (.agg [I s1.dI,I s1.lS,I s1.cw,.bool s1.ww,I s1.vz]),.d (I ball1)] [] fun e os=>e=.ret (.d (.bool r))∧os=[]:=by
  refine ah (fresh:=false) al ap ⟨[3,4],[],[],[],[1],0,[]⟩ Tryz.func90 rfl Tryz.call90 rfl ?_
  unfold Dv at h
  repeat' ((conv=>whnf)<;>first|refine u (k:=?_)|exact v|refine sq0 1 h [] (fun x=>[(6,.d (.bool x))]) ?_ ?_|refine cp (Id hN am) ?_|intro _|apply Br.mk|refine TyG.mk fun _ h=>?_|(refine hs h ?_;intro _ _ h))
theorem FU{N:Nat}(hN:N≤1073741824){l1:bW}{s1:nT}{ball1:Int}{r:nT×Int}(h:Di N l1 s1 ball1=some r) :
    ACalls Tryz.prog 91 [.d (.agg [I l1.bv,I l1.gV,I l1.ar,I l1.sd]),.d (.agg [I s1.dI,I s1.lS,I s1.cw,.bool s1.ww,I s1.vz]),.d (I ball1)] [] fun e os=>e=.ret (.d (.tup [.agg [I r.1.dI,I r.1.lS,I r.1.cw,.bool r.1.ww,I r.1.vz],I r.2]))∧os=[]:=by
  refine ah (fresh:=false) al ap ⟨[3,4],[],[],[],[4,11,14,1002,1004,1011,1014,1018],0,[]⟩ Tryz.func91 rfl Tryz.call91 rfl ?_
  unfold Di at h
  delta w64 at h
  repeat' ((conv=>whnf)<;>first|refine u (k:=?_)|exact v|refine sq 1002 h [3,4,6] [6] [] [] () (fun p x y=>[(8,.d (I x))]) (fun p x y=>[]) ?_ ?_|refine sq 1004 h [3,4,6] [6] [] [] () (fun p x y=>[(8,.d (I x))]) (fun p x y=>[]) ?_ ?_|refine sq 4 h [3,4,6,8] [6] [] [] () (fun p x y=>[(20,.d (.bool x))]) (fun p x y=>[]) ?_ ?_|apply sq 1011 h [6,8,9] [6] [] [] (_:Nat) (fun p x y=>[]) (fun p x y=>[(9,.cells p [.d (I x.dI),.d (I x.lS),.d (I x.cw),.d (.bool x.ww),.d (I x.vz)])]) ?_ ?_|apply sq 11 h [3,4,6,8,9] [6] [] [] (_:Nat) (fun p x y=>[(49,.d (.bool x.1))]) (fun p x y=>[(9,.cells p [.d (I x.2.dI),.d (I x.2.lS),.d (I x.2.cw),.d (.bool x.2.ww),.d (I x.2.vz)])]) ?_ ?_|apply sq 1014 h [3,6,8,9] [6] [] [] (_:Nat) (fun p x y=>[]) (fun p x y=>[(9,.cells p [.d (I x.dI),.d (I x.lS),.d (I x.cw),.d (.bool x.ww),.d (I x.vz)])]) ?_ ?_|apply sq 14 h [3,6,8,9] [6] [] [] (_:Nat) (fun p x y=>[(67,.d (.bool x.1))]) (fun p x y=>[(9,.cells p [.d (I x.2.dI),.d (I x.2.lS),.d (I x.2.cw),.d (.bool x.2.ww),.d (I x.2.vz)])]) ?_ ?_|apply sq 1018 h [6,8,9] [6] [] [] (_:Nat) (fun p x y=>[]) (fun p x y=>[(9,.cells p [.d (I x.dI),.d (I x.lS),.d (I x.cw),.d (.bool x.ww),.d (I x.vz)])]) ?_ ?_|intro _|apply Br.mk|refine TyG.mk fun _ h=>?_|(refine hs h ?_;intro _ _ h))
theorem Ed{N:Nat}(hN:N≤1073741824){l1:bW}{sheet1:List Int}{r:nT×(List pf)}(h:Ct N l1 sheet1=some r) :
    ACalls Tryz.prog 44 [.d (.agg [I l1.bv,I l1.gV,I l1.ar,I l1.sd]),.d (.list 1 (Jy I sheet1))] [] fun e os=>e=.ret (.d (.tup [.agg [I r.1.dI,I r.1.lS,I r.1.cw,.bool r.1.ww,I r.1.vz],.list 2 (Jy pf.enc r.2)]))∧os=[]:=by
  refine ah (fresh:=false) al ap ⟨[2],[],[],[],[4,6,1003],0,[]⟩ Tryz.func44 rfl Tryz.call44 rfl ?_
  unfold Ct at h
  repeat' ((conv=>whnf)<;>first|refine u (k:=?_)|exact v|refine aap pf.enc _ [(pf.mk _ _)] hN rfl rfl ‹_› (by decide) ?_|refine Both.mk ?_ ?_|refine cp (FT hN am) ?_|apply sq 1003 h [4,6] [4] [.t 7] [] (_:Nat) (fun p x y=>[(7,.sl 44 (y.v 0))]) (fun p x y=>[(6,.cells p [.d (I x.1.dI),.d (I x.1.lS),.d (I x.1.cw),.d (.bool x.1.ww),.d (I x.1.vz)]),(44,.arr (y.v 0) 114 2 false (Jy pf.enc x.2))]) ?_ ?_|apply lp 4 h [1,2,4,6] [4] [.t 7] [] (_:Nat) (fun p y=>[(7,.sl 44 (y.y.v 0)),(8,.d (I y.x.1))]) (fun p y=>[(6,.cells p [.d (I y.x.2.1.dI),.d (I y.x.2.1.lS),.d (I y.x.2.1.cw),.d (.bool y.x.2.1.ww),.d (I y.x.2.1.vz)]),(44,.arr (y.y.v 0) 114 2 false (Jy pf.enc y.x.2.2))]) ?_ ?_|refine sq 4 h [1,2,4,6,7,8] [4,6,44] [] [] () (fun p x y=>[(25,.d (.bool x))]) (fun p x y=>[]) ?_ ?_|refine dr 0 13 (tkA 5 0 (.spl 17 (tkA 6 5 (.alt 11 [9,8,7,3,2,1,0] (.take 12 .done) .nil)))) rfl (by kernel_rfl) ?_|refine cp (Gs hN am) ?_|refine sq 6 h [1,2,4,6,7,8] [4,6,44] [] [.t 9] () (fun p x y=>[(9,.ptr 9 (y.b 0) 0),(10,.d (I x.1))]) (fun p x y=>[(9,.cells (y.b 0) [.d (I x.2.dI),.d (I x.2.lS),.d (I x.2.cw),.d (.bool x.2.ww),.d (I x.2.vz)])]) ?_ ?_|refine dr 0 29 (tkA 6 0 (.alt 6 [4,3,2] (tkA 3 7 (.alt 10 [9,8,7,4,3,2] (.alt 11 [9] (.take 12 .done) .nil) .nil)) (.alt 10 [5,4,3,2,1,0] (.alt 6 [4,3,2] (tkA 3 7 (.alt 11 [9] (.take 12 .done) .nil)) .nil) .nil))) rfl (by kernel_rfl) ?_|refine cp (FU hN am) ?_|(rw[CG]at h;delta w64 at h)|intro _|apply Br.mk|refine TyG.mk fun _ h=>?_|(refine hs h ?_;intro _ _ h))
theorem Ie{N:Nat}(hN:N≤1073741824){l1:bW}{sheet1:List Int}{r:Bool}(h:DX N l1 sheet1=some r) :
    ACalls Tryz.prog 112 [.d (.agg [I l1.bv,I l1.gV,I l1.ar,I l1.sd]),.d (.list 1 (Jy I sheet1))] [] fun e os=>e=.ret (.d (.bool r))∧os=[]:=by
  refine ah (fresh:=false) al ap ⟨[2],[],[],[],[],0,[]⟩ Tryz.func112 rfl Tryz.call112 rfl ?_
  unfold DX at h
  repeat' ((conv=>whnf)<;>first|refine u (k:=?_)|exact v|refine cp (Ed hN am) ?_|intro _|apply Br.mk|(refine hs h ?_;intro _ _ h))
theorem Fr{N:Nat}(hN:N≤1073741824){l1:bW}{sheet1:List Int}{r:(List Int)}(h:C0 N l1 sheet1=some r) :
    ACalls Tryz.prog 21 [.d (.agg [I l1.bv,I l1.gV,I l1.ar,I l1.sd]),.d (.list 1 (Jy I sheet1))] [] fun e os=>e=.ret (.d (.list 1 (Jy I r)))∧os=[]:=by
  refine ah (fresh:=false) al ap ⟨[2],[],[],[],[14,16,1004,1007,1008,1011,1014,1016,1020],0,[]⟩ Tryz.func21 rfl Tryz.call21 rfl ?_
  unfold C0 at h
  repeat' ((refine np ?_;conv=>whnf)<;>first|refine u (k:=?_)|exact v|refine cp (Ed hN am) ?_|refine st 1004 (F:=GR (CH N)) r [] [] [.t 7] [] () (fun p y=>[(7,.sl 110 (y.y.v 0))]) (fun p y=>[(110,.arr (y.y.v 0) 3 1 false (Jy I y.x))]) ?_ ?_|refine lp 5 h [2,5,6] [5] [.t 7] [] () (fun p y=>[(7,.sl 110 (y.y.v 0)),(8,.d (I y.x.1)),(9,.d (I y.x.2.1))]) (fun p y=>[(110,.arr (y.y.v 0) 3 1 false (Jy I y.x.2.2))]) ?_ ?_|apply st 1007 (F:=Jl (CJ N _ _)) r [2,5,6,9] [5] [.t 7] [] () (fun p y=>[(7,.sl 110 (y.y.v 0)),(8,.d (I y.x.1))]) (fun p y=>[(110,.arr (y.y.v 0) 3 1 false (Jy I y.x.2))]) ?_ ?_|refine sq 1008 h [2,5,6,7,8,9] [5,110] [] [] () (fun p x y=>[(10,.d (I x.1)),(11,.d (I x.2.1)),(12,.d (I x.2.2))]) (fun p x y=>[]) ?_ ?_|refine lp 9 h [2,5,6,7,8,9] [5,110] [] [] () (fun p y=>[(10,.d (I y.x.1)),(11,.d (I y.x.2.1)),(12,.d (I y.x.2.2.1)),(13,.d (I y.x.2.2.2))]) (fun p y=>[]) ?_ ?_|refine sq 1011 h [2,5,6,7,8,9,13] [5,110] [] [] () (fun p x y=>[(10,.d (I x.1)),(11,.d (I x.2.1)),(12,.d (I x.2.2))]) (fun p x y=>[]) ?_ ?_|refine sq 1014 h [2,5,6,7,8,9,10,11,12] [5,110] [] [] () (fun p x y=>[(14,.d (I x))]) (fun p x y=>[]) ?_ ?_|refine sq 14 h [2,5,6,7,8,9,10,11,12,14] [5,110] [] [] () (fun p x y=>[(65,.d (.bool x))]) (fun p x y=>[]) ?_ ?_|refine sq 1016 h [2,5,6,7,8,9,10,12] [5,110] [] [] () (fun p x y=>[(14,.d (I x))]) (fun p x y=>[]) ?_ ?_|refine sq 16 h [2,5,6,7,8,9,10,12,14] [5,110] [] [] () (fun p x y=>[(80,.d (.bool x))]) (fun p x y=>[]) ?_ ?_|refine sq 1020 h [2,5,6,7,8,9] [5,110] [] [] () (fun p x y=>[(10,.d (I x))]) (fun p x y=>[]) ?_ ?_|refine lp 21 h [2,5,6,7,8,9,12,14] [5,110] [] [] () (fun p y=>[(10,.d (I y.x.1)),(15,.d (I y.x.2))]) (fun p y=>[]) ?_ ?_|(rw[Cp]at h;delta w64 at h)|(rw[Cn]at h;delta w64 at h)|(rw[Co]at h;delta w64 at h)|(unfold CJ at h;delta w64 at h)|unfold CH at h|intro _|apply Br.mk|refine TyG.mk fun _ h=>?_|(refine hs h ?_;intro _ _ h))
theorem FV{N:Nat}(hN:N≤1073741824){l1:bW}{sheet1:List Int}{r:Int}(h:Cq N l1 sheet1=some r) :
    ACalls Tryz.prog 113 [.d (.agg [I l1.bv,I l1.gV,I l1.ar,I l1.sd]),.d (.list 1 (Jy I sheet1))] [] fun e os=>e=.ret (.d (I r))∧os=[]:=by
  refine ah (fresh:=false) al ap ⟨[2],[],[],[],[2],0,[]⟩ Tryz.func113 rfl Tryz.call113 rfl ?_
  unfold Cq at h
  delta w64 at h
  repeat' ((conv=>whnf)<;>first|refine u (k:=?_)|exact v|refine cp (Ed hN am) ?_|refine sq0 2 h [1,2] (fun x=>[(24,.d (.bool x))]) ?_ ?_|refine dr 0 25 (tkA 2 0 (tkA 3 3 (.alt 2 [5,4,3] (tkA 3 6 .done) .nil))) rfl (by kernel_rfl) ?_|refine cp (Fr hN am) ?_|intro _|apply Br.mk|refine TyG.mk fun _ h=>?_|(refine hs h ?_;intro _ _ h))
theorem Hn{N:Nat}(hN:N≤1073741824){l1:List Int}{n1:Int}{r:Bool}(h:DP N l1 n1=some r) :
    ACalls Tryz.prog 102 [.d (.list 1 (Jy I l1)),.d (I n1)] [] fun e os=>e=.ret (.d (.bool r))∧os=[]:=by
  refine Cs al ap [1001] 0 Tryz.func102 rfl Tryz.call102 rfl ?_
  unfold DP at h
  repeat' ((conv=>whnf)<;>first|refine u (k:=?_)|exact v|refine st0 1001 (F:=C7 (DO N)) r [] (fun y=>[]) ?_ ?_|refine lp0 2 h [0,1] (fun y=>[(5,.d (I y.x))]) ?_ ?_|(rw[Ex]at h;delta w64 at h)|unfold DO at h|intro _|apply Br.mk|refine TyG.mk fun _ h=>?_|(refine hs h ?_;intro _ _ h))
theorem Gv{N:Nat}(hN:N≤1073741824){c1:nW}{r:(List nR)}(h:Dy N c1=some r) :
    ACalls Tryz.prog 150 [.d (.agg [.int .u8 c1.sU,I c1.mn,I c1.bg,.list 3 (Jy dt.enc c1.aP)])] [] fun e os=>e=.ret (.d (.list 4 (Jy nR.enc r)))∧os=[]:=by
  refine ah (fresh:=false) al ap ⟨[1],[],[],[],[1002,1003,1007],0,[]⟩ Tryz.func150 rfl Tryz.call150 rfl ?_
  unfold Dy at h
  repeat' ((conv=>whnf)<;>first|refine u (k:=?_)|exact v|refine aap nR.enc _ [(nR.mk (sb.mk _ (-1)) _)] hN rfl rfl ‹_› (by decide) ?_|refine st0 1002 (F:=C7 (DL N)) r [1,3] (fun y=>[]) ?_ ?_|refine sq 1003 h [] [] [.t 3] [] () (fun p x y=>[(3,.sl 43 (y.v 0))]) (fun p x y=>[(43,.arr (y.v 0) 286 4 false (Jy nR.enc x))]) ?_ ?_|refine lp 4 h [1] [] [.t 3] [] () (fun p y=>[(3,.sl 43 (y.y.v 0)),(4,.d (I y.x.1))]) (fun p y=>[(43,.arr (y.y.v 0) 286 4 false (Jy nR.enc y.x.2))]) ?_ ?_|refine sqb 1007 h [1,3,4,5] [43] [] [] 5 (fun p x y=>[]) (fun p x y=>[(5,.cells p [.d (I x.mo),.d (I x.dA)])]) ?_|(rw[C8]at h;delta w64 at h)|unfold DL at h|refine Both.mk ?_ ?_|intro _|apply Br.mk|refine TyG.mk fun _ h=>?_|(refine hs h ?_;intro _ _ h))
theorem ES{N:Nat}(hN:N≤1073741824){c1:nW}{match1:Int}{r:Int}(h:Dd N c1 match1=some r) :
    ACalls Tryz.prog 161 [.d (.agg [.int .u8 c1.sU,I c1.mn,I c1.bg,.list 3 (Jy dt.enc c1.aP)]),.d (I match1)] [] fun e os=>e=.ret (.d (I r))∧os=[]:=by
  refine ah (fresh:=false) al ap ⟨[2],[],[],[],[1001],0,[]⟩ Tryz.func161 rfl Tryz.call161 rfl ?_
  unfold Dd at h
  repeat' ((conv=>whnf)<;>first|refine u (k:=?_)|exact v|refine st0 1001 (F:=C7 (C9 N)) r [] (fun y=>[]) ?_ ?_|refine lp0 2 h [1,2] (fun y=>[(5,.d (I y.x))]) ?_ ?_|(rw[CL]at h;delta w64 at h)|unfold C9 at h|intro _|apply Br.mk|refine TyG.mk fun _ h=>?_|(refine hs h ?_;intro _ _ h))
theorem ET{N:Nat}(hN:N≤1073741824){games1:List Int}{player1:Int}{r:Int}(h:CU N games1 player1=some r) :
    ACalls Tryz.prog 162 [.d (.list 1 (Jy I games1)),.d (I player1)] [] fun e os=>e=.ret (.d (I r))∧os=[]:=by
  refine Cs al ap [1002,1005] 0 Tryz.func162 rfl Tryz.call162 rfl ?_
  unfold CU at h
  repeat' ((conv=>whnf)<;>first|refine u (k:=?_)|exact v|refine sq0 1002 h [] (fun x=>[(5,.d (I x))]) ?_ ?_|refine lp0 3 h [0,1] (fun y=>[(5,.d (I y.x.1)),(6,.d (I y.x.2))]) ?_ ?_|refine sq0 1005 h [0,1,6] (fun x=>[(5,.d (I x))]) ?_ ?_|(rw[zG]at h;delta w64 at h)|intro _|apply Br.mk|refine TyG.mk fun _ h=>?_|(refine hs h ?_;intro _ _ h))
theorem EW{N:Nat}(hN:N≤1073741824){c1:nW}{games1:List Int}{r:Int}(h:CM N c1 games1=some r) :
    ACalls Tryz.prog 214 [.d (.agg [.int .u8 c1.sU,I c1.mn,I c1.bg,.list 3 (Jy dt.enc c1.aP)]),.d (.list 1 (Jy I games1))] [] fun e os=>e=.ret (.d (I r))∧os=[]:=by
  refine ah (fresh:=false) al ap ⟨[2],[],[],[],[1001],0,[]⟩ Tryz.func214 rfl Tryz.call214 rfl ?_
  unfold CM at h
  repeat' ((conv=>whnf)<;>first|refine u (k:=?_)|exact v|refine st0 1001 (F:=C7 (C3 N)) r [] (fun y=>[]) ?_ ?_|refine lp0 2 h [1,2] (fun y=>[(5,.d (I y.x))]) ?_ ?_|refine dr 0 12 (tkA 5 0 (tkA 2 7 (.alt 5 [8,7,3,2,1] (.take 6 (.take 9 .done)) .nil))) rfl (by kernel_rfl) ?_|refine cp (ET hN am) ?_|(rw[zc]at h;delta w64 at h)|unfold C3 at h|intro _|apply Br.mk|refine TyG.mk fun _ h=>?_|(refine hs h ?_;intro _ _ h))
theorem E9{N:Nat}(hN:N≤1073741824){c1:nW}{match1:Int}{r:Int}(h:Dz N c1 match1=some r) :
    ACalls Tryz.prog 160 [.d (.agg [.int .u8 c1.sU,I c1.mn,I c1.bg,.list 3 (Jy dt.enc c1.aP)]),.d (I match1)] [] fun e os=>e=.ret (.d (I r))∧os=[]:=by
  refine ah (fresh:=false) al ap ⟨[2],[],[],[],[],0,[]⟩ Tryz.func160 rfl Tryz.call160 rfl ?_
  unfold Dz at h
  repeat' ((conv=>whnf)<;>first|refine u (k:=?_)|exact v|refine cp (ES hN am) ?_|refine dr 0 11 (tkA 7 0 (.alt 7 [5,4,3,2,1] (.take 8 .done) .nil)) rfl (by kernel_rfl) ?_|refine cp (EW hN am) ?_|intro _|apply Br.mk|(refine hs h ?_;intro _ _ h))
theorem FZ{N:Nat}(hN:N≤1073741824){c1:nW}{s1:sb}{r:Int}(h:CA N c1 s1=some r) :
    ACalls Tryz.prog 159 [.d (.agg [.int .u8 c1.sU,I c1.mn,I c1.bg,.list 3 (Jy dt.enc c1.aP)]),.d (.agg [I s1.mo,I s1.dA])] [] fun e os=>e=.ret (.d (I r))∧os=[]:=by
  refine ah (fresh:=false) al ap ⟨[2,3],[],[],[],[],0,[]⟩ Tryz.func159 rfl Tryz.call159 rfl ?_
  unfold CA at h
  repeat' ((conv=>whnf)<;>first|refine u (k:=?_)|exact v|refine cp (E9 hN am) ?_|intro _|apply Br.mk|(refine hs h ?_;intro _ _ h))
theorem Gw{N:Nat}(hN:N≤1073741824){c1:nW}{r:(List C4)}(h:DA N c1=some r) :
    ACalls Tryz.prog 114 [.d (.agg [.int .u8 c1.sU,I c1.mn,I c1.bg,.list 3 (Jy dt.enc c1.aP)])] [] fun e os=>e=.ret (.d (.list 5 (Jy C4.enc r)))∧os=[]:=by
  refine ah (fresh:=false) al ap ⟨[1],[],[],[],[7,1003,1006,1009],0,[]⟩ Tryz.func114 rfl Tryz.call114 rfl ?_
  unfold DA at h
  repeat' ((conv=>whnf)<;>first|refine u (k:=?_)|exact v|refine aap C4.enc _ [_] hN rfl rfl ‹_› (by decide) ?_|refine cp (Gv hN am) ?_|refine sq 1003 h [] [] [.t 4] [] () (fun p x y=>[(4,.sl 74 (y.v 0))]) (fun p x y=>[(74,.arr (y.v 0) 222 5 false (Jy C4.enc x))]) ?_ ?_|refine lp 4 h [1,3] [] [.t 4] [] () (fun p y=>[(4,.sl 74 (y.y.v 0)),(5,.d (I y.x.1))]) (fun p y=>[(74,.arr (y.y.v 0) 222 5 false (Jy C4.enc y.x.2))]) ?_ ?_|refine sq 1006 h [1,3,5] [] [.t 4] [] () (fun p x y=>[(4,.sl 74 (y.v 0))]) (fun p x y=>[(74,.arr (y.v 0) 222 5 false (Jy C4.enc x))]) ?_ ?_|refine dr 0 18 (tkA 6 0 (tkA 6 7 (.alt 6 [12,11,10,9,8,7,4,3,2,1] (.alt 13 [11,10,9,8,4,3,2,1] (tkA 2 14 .done) .nil) .nil))) rfl (by kernel_rfl) ?_|refine cp (FZ hN am) ?_|refine sq 7 h [1,3,4,5,6,7] [74] [] [] () (fun p x y=>[(43,.d (.bool x))]) (fun p x y=>[]) ?_ ?_|refine cp (E9 hN am) ?_|apply sq 1009 h [1,3,4,5,8] [74] [] [] (_:Nat) (fun p x y=>[]) (fun p x y=>[(8,.cells p [.d (I x.bX),.d (I x.rx),.d (I x.C6),.d (I x.fWon),.d (I x.fLost)])]) ?_ ?_|refine cp (ES hN am) ?_|refine dr 0 53 (tkA 7 0 (tkA 7 8 (.alt 7 [14,13,12,11,10,9,8,4,3,2,1,0] (.take 16 (.alt 15 [16,12,11,10,9,8,4,3,2,1,0] (.alt 17 [12,11,10,9,8] (.take 18 (.alt 19 [] .done .nil)) .nil) .nil)) .nil))) rfl (by kernel_rfl) ?_|refine cp (ET hN am) ?_|(rw[CN]at h;delta w64 at h)|intro _|apply Br.mk|refine TyG.mk fun _ h=>?_|(refine hs h ?_;intro _ _ h))
theorem K9{N:Nat}(hN:N≤1073741824){b1:ml}{s1:b9}{r:Bool}(h:GP N b1 s1=some r) :
    ACalls Tryz.prog 59 [.d (.agg [I b1.fu.o8,I b1.fu.jF,I b1.fu.uq,I b1.fu.ue,I b1.fu.o9,.list 1 (Jy I b1.az),.list 6 (Jy b9.enc b1.aD),.list 1 (Jy I b1.ak)]),.d (.agg [I s1.bX,I s1.af,I s1.j2,I s1.bg.a0,I s1.bg.a1,I s1.bg.a2])] [] fun e os=>e=.ret (.d (.bool r))∧os=[]:=by
  refine ah (fresh:=false) al ap ⟨[2,3],[],[],[],[7,1003],0,[]⟩ Tryz.func59 rfl Tryz.call59 rfl ?_
  unfold GP at h
  repeat' ((conv=>whnf)<;>first|refine u (k:=?_)|exact v|refine cp (Hn hN am) ?_|refine st0 1003 (F:=C7 (FO N)) r [] (fun y=>[]) ?_ ?_|refine lp0 4 h [2,3] (fun y=>[(5,.d (I y.x))]) ?_ ?_|refine sq0 7 h [2,3,5] (fun x=>[(50,.d (.bool x))]) ?_ ?_|(rw[zQ]at h;delta w64 at h)|unfold FO at h|intro _|apply Br.mk|refine TyG.mk fun _ h=>?_|(refine hs h ?_;intro _ _ h))
theorem L3{N:Nat}(hN:N≤1073741824){b1:ml}{bowler1:Int}{week1:Int}{r:(Ar3 Int)×Bool}(h:J3 N b1 bowler1 week1=some r) :
    ACalls Tryz.prog 49 [.d (.agg [I b1.fu.o8,I b1.fu.jF,I b1.fu.uq,I b1.fu.ue,I b1.fu.o9,.list 1 (Jy I b1.az),.list 6 (Jy b9.enc b1.aD),.list 1 (Jy I b1.ak)]),.d (I bowler1),.d (I week1)] [] fun e os=>e=.ret (.d (.tup [.agg [I r.1.a0,I r.1.a1,I r.1.a2],.bool r.2]))∧os=[]:=by
  refine ah (fresh:=false) al ap ⟨[3],[],[],[],[5,1001],0,[]⟩ Tryz.func49 rfl Tryz.call49 rfl ?_
  unfold J3 at h
  repeat' ((conv=>whnf)<;>first|refine u (k:=?_)|exact v|refine st 1001 (F:=C7 (Jw N)) r [6] [6] [] [] () (fun p y=>[]) (fun p y=>[]) ?_ ?_|refine lp 2 h [1,2,3,6] [6] [] [] () (fun p y=>[(8,.d (I y.x))]) (fun p y=>[]) ?_ ?_|refine sq 5 h [1,2,3,6,8,9] [6,9] [] [] () (fun p x y=>[(36,.d (.bool x))]) (fun p x y=>[]) ?_ ?_|refine cp (K9 hN am) ?_|(rw[ER]at h;delta w64 at h)|unfold Jw at h|intro _|apply Br.mk|refine TyG.mk fun _ h=>?_|(refine hs h ?_;intro _ _ h))
theorem JW{N:Nat}(hN:N≤1073741824){b1:ml}{bowler1:Int}{week1:Int}{games1:Int}{sum1:Int}{r:Int}(h:Ev N b1 bowler1 week1 games1 sum1=some r) :
    ACalls Tryz.prog 24 [.d (.agg [I b1.fu.o8,I b1.fu.jF,I b1.fu.uq,I b1.fu.ue,I b1.fu.o9,.list 1 (Jy I b1.az),.list 6 (Jy b9.enc b1.aD),.list 1 (Jy I b1.ak)]),.d (I bowler1),.d (I week1),.d (I games1),.d (I sum1)] [] fun e os=>e=.ret (.d (I r))∧os=[]:=by
  refine ah (fresh:=false) al ap ⟨[5],[],[],[],[1001,1004],0,[]⟩ Tryz.func24 rfl Tryz.call24 rfl ?_
  unfold Ev at h
  delta w64 at h
  repeat' ((conv=>whnf)<;>first|refine u (k:=?_)|exact v|refine sq0 1001 h [1,5] (fun x=>[(3,.d (I x.1)),(4,.d (I x.2))]) ?_ ?_|refine lp0 2 h [1,2,5] (fun y=>[(3,.d (I y.x.1)),(4,.d (I y.x.2.1)),(11,.d (I y.x.2.2))]) ?_ ?_|refine sq0 1004 h [1,2,5,11] (fun x=>[(3,.d (I x.1)),(4,.d (I x.2))]) ?_ ?_|refine cp (L3 hN am) ?_|refine dr 0 27 (tkA 12 0 (.alt 12 [11,10,9,8,7,6,5,4,3,2] (.alt 13 [] .done .nil) .nil)) rfl (by kernel_rfl) ?_|(rw[yU]at h;delta w64 at h)|intro _|apply Br.mk|refine TyG.mk fun _ h=>?_|(refine hs h ?_;intro _ _ h))
theorem KU{N:Nat}(hN:N≤1073741824){b1:ml}{bowler1:Int}{week1:Int}{r:Int}(h:EQ N b1 bowler1 week1=some r) :
    ACalls Tryz.prog 25 [.d (.agg [I b1.fu.o8,I b1.fu.jF,I b1.fu.uq,I b1.fu.ue,I b1.fu.o9,.list 1 (Jy I b1.az),.list 6 (Jy b9.enc b1.aD),.list 1 (Jy I b1.ak)]),.d (I bowler1),.d (I week1)] [] fun e os=>e=.ret (.d (I r))∧os=[]:=by
  refine ah (fresh:=false) al ap ⟨[3],[],[],[],[],0,[]⟩ Tryz.func25 rfl Tryz.call25 rfl ?_
  unfold EQ at h
  delta w64 at h
  repeat' ((conv=>whnf)<;>first|refine u (k:=?_)|exact v|refine Need.mk (by decide) ?_|refine dr 0 8 (tkA 6 0 (.alt 6 [2,1,0] (tkA 2 7 .done) .nil)) rfl (by kernel_rfl) ?_|refine cp (JW hN am) ?_|intro _|apply Br.mk|(refine hs h ?_;intro _ _ h))
theorem Dn{N:Nat}(hN:N≤1073741824){n1:Int}{low1:Int}{high1:Int}{r:Bool}(h:Bw N n1 low1 high1=some r) :
    ACalls Tryz.prog 17 [.d (I n1),.d (I low1),.d (I high1)] [] fun e os=>e=.ret (.d (.bool r))∧os=[]:=by
  refine Cs al ap [1] 0 Tryz.func17 rfl Tryz.call17 rfl ?_
  unfold Bw at h
  repeat' ((conv=>whnf)<;>first|refine u (k:=?_)|exact v|refine sq0 1 h [] (fun x=>[(6,.d (.bool x))]) ?_ ?_|intro _|apply Br.mk|refine TyG.mk fun _ h=>?_|(refine hs h ?_;intro _ _ h))
