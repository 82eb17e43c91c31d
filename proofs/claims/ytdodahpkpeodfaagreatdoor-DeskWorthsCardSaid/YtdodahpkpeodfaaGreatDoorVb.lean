/-
  Walks: what the typed functions compute, the program’s functions return.
-/
import Derived.Test.YtdodahpkpeodfaaGreatDoorWe
open List renaming map→Jy
namespace Go.Proofs.YtdodahpkpeodfaaGreatDoor
open Go Go.Abs Go.Kp
set_option maxRecDepth 100000
set_option maxHeartbeats 64000000
set_option linter.all false
theorem mJ{N:Nat}(hN:N≤1073741824){r1:ab}{r:Bool}(h:gI N r1=some r) :
    ACalls Tryz.prog 140 [.d (.agg [I r1.dA,.list 1 (Jy I r1.bg),.bool r1.lT])] [] fun e os=>e=.ret (.d (.bool r))∧os=[]:=by
  refine ah (fresh:=false) al ap ⟨[1],[],[],[],[],0,[]⟩ Tryz.func140 rfl Tryz.call140 rfl ?_
  unfold gI at h
  repeat' ((conv=>whnf)<;>first|refine u (k:=?_)|exact v|intro _|apply Br.mk|(refine hs h ?_;intro _ _ h))
theorem rq{N:Nat}(hN:N≤1073741824){x1:ab}{r:Bool}(h:kD N x1=some r) :
    ACalls Tryz.prog 190 [.d (.agg [I x1.dA,.list 1 (Jy I x1.bg),.bool x1.lT]),.d (.ref (.agg [.fn (.func 140) [] []]))] [] fun e os=>e=.ret (.d (.bool r))∧os=[]:=by
  refine ah (fresh:=false) al ap ⟨[2],[],[],[],[],0,[]⟩ Tryz.func190 rfl Tryz.call190 rfl ?_
  unfold kD at h
  repeat' ((conv=>whnf)<;>first|refine u (k:=?_)|exact v|refine cp (mJ hN am) ?_|intro _|apply Br.mk|(refine hs h ?_;intro _ _ h))
theorem kF{N:Nat}(hN:N≤1073741824){s1:List ab}{r:Int}(h:eG N s1=some r) :
    ACalls Tryz.prog 230 [.d (.list 3 (Jy ab.enc s1)),.d (.fn (.func 190) [] [.ref (.agg [.fn (.func 140) [] []])])] [] fun e os=>e=.ret (.d (I r))∧os=[]:=by
  refine Cs al ap [1001] 0 Tryz.func230 rfl Tryz.call230 rfl ?_
  unfold eG at h
  repeat' ((conv=>whnf)<;>first|refine u (k:=?_)|exact v|refine st0 1001 (F:=C7 (dh N)) r [] (fun y=>[]) ?_ ?_|refine lp0 2 h [0,1] (fun y=>[(7,.d (I y.x.1)),(8,.d (I y.x.2))]) ?_ ?_|refine cp (rq hN am) ?_|(rw[bD]at h;delta w64 at h)|unfold dh at h|intro _|apply Br.mk|refine TyG.mk fun _ h=>?_|(refine hs h ?_;intro _ _ h))
theorem jp{N:Nat}(hN:N≤1073741824){s1:List ab}{r:Bool}(h:KD N s1=some r) :
    ACalls Tryz.prog 189 [.d (.list 3 (Jy ab.enc s1)),.d (.fn (.func 190) [] [.ref (.agg [.fn (.func 140) [] []])])] [] fun e os=>e=.ret (.d (.bool r))∧os=[]:=by
  refine Cs al ap [] 0 Tryz.func189 rfl Tryz.call189 rfl ?_
  unfold KD at h
  repeat' ((conv=>whnf)<;>first|refine u (k:=?_)|exact v|refine cp (kF hN am) ?_|intro _|apply Br.mk|(refine hs h ?_;intro _ _ h))
theorem ss{N:Nat}(hN:N≤1073741824){l1:List ab}{r:Bool}(h:lM N l1=some r) :
    ACalls Tryz.prog 143 [.d (.list 3 (Jy ab.enc l1)),.d (.fn (.func 140) [] [])] [] fun e os=>e=.ret (.d (.bool r))∧os=[]:=by
  refine ah (fresh:=false) al ap ⟨[3],[],[],[],[],0,[]⟩ Tryz.func143 rfl Tryz.call143 rfl ?_
  unfold lM at h
  repeat' ((conv=>whnf)<;>first|refine u (k:=?_)|exact v|refine cp (jp hN am) ?_|intro _|apply Br.mk|(refine hs h ?_;intro _ _ h))
theorem im{N:Nat}(hN:N≤1073741824){n1:Int}{low1:Int}{high1:Int}{r:Bool}(h:eH N n1 low1 high1=some r) :
    ACalls Tryz.prog 142 [.d (I n1),.d (I low1),.d (I high1)] [] fun e os=>e=.ret (.d (.bool r))∧os=[]:=by
  refine Cs al ap [1] 0 Tryz.func142 rfl Tryz.call142 rfl ?_
  unfold eH at h
  repeat' ((conv=>whnf)<;>first|refine u (k:=?_)|exact v|refine sq0 1 h [] (fun x=>[(6,.d (.bool x))]) ?_ ?_|intro _|apply Br.mk|refine TyG.mk fun _ h=>?_|(refine hs h ?_;intro _ _ h))
theorem mK{N:Nat}(hN:N≤1073741824){c1:gu}{r:Int}(h:gJ N c1=some r) :
    ACalls Tryz.prog 144 [.d (.agg [.int .u8 c1.sU,I c1.mn,I c1.bg,.list 3 (Jy ab.enc c1.aP)])] [] fun e os=>e=.ret (.d (I r))∧os=[]:=by
  refine ah (fresh:=false) al ap ⟨[1],[],[],[],[1],0,[]⟩ Tryz.func144 rfl Tryz.call144 rfl ?_
  unfold gJ at h
  repeat' ((conv=>whnf)<;>first|refine u (k:=?_)|exact v|refine Need.mk (by decide) ?_|refine sq0 1 h [] (fun x=>[(23,.d (.bool x))]) ?_ ?_|refine cp (im hN am) ?_|intro _|apply Br.mk|refine TyG.mk fun _ h=>?_|(refine hs h ?_;intro _ _ h))
theorem mL{N:Nat}(hN:N≤1073741824){r1:ab}{a1:gu}{r:Bool}(h:gK N r1 a1=some r) :
    ACalls Tryz.prog 141 [.d (.agg [I r1.dA,.list 1 (Jy I r1.bg),.bool r1.lT]),.d (.ref (.agg [.int .u8 a1.sU,I a1.mn,I a1.bg,.list 3 (Jy ab.enc a1.aP)]))] [] fun e os=>e=.ret (.d (.bool r))∧os=[]:=by
  refine ah (fresh:=false) al ap ⟨[2],[],[],[],[1],0,[]⟩ Tryz.func141 rfl Tryz.call141 rfl ?_
  unfold gK at h
  delta w64 at h
  repeat' ((conv=>whnf)<;>first|refine u (k:=?_)|exact v|refine sq0 1 h [] (fun x=>[(3,.d (.bool x))]) ?_ ?_|refine cp (im hN am) ?_|intro _|apply Br.mk|refine TyG.mk fun _ h=>?_|(refine hs h ?_;intro _ _ h))
theorem qi{N:Nat}(hN:N≤1073741824){x1:ab}{a1:gu}{r:Bool}(h:jC N x1 a1=some r) :
    ACalls Tryz.prog 190 [.d (.agg [I x1.dA,.list 1 (Jy I x1.bg),.bool x1.lT]),.d (.ref (.agg [.fn (.func 141) [] [.ref (.agg [.int .u8 a1.sU,I a1.mn,I a1.bg,.list 3 (Jy ab.enc a1.aP)])]]))] [] fun e os=>e=.ret (.d (.bool r))∧os=[]:=by
  refine ah (fresh:=false) al ap ⟨[2],[],[],[],[],0,[]⟩ Tryz.func190 rfl Tryz.call190 rfl ?_
  unfold jC at h
  repeat' ((conv=>whnf)<;>first|refine u (k:=?_)|exact v|refine cp (mL hN am) ?_|intro _|apply Br.mk|(refine hs h ?_;intro _ _ h))
theorem j6{N:Nat}(hN:N≤1073741824){s1:List ab}{f1:gu}{r:Int}(h:d4 N s1 f1=some r) :
    ACalls Tryz.prog 230 [.d (.list 3 (Jy ab.enc s1)),.d (.fn (.func 190) [] [.ref (.agg [.fn (.func 141) [] [.ref (.agg [.int .u8 f1.sU,I f1.mn,I f1.bg,.list 3 (Jy ab.enc f1.aP)])]])])] [] fun e os=>e=.ret (.d (I r))∧os=[]:=by
  refine Cs al ap [1001] 0 Tryz.func230 rfl Tryz.call230 rfl ?_
  unfold d4 at h
  repeat' ((conv=>whnf)<;>first|refine u (k:=?_)|exact v|refine st0 1001 (F:=C7 (yx N)) r [] (fun y=>[]) ?_ ?_|refine lp0 2 h [0,1] (fun y=>[(7,.d (I y.x.1)),(8,.d (I y.x.2))]) ?_ ?_|refine cp (qi hN am) ?_|(rw[xW]at h;delta w64 at h)|unfold yx at h|intro _|apply Br.mk|refine TyG.mk fun _ h=>?_|(refine hs h ?_;intro _ _ h))
theorem jb{N:Nat}(hN:N≤1073741824){s1:List ab}{f1:gu}{r:Bool}(h:cU N s1 f1=some r) :
    ACalls Tryz.prog 189 [.d (.list 3 (Jy ab.enc s1)),.d (.fn (.func 190) [] [.ref (.agg [.fn (.func 141) [] [.ref (.agg [.int .u8 f1.sU,I f1.mn,I f1.bg,.list 3 (Jy ab.enc f1.aP)])]])])] [] fun e os=>e=.ret (.d (.bool r))∧os=[]:=by
  refine Cs al ap [] 0 Tryz.func189 rfl Tryz.call189 rfl ?_
  unfold cU at h
  repeat' ((conv=>whnf)<;>first|refine u (k:=?_)|exact v|refine cp (j6 hN am) ?_|intro _|apply Br.mk|(refine hs h ?_;intro _ _ h))
theorem rt{N:Nat}(hN:N≤1073741824){l1:List ab}{right1:gu}{r:Bool}(h:kE N l1 right1=some r) :
    ACalls Tryz.prog 143 [.d (.list 3 (Jy ab.enc l1)),.d (.fn (.func 141) [] [.ref (.agg [.int .u8 right1.sU,I right1.mn,I right1.bg,.list 3 (Jy ab.enc right1.aP)])])] [] fun e os=>e=.ret (.d (.bool r))∧os=[]:=by
  refine ah (fresh:=false) al ap ⟨[3],[],[],[],[],0,[]⟩ Tryz.func143 rfl Tryz.call143 rfl ?_
  unfold kE at h
  repeat' ((conv=>whnf)<;>first|refine u (k:=?_)|exact v|refine cp (jb hN am) ?_|intro _|apply Br.mk|(refine hs h ?_;intro _ _ h))
theorem kf{N:Nat}(hN:N≤1073741824){n1:Int}{r:nS}(h:gi N n1=some r) :
    ACalls Tryz.prog 231 [.d (I n1)] [] fun e os=>e=.ret (.d (.agg [I r.mo,I r.dA]))∧os=[]:=by
  refine Cs al ap [] 0 Tryz.func231 rfl Tryz.call231 rfl ?_
  unfold gi at h
  repeat' ((conv=>whnf)<;>first|refine u (k:=?_)|exact v|intro _|apply Br.mk|(refine hs h ?_;intro _ _ h))
theorem Ax{N:Nat}(hN:N≤1073741824){n1:Int}{r:nS}(h:y8 N n1=some r) :
    ACalls Tryz.prog 232 [.d (I n1)] [] fun e os=>e=.ret (.d (.agg [I r.mo,I r.dA]))∧os=[]:=by
  refine Cs al ap [] 0 Tryz.func232 rfl Tryz.call232 rfl ?_
  unfold y8 at h
  repeat' ((conv=>whnf)<;>first|refine u (k:=?_)|exact v|intro _|apply Br.mk|(refine hs h ?_;intro _ _ h))
theorem MP{N:Nat}(hN:N≤1073741824){c1:gu}{r:(List bh)}(h:fX N c1=some r) :
    ACalls Tryz.prog 191 [.d (.agg [.int .u8 c1.sU,I c1.mn,I c1.bg,.list 3 (Jy ab.enc c1.aP)])] [] fun e os=>e=.ret (.d (.list 4 (Jy bh.enc r)))∧os=[]:=by
  refine ah (fresh:=false) al ap ⟨[1],[],[],[],[1003],0,[]⟩ Tryz.func191 rfl Tryz.call191 rfl ?_
  unfold fX at h
  delta w64 at h
  repeat' ((conv=>whnf)<;>first|refine u (k:=?_)|exact v|refine aap bh.enc _ [(bh.mk _ _)] hN rfl rfl ‹_› (by decide) ?_|refine cp (kf hN am) ?_|refine sq 1003 h [] [] [.t 4] [] () (fun p x y=>[(4,.sl 15 (y.v 0))]) (fun p x y=>[(15,.arr (y.v 0) 309 4 false (Jy bh.enc x))]) ?_ ?_|refine lp 4 h [] [] [.t 4] [] () (fun p y=>[(3,.d (I y.x.1)),(4,.sl 15 (y.y.v 0)),(5,.d (I y.x.2.1))]) (fun p y=>[(15,.arr (y.y.v 0) 309 4 false (Jy bh.enc y.x.2.2))]) ?_ ?_|refine cp (Ax hN am) ?_|(rw[bV]at h;delta w64 at h)|intro _|apply Br.mk|refine TyG.mk fun _ h=>?_|(refine hs h ?_;intro _ _ h))
theorem jQ{N:Nat}(hN:N≤1073741824){c1:gu}{r:(List bh)}(h:ie N c1=some r) :
    ACalls Tryz.prog 145 [.d (.agg [.int .u8 c1.sU,I c1.mn,I c1.bg,.list 3 (Jy ab.enc c1.aP)])] [] fun e os=>e=.ret (.d (.list 4 (Jy bh.enc r)))∧os=[]:=by
  refine ah (fresh:=false) al ap ⟨[1],[],[],[],[],0,[]⟩ Tryz.func145 rfl Tryz.call145 rfl ?_
  unfold ie at h
  repeat' ((conv=>whnf)<;>first|refine u (k:=?_)|exact v|refine cp (MP hN am) ?_|intro _|apply Br.mk|(refine hs h ?_;intro _ _ h))
theorem qj{N:Nat}(hN:N≤1073741824) {r:Unit}(h:jD N=some r) :
    ACalls Tryz.prog 194 [] [] fun e os=>e=.ret (.d (.agg [.fn (.func 236) [] [],.fn (.func 237) [] []]))∧os=[]:=by
  refine Cs al ap [] 0 Tryz.func194 rfl Tryz.call194 rfl ?_
  unfold jD at h
  repeat' ((conv=>whnf)<;>first|refine u (k:=?_)|exact v|intro _|apply Br.mk|(refine hs h ?_;intro _ _ h))
theorem MW{N:Nat}(hN:N≤1073741824){p1:bh}{r:nS}(h:fY N p1=some r) :
    ACalls Tryz.prog 236 [.d (.agg [I p1.rx.mo,I p1.rx.dA,I p1.C6.mo,I p1.C6.dA])] [] fun e os=>e=.ret (.d (.agg [I r.mo,I r.dA]))∧os=[]:=by
  refine ah (fresh:=false) al ap ⟨[1],[],[],[],[],0,[]⟩ Tryz.func236 rfl Tryz.call236 rfl ?_
  unfold fY at h
  repeat' ((conv=>whnf)<;>first|refine u (k:=?_)|exact v|intro _|apply Br.mk|(refine hs h ?_;intro _ _ h))
theorem je{N:Nat}(hN:N≤1073741824){l1:List Int}{r:Int}(h:gq N l1=some r) :
    ACalls Tryz.prog 198 [.d (.list 1 (Jy I l1))] [] fun e os=>e=.ret (.d (I r))∧os=[]:=by
  refine Cs al ap [1001] 0 Tryz.func198 rfl Tryz.call198 rfl ?_
  unfold gq at h
  repeat' ((conv=>whnf)<;>first|refine u (k:=?_)|exact v|refine sq0 1001 h [] (fun x=>[(2,.d (I x))]) ?_ ?_|refine lp0 2 h [5] (fun y=>[(2,.d (I y.x.1)),(6,.d (I y.x.2.1)),(7,.d (I y.x.2.2))]) ?_ ?_|(rw[eJ]at h;delta w64 at h)|intro _|apply Br.mk|refine TyG.mk fun _ h=>?_|(refine hs h ?_;intro _ _ h))
theorem lh{N:Nat}(hN:N≤1073741824){p1:bh}{r:nS}(h:Kb N p1=some r) :
    ACalls Tryz.prog 237 [.d (.agg [I p1.rx.mo,I p1.rx.dA,I p1.C6.mo,I p1.C6.dA])] [] fun e os=>e=.ret (.d (.agg [I r.mo,I r.dA]))∧os=[]:=by
  refine ah (fresh:=false) al ap ⟨[1],[],[],[],[],0,[]⟩ Tryz.func237 rfl Tryz.call237 rfl ?_
  unfold Kb at h
  repeat' ((conv=>whnf)<;>first|refine u (k:=?_)|exact v|intro _|apply Br.mk|(refine hs h ?_;intro _ _ h))
theorem yj{N:Nat}(hN:N≤1073741824){match1:Int}{games1:List Int}{c1:Int}{c2:Int}{c3:Int}{c4:List ab}{c5:List bh}{m1:List (Int×ab)}{l1:List (Ar2 Int)}{bo1:Nat}{bo2:Nat}{ho1:Value}{r:(Ar2 Int)}(h:xS N match1 games1 c1 c2 c3 c4 c5 m1 l1=some r) :
    ACalls Tryz.prog 269 [.ptr 505040 bo1 0,.d (I match1),.d (.list 1 (Jy I games1))] [(505040,.cells bo1 (cD c1 c2 c3 c4 c5 505038 bo2 1735055 ho1)),(505038,.map bo2 (Jy eMR m1)),(1735055,.arr ho1 162 2 false (Jy eA2 l1))] fun ae os=>∃y:Unit,True∧ae=.ret (.d (.agg [I r.a0,I r.a1]))∧os=[(505040,.cells bo1 (cD c1 c2 c3 c4 c5 505038 bo2 1735055 ho1)),(505038,.map bo2 (Jy eMR m1)),(1735055,.arr ho1 162 2 false (Jy eA2 l1))]:=by
  refine Ij al ap [1003,1006] 1740000 Tryz.func269 rfl Tryz.call269 rfl ?_
  unfold xS at h
  repeat' ((conv=>whnf)<;>first|refine u (k:=?_)|exact v|refine lun 2 3 ?_|apply sq 1003 h [2,6,17,18] [505040,505038,1735055] [] [] (_:Nat) (fun p x y=>[]) (fun p x y=>[(1740006,.cells p [.d (I x.a0),.d (I x.a1)])]) ?_ ?_|apply lp 5 h [2,6,7,8,17,18,22] [505040,505038,1735055] [] [] (_:Nat) (fun p y=>[(23,.d (I y.x.1)),(24,.d (I y.x.2.1))]) (fun p y=>[(1740006,.cells p [.d (I y.x.2.2.a0),.d (I y.x.2.2.a1)])]) ?_ ?_|apply sq 1006 h [2,6,7,8,17,18,22,23,24] [505040,505038,1735055] [] [] (_:Nat) (fun p x y=>[]) (fun p x y=>[(1740006,.cells p [.d (I x.a0),.d (I x.a1)])]) ?_ ?_|refine cp (je (l1:=[_,1]) hN am) ?_|(rw[eE]at h;delta w64 at h)|(rw[eS]at h;delta w64 at h)|intro _|apply Br.mk|refine TyG.mk fun _ h=>?_|(refine hs h ?_;intro _ _ h))
theorem yL{N:Nat}(hN:N≤1073741824){match1:Int}{games1:List Int}{c1:Int}{c2:Int}{c3:Int}{c4:List ab}{c5:List bh}{m1:List (Int×ab)}{l1:List (Ar2 Int)}{bo1:Nat}{bo2:Nat}{ho1:Value}{r:Int}(h:xP N match1 games1 c1 c2 c3 c4 c5 m1 l1=some r) :
    ACalls Tryz.prog 235 [.ptr 505040 bo1 0,.d (I match1),.d (.list 1 (Jy I games1))] [(505040,.cells bo1 (cD c1 c2 c3 c4 c5 505038 bo2 1735055 ho1)),(505038,.map bo2 (Jy eMR m1)),(1735055,.arr ho1 162 2 false (Jy eA2 l1))] fun ae os=>∃y:Unit,True∧ae=.ret (.d (I r))∧os=[(505040,.cells bo1 (cD c1 c2 c3 c4 c5 505038 bo2 1735055 ho1)),(505038,.map bo2 (Jy eMR m1)),(1735055,.arr ho1 162 2 false (Jy eA2 l1))]:=by
  refine Ij al ap [] 1740000 Tryz.func235 rfl Tryz.call235 rfl ?_
  unfold xP at h
  delta w64 at h
  repeat' ((conv=>whnf)<;>first|refine u (k:=?_)|exact v|refine co (yj hN am) ?_|refine lun 2 3 ?_|intro _|apply Br.mk|(refine hs h ?_;intro _ _ h))
theorem zz{N:Nat}(hN:N≤1073741824){r1:ab}{c1:Int}{c2:Int}{c3:Int}{c4:List ab}{c5:List bh}{m1:List (Int×ab)}{l1:List (Ar2 Int)}{bo1:Nat}{bo2:Nat}{ho1:Value}{r:Bool}(h:yg N r1 c1 c2 c3 c4 c5 m1 l1=some r) :
    ACalls Tryz.prog 193 [.ptr 505040 bo1 0,.d (.agg [I r1.dA,.list 1 (Jy I r1.bg),.bool r1.lT])] [(505040,.cells bo1 (cD c1 c2 c3 c4 c5 505038 bo2 1735055 ho1)),(505038,.map bo2 (Jy eMR m1)),(1735055,.arr ho1 162 2 false (Jy eA2 l1))] fun ae os=>∃y:Unit,True∧ae=.ret (.d (.bool r))∧os=[(505040,.cells bo1 (cD c1 c2 c3 c4 c5 505038 bo2 1735055 ho1)),(505038,.map bo2 (Jy eMR m1)),(1735055,.arr ho1 162 2 false (Jy eA2 l1))]:=by
  refine aJ (fresh:=false) al ap ⟨[3],[],[],[],[2,8,1005],1740000,[5]⟩ Tryz.func193 rfl Tryz.call193 rfl ?_
  unfold yg at h
  repeat' ((conv=>whnf)<;>first|refine u (k:=?_)|exact v|refine ArrS.mk (Jy I [_,_]) rfl rfl (tP _ fun _=>rfl) ?_|refine dr 0 9 (tkA 8 0 (.alt 8 [7,6,5,4,3,2,1,0] (.alt 9 [] .done .nil) .nil)) rfl (by kernel_rfl) ?_|refine sq 2 h [0,3,5] [505040,505038,1735055] [] [] () (fun p x y=>[(24,.d (.bool x))]) (fun p x y=>[]) ?_ ?_|refine sq 1005 h [] [505040,505038,1735055] [] [] () (fun p x y=>[(6,.d (.bool x))]) (fun p x y=>[]) ?_ ?_|refine lp 6 h [0,3,5,6,26] [505040,505038,1735055] [] [] () (fun p y=>[(27,.d (I y.x.1)),(28,.d (I y.x.2))]) (fun p y=>[]) ?_ ?_|refine sq 8 h [0,3,5,6,26,27,28] [505040,505038,1735055] [] [] () (fun p x y=>[(47,.d (.bool x))]) (fun p x y=>[]) ?_ ?_|refine dr 0 33 (.take 1 (.alt 0 [1] (.alt 2 [] (tkA 2 3 (.spl 37 (tkA 6 5 (.alt 11 [8,7,6,5,3] (.alt 12 [8,6,3] (tkA 2 13 .done) .nil) .nil)))) .nil) .nil)) rfl (by kernel_rfl) ?_|refine cp (Ac hN am) ?_|refine co (yL hN am) ?_|(rw[fw]at h;delta w64 at h)|intro _|apply Br.mk|refine TyG.mk fun _ h=>?_|(refine hs h ?_;intro _ _ h))
theorem ym{N:Nat}(hN:N≤1073741824){match1:Int}{c1:Int}{c2:Int}{c3:Int}{c4:List ab}{c5:List bh}{m1:List (Int×ab)}{l1:List (Ar2 Int)}{bo1:Nat}{bo2:Nat}{ho1:Value}{r:Int}(h:dq N match1 c1 c2 c3 c4 c5 m1 l1=some r) :
    ACalls Tryz.prog 195 [.ptr 505040 bo1 0,.d (I match1)] [(505040,.cells bo1 (cD c1 c2 c3 c4 c5 505038 bo2 1735055 ho1)),(505038,.map bo2 (Jy eMR m1)),(1735055,.arr ho1 162 2 false (Jy eA2 l1))] fun ae os=>∃y:Unit,True∧ae=.ret (.d (I r))∧os=[(505040,.cells bo1 (cD c1 c2 c3 c4 c5 505038 bo2 1735055 ho1)),(505038,.map bo2 (Jy eMR m1)),(1735055,.arr ho1 162 2 false (Jy eA2 l1))]:=by
  refine Ij al ap [] 1740000 Tryz.func195 rfl Tryz.call195 rfl ?_
  unfold dq at h
  repeat' ((conv=>whnf)<;>first|refine u (k:=?_)|exact v|refine EU (eK:=(fun x:Int=>I x)) (eV:=(fun x:ab=>.agg [I x.dA,.list 1 (Jy I x.bg),.bool x.lT])) (fun _=>rfl) ?_|refine alk (eK:=(fun x:Int=>I x)) (eV:=(fun x:ab=>.agg [I x.dA,.list 1 (Jy I x.bg),.bool x.lT])) jg _ ((ab.mk 0 ([]) false)) rfl rfl ‹_› ?_|refine co (yL hN am) ?_|intro _|apply Br.mk|(refine hs h ?_;intro _ _ h))
theorem iA{N:Nat}(hN:N≤1073741824){c1:Int}{c2:Int}{c3:Int}{c4:List ab}{c5:List bh}{m1:List (Int×ab)}{bo1:Nat}{bo2:Nat}{r:Bool×Int×Int×Int×(List ab)×(List bh)×(List (Ar2 Int))}(h:fZ N c1 c2 c3 c4 c5 m1=some r) :
    ACalls Tryz.prog 146 [.ptr 505040 bo1 0] [(505040,.cells bo1 [.d (.int .u8 c1),.d (I c2),.d (I c3),.d (.list 3 (Jy ab.enc c4)),.d (.list 4 (Jy bh.enc c5)),.mp 505038 bo2,.nils 2]),(505038,.map bo2 (Jy eMR m1))] fun ae os=>∃y:Value,True∧ae=.ret (.d (.bool r.1))∧os=[(505040,.cells bo1 (cD r.2.1 r.2.2.1 r.2.2.2.1 r.2.2.2.2.1 r.2.2.2.2.2.1 505038 bo2 1735055 y)),(505038,.map bo2 (Jy eMR m1)),(1735055,.arr y 162 2 false (Jy eA2 r.2.2.2.2.2.2))]:=by
  refine Ij al ap [16,1002,1008] 1735000 Tryz.func146 rfl Tryz.call146 rfl ?_
  unfold fZ at h
  repeat' ((conv=>whnf)<;>first|refine u (k:=?_)|exact v|refine aap eA2 _ [_] hN rfl rfl ‹_› (by decide) ?_|refine EU (eK:=(fun x:Int=>I x)) (eV:=(fun x:ab=>.agg [I x.dA,.list 1 (Jy I x.bg),.bool x.lT])) (fun _=>rfl) ?_|refine alk (eK:=(fun x:Int=>I x)) (eV:=(fun x:ab=>.agg [I x.dA,.list 1 (Jy I x.bg),.bool x.lT])) jg 0 ((ab.mk 0 ([]) false)) rfl rfl ‹_› ?_|refine alk (eK:=(fun x:Int=>I x)) (eV:=(fun x:ab=>.agg [I x.dA,.list 1 (Jy I x.bg),.bool x.lT])) jg _ ((ab.mk 0 ([]) false)) rfl rfl ‹_› ?_|refine st 1002 (F:=GR (yJ N c1 c2 c3 c4 c5)) r [] [505038] [.c 505040 6] [] () (fun p y=>[]) (fun p y=>[(505040,.cells bo1 [.d (.int .u8 c1),.d (I c2),.d (I c3),.d (.list 3 (Jy ab.enc c4)),.d (.list 4 (Jy bh.enc c5)),.mp 505038 bo2,.sl 1735055 (y.y.v 0)]),(1735055,.arr (y.y.v 0) 162 2 false (Jy eA2 y.x))]) ?_ ?_|refine lp 3 h [0,3,17] [505038] [.c 505040 6] [] () (fun p y=>[(18,.d (I y.x.1)),(19,.d (I y.x.2.1))]) (fun p y=>[(505040,.cells bo1 [.d (.int .u8 c1),.d (I c2),.d (I c3),.d (.list 3 (Jy ab.enc c4)),.d (.list 4 (Jy bh.enc c5)),.mp 505038 bo2,.sl 1735055 (y.y.v 0)]),(1735055,.arr (y.y.v 0) 162 2 false (Jy eA2 y.x.2.2))]) ?_ ?_|refine cp (qj hN am) ?_|refine lun 7 3 ?_|refine sqb 1008 h [0,3,4,5,6,17,18,19,25,26] [505040,1735005,505038,1735055] [] [] 1735006 (fun p x y=>[]) (fun p x y=>[(1735006,.cells p [.d (I x.a0),.d (I x.a1)])]) ?_|refine cp (MW hN am) ?_|refine co (ym hN am) ?_|refine cp (lh hN am) ?_|refine dr 0 48 (tkA 6 0 (.alt 6 [4,3,2,1,0] (.alt 7 [3,2,1,0] (tkA 2 8 (.alt 10 [8] .done .nil)) .nil) .nil)) rfl (by kernel_rfl) ?_|refine sq 16 h [0,3,17,18,19] [505040,505038,1735055] [] [] () (fun p x y=>[(73,.d (.bool x))]) (fun p x y=>[]) ?_ ?_|refine co (zz hN am) ?_|(rw[Ej]at h;delta w64 at h)|unfold yJ at h|refine Both.mk ?_ ?_|intro _|apply Br.mk|refine TyG.mk fun _ h=>?_|(refine hs h ?_;intro _ _ h))
def At  : Int⊕(Int×Int×Int×Int×(List ab)×(List bh)×(List (Int×ab))×(List (Ar2 Int)))→AE→List (Nat×Ob)→Prop
  | .inl r=>fun ae os=>∃y:Unit,True∧ae=.ret (.d (.tup [.nilptr,I r]))∧os=[]
  | .inr r=>fun ae os=>∃y:Nat×Nat×Value,True∧ae=.ret (.tup [.ptr 505040 y.1 0,.d (I r.1)])∧os=[(505040,.cells y.1 (cD r.2.1 r.2.2.1 r.2.2.2.1 r.2.2.2.2.1 r.2.2.2.2.2.1 505038 y.2.1 1735055 y.2.2)),(505038,.map y.2.1 (Jy eMR r.2.2.2.2.2.2.1)),(1735055,.arr y.2.2 162 2 false (Jy eA2 r.2.2.2.2.2.2.2))]
theorem oe{N:Nat}(hN:N≤1073741824){c1:gu}{r:Int⊕(Int×Int×Int×Int×(List ab)×(List bh)×(List (Int×ab))×(List (Ar2 Int)))}(h:ig N c1=some r) :
    ACalls Tryz.prog 100 [.d (.agg [.int .u8 c1.sU,I c1.mn,I c1.bg,.list 3 (Jy ab.enc c1.aP)])] [] (At  r):=by
  refine bt (fresh:=false) al ap ⟨[1],[],[],[],[3,5,11,1008],505000,[]⟩ Tryz.func100 rfl Tryz.call100 rfl ?_
  unfold ig at h
  repeat' ((conv=>whnf)<;>first|refine u (k:=?_)|exact v|refine EU (eK:=(fun x:Int=>I x)) (eV:=(fun x:ab=>.agg [I x.dA,.list 1 (Jy I x.bg),.bool x.lT])) (fun _=>rfl) ?_|refine Both.mk ?_ ?_|refine alk (eK:=(fun x:Int=>I x)) (eV:=(fun x:ab=>.agg [I x.dA,.list 1 (Jy I x.bg),.bool x.lT])) jg _ ((ab.mk 0 ([]) false)) rfl rfl ‹_› ?_|refine amu (eK:=(fun x:Int=>I x)) (eV:=(fun x:ab=>.agg [I x.dA,.list 1 (Jy I x.bg),.bool x.lT])) jg _ _ rfl rfl ?_|refine sq0 3 h [1,5] (fun x=>[(12,.d (.bool x))]) ?_ ?_|refine cp (ss hN am) ?_|refine sq0 5 h [1] (fun x=>[(24,.d (.bool x))]) ?_ ?_|refine cp (mK hN am) ?_|refine cp (rt hN am) ?_|refine dr 0 35 (tkA 2 0 (.alt 2 [0] (.alt 3 [0] (.alt 4 [] (.alt 5 [] (.take 6 .done) .nil) .nil) .nil) (.alt 3 [1,0] (.alt 2 [0] (.alt 4 [] (.alt 5 [] (.take 6 .done) .nil) .nil) .nil) .nil))) rfl (by kernel_rfl) ?_|refine cp (jQ hN am) ?_|apply st 1008 (F:=GR (yC N c1 _)) r [6] [505040] [] [] (_:Nat) (fun p y=>[]) (fun p y=>[(505038,.map p (Jy eMR y.x))]) ?_ ?_|apply lp 9 h [6,42] [505040] [] [] (_:Nat) (fun p y=>[(43,.d (I y.x.1)),(44,.d (I y.x.2.1))]) (fun p y=>[(505038,.map p (Jy eMR y.x.2.2))]) ?_ ?_|refine sq 11 h [6,8,42,43,44] [505040,505008,505038] [] [] () (fun p x y=>[(10,.d (.bool x))]) (fun p x y=>[]) ?_ ?_|refine dr 0 49 (tkA 6 0 (.alt 6 [4,2,1,0] (tkA 3 7 (.alt 10 [9,8,7,4,2,1,0] (.alt 11 [9] (.take 12 .done) .nil) .nil)) (.alt 10 [5,4,3,2,1,0] (.alt 6 [4,2,1,0] (tkA 3 7 (.alt 11 [9] (.take 12 .done) .nil)) .nil) .nil))) rfl (by kernel_rfl) ?_|refine dr 0 59 (tkA 7 0 (.alt 7 [] .done .nil)) rfl (by kernel_rfl) ?_|refine co (iA hN am) ?_|apply st 1008 (F:=GR (yT N c1 _)) r [6] [505040] [] [] (_:Nat) (fun p y=>[]) (fun p y=>[(505038,.map p (Jy eMR y.x))]) ?_ ?_|(rw[dy]at h;delta w64 at h)|unfold yC at h|(rw[yD]at h;delta w64 at h)|unfold yT at h|intro _|apply Br.mk|refine TyG.mk fun _ h=>?_|(refine hs h ?_;intro _ _ h))
theorem Ad{N:Nat}(hN:N≤1073741824){c1:Int}{c2:Int}{c3:Int}{c4:List ab}{c5:List bh}{m1:List (Int×ab)}{l1:List (Ar2 Int)}{bo1:Nat}{bo2:Nat}{ho1:Value}{r:Unit}(h:yQ N c1 c2 c3 c4 c5 m1 l1=some r) :
    ACalls Tryz.prog 285 [.ptr 505040 bo1 0] [(505040,.cells bo1 (cD c1 c2 c3 c4 c5 505038 bo2 1735055 ho1)),(505038,.map bo2 (Jy eMR m1)),(1735055,.arr ho1 162 2 false (Jy eA2 l1))] fun ae os=>∃y:Nat,True∧ae=.ret (.fn (.func 299) [] [.ptr 3430001 y 0])∧os=[(505040,.cells bo1 (cD c1 c2 c3 c4 c5 505038 bo2 1735055 ho1)),(505038,.map bo2 (Jy eMR m1)),(1735055,.arr ho1 162 2 false (Jy eA2 l1)),(3430001,.cells y [.ptr 505040 bo1 0])]:=by
  refine Ij al ap [] 3430000 Tryz.func285 rfl Tryz.call285 rfl ?_
  unfold yQ at h
  repeat' ((conv=>whnf)<;>first|refine u (k:=?_)|exact v|intro _|apply Br.mk|(refine hs h ?_;intro _ _ h))
theorem zY{N:Nat}(hN:N≤1073741824){c1:Int}{c2:Int}{c3:Int}{c4:List ab}{c5:List bh}{m1:List (Int×ab)}{l1:List (Ar2 Int)}{bo1:Nat}{bo2:Nat}{bo3:Nat}{ho1:Value}{r:(List gN)}(h:yI N c1 c2 c3 c4 c5 m1 l1=some r) :
    ACalls Tryz.prog 298 [.nils 5,.fn (.func 299) [] [.ptr 3430001 bo1 0]] [(3430001,.cells bo1 [.ptr 505040 bo2 0]),(505040,.cells bo2 (cD c1 c2 c3 c4 c5 505038 bo3 1735055 ho1)),(505038,.map bo3 (Jy eMR m1)),(1735055,.arr ho1 162 2 false (Jy eA2 l1))] fun ae os=>∃y:Unit,True∧ae=.ret (.d (.list 5 (Jy gN.enc r)))∧os=[(3430001,.cells bo1 [.ptr 505040 bo2 0]),(505040,.cells bo2 (cD c1 c2 c3 c4 c5 505038 bo3 1735055 ho1)),(505038,.map bo3 (Jy eMR m1)),(1735055,.arr ho1 162 2 false (Jy eA2 l1))]:=by
  refine Ij al ap [1001] 3440000 Tryz.func298 rfl Tryz.call298 rfl ?_
  unfold yI at h
  repeat' ((conv=>whnf)<;>first|refine u (k:=?_)|exact v|refine EU (eK:=(fun x:Int=>I x)) (eV:=(fun x:ab=>.agg [I x.dA,.list 1 (Jy I x.bg),.bool x.lT])) (fun _=>rfl) ?_|refine aap gN.enc _ [(gN.mk _ _ _ _ _)] hN rfl rfl ‹_› (by decide) ?_|refine IterG.mk _ _ ⟨[],[],[],[],[3,4,1002],2000,[]⟩ Tryz.func299 rfl Tryz.call299 rfl rfl ?_|refine Both.mk ?_ ?_|refine alk (eK:=(fun x:Int=>I x)) (eV:=(fun x:ab=>.agg [I x.dA,.list 1 (Jy I x.bg),.bool x.lT])) jg 0 ((ab.mk 0 ([]) false)) rfl rfl ‹_› ?_|refine alk (eK:=(fun x:Int=>I x)) (eV:=(fun x:ab=>.agg [I x.dA,.list 1 (Jy I x.bg),.bool x.lT])) jg _ ((ab.mk 0 ([]) false)) rfl rfl ‹_› ?_|apply sq 1001 h [2] [3430001,505040,505038,1735055] [.c 3440002 0] [] (_:Nat) (fun p x y=>[]) (fun p x y=>[(3440002,.cells p [.sl 3440011 (y.v 0)]),(3440011,.arr (y.v 0) 362 5 false (Jy gN.enc x))]) ?_ ?_|apply lp 1 h [0,1,9] [3430001,1735055,1000,505040,505038] [.c 3440002 0] [] (_:Nat) (fun p y=>[(10,.d (I y.x.1)),(11,.d (I y.x.2.1))]) (fun p y=>[(3440002,.cells p [.sl 3440011 (y.y.v 0)]),(3440011,.arr (y.y.v 0) 362 5 false (Jy gN.enc y.x.2.2))]) ?_ ?_|apply sq 1002 h [0,1,9,10,11] [3430001,1735055,1000,505040,505038] [.c 3440002 0] [] (_:Nat) (fun p x y=>[]) (fun p x y=>[(3440002,.cells p [.sl 3440011 (y.v 0)]),(3440011,.arr (y.v 0) 362 5 false (Jy gN.enc x))]) ?_ ?_|refine sq 3 h [0,1,3,4,9,10,11] [3430001,2004,1735055,3440002,1000,505040,3440011,505038] [] [] () (fun p x y=>[(29,.d (.bool x))]) (fun p x y=>[]) ?_ ?_|refine co (ym hN am) ?_|refine sq 4 h [0,1,3,4,9,10,11] [3430001,2004,1735055,3440002,1000,505040,3440011,505038] [] [.t 5] () (fun p x y=>[(5,.ptr 2005 (y.b 0) 0)]) (fun p x y=>[(2005,.cells (y.b 0) [.d (I x.a0),.d (I x.a1)])]) ?_ ?_|refine dr 0 30 (tkA 7 0 (.alt 7 [4,3,2,1,0] (.take 8 (.alt 9 [4,3,2] (.alt 10 [4,3,2] (.alt 11 [] .done .nil) .nil) (.alt 10 [8,4,3,2,1,0] (.alt 9 [4,3,2] (.alt 11 [] .done .nil) .nil) .nil))) (.alt 10 [6,5,4,3,2,1,0] (.alt 7 [4,3,2,1,0] (.take 8 (.alt 9 [4,3,2] (.alt 11 [] .done .nil) .nil)) .nil) .nil))) rfl (by kernel_rfl) ?_|refine co (yj hN am) ?_|(rw[rc]at h;delta w64 at h)|intro _|apply Br.mk|refine TyG.mk fun _ h=>?_|(refine hs h ?_;intro _ _ h))
theorem Au{N:Nat}(hN:N≤1073741824){c1:Int}{c2:Int}{c3:Int}{c4:List ab}{c5:List bh}{m1:List (Int×ab)}{l1:List (Ar2 Int)}{bo1:Nat}{bo2:Nat}{bo3:Nat}{ho1:Value}{r:(List gN)}(h:yG N c1 c2 c3 c4 c5 m1 l1=some r) :
    ACalls Tryz.prog 284 [.fn (.func 299) [] [.ptr 3430001 bo1 0]] [(3430001,.cells bo1 [.ptr 505040 bo2 0]),(505040,.cells bo2 (cD c1 c2 c3 c4 c5 505038 bo3 1735055 ho1)),(505038,.map bo3 (Jy eMR m1)),(1735055,.arr ho1 162 2 false (Jy eA2 l1))] fun ae os=>∃y:Unit,True∧ae=.ret (.d (.list 5 (Jy gN.enc r)))∧os=[(3430001,.cells bo1 [.ptr 505040 bo2 0]),(505040,.cells bo2 (cD c1 c2 c3 c4 c5 505038 bo3 1735055 ho1)),(505038,.map bo3 (Jy eMR m1)),(1735055,.arr ho1 162 2 false (Jy eA2 l1))]:=by
  refine aJ (fresh:=false) al ap ⟨[],[],[4],[],[],3440000,[]⟩ Tryz.func284 rfl Tryz.call284 rfl ?_
  unfold yG at h
  repeat' ((conv=>whnf)<;>first|refine u (k:=?_)|exact v|refine co (zY hN am) ?_|intro _|apply Br.mk|(refine hs h ?_;intro _ _ h))
theorem Bi{N:Nat}(hN:N≤1073741824){c1:gu}{r:(List gN)×Int}(h:yh N c1=some r) :
    ACalls Tryz.prog 255 [.d (.agg [.int .u8 c1.sU,I c1.mn,I c1.bg,.list 3 (Jy ab.enc c1.aP)])] [] fun e os=>e=.ret (.d (.tup [.list 5 (Jy gN.enc r.1),I r.2]))∧os=[]:=by
  refine ah (fresh:=false) al ap ⟨[1],[],[],[],[],0,[]⟩ Tryz.func255 rfl Tryz.call255 rfl ?_
  unfold yh at h
  repeat' ((conv=>whnf)<;>first|refine u (k:=?_)|exact v|refine co (oe hN am) ?_|refine co (Ad hN am) ?_|refine co (Au hN am) ?_|intro _|apply Br.mk|(refine hs h ?_;intro _ _ h)|(refine np ?_;cases ‹_⊕_›))
