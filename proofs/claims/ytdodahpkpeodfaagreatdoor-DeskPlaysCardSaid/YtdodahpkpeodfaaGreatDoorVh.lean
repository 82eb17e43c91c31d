/-
  Walks: what the typed functions compute, the program’s functions return.
-/
import Derived.Test.YtdodahpkpeodfaaGreatDoorWe
namespace Go.Proofs.YtdodahpkpeodfaaGreatDoor
open Go Go.Abs Go.Kp
set_option maxRecDepth 100000
set_option maxHeartbeats 8000000
set_option linter.all false
theorem mD{N:Nat}(hN:N≤1073741824){l1:Int}{s1:List UInt8}{r:Bool}(h:gA N l1 s1=some r) :
    ACalls Tryz.prog 75 [.d (I l1),.d (.str s1)] [] fun e os=>e=.ret (.d (.bool r))∧os=[]:=by
  refine ah (fresh:=false) al ap ⟨[],[],[],[],[],0,[]⟩ Tryz.func75 rfl Tryz.call75 rfl ?_
  unfold gA at h
  repeat' ((conv=>whnf)<;>first|refine u (k:=?_)|exact v|intro _|refine Br.mk (fun _=>?_) fun _=>?_|(refine hs h ?_;intro _ _ h)|fail)
theorem uj{N:Nat}(hN:N≤1073741824){x1:List UInt8}{a1:Int}{r:Bool}(h:kV N x1 a1=some r) :
    ACalls Tryz.prog 116 [.d (.str x1),.d (.ref (.agg [.fn (.func 75) [I a1] []]))] [] fun e os=>e=.ret (.d (.bool r))∧os=[]:=by
  refine ah (fresh:=false) al ap ⟨[],[],[],[],[],0,[]⟩ Tryz.func116 rfl Tryz.call116 rfl ?_
  unfold kV at h
  repeat' ((conv=>whnf)<;>first|refine u (k:=?_)|exact v|refine cp (mD hN am) ?_|intro _|refine Br.mk (fun _=>?_) fun _=>?_|(refine hs h ?_;intro _ _ h)|fail)
theorem lV{N:Nat}(hN:N≤1073741824){s1:List (List UInt8)}{f1:Int}{r:Int}(h:fU N s1 f1=some r) :
    ACalls Tryz.prog 163 [.d (.list 1 (List.map D.str s1)),.d (.fn (.func 116) [] [.ref (.agg [.fn (.func 75) [I f1] []])])] [] fun e os=>e=.ret (.d (I r))∧os=[]:=by
  refine ah (fresh:=false) al ap ⟨[],[],[],[],[1001],0,[]⟩ Tryz.func163 rfl Tryz.call163 rfl ?_
  unfold fU at h
  repeat' ((conv=>whnf)<;>first|refine u (k:=?_)|exact v|refine st0 1001 (F:=C7 (dX N)) r [] (fun y=>[]) ?_ ?_|refine lp0 2 h [0,1] (fun y=>[(7,.d (I y.x.1)),(8,.d (I y.x.2))]) ?_ ?_|refine cp (uj hN am) ?_|(rw[bQ]at h;delta w64 at h)|unfold dX at h|intro _|refine Br.mk (fun _=>?_) fun _=>?_|refine TyG.mk fun _ h=>?_|(refine hs h ?_;intro _ _ h)|fail)
theorem j5{N:Nat}(hN:N≤1073741824){s1:List (List UInt8)}{f1:Int}{r:Bool}(h:dY N s1 f1=some r) :
    ACalls Tryz.prog 115 [.d (.list 1 (List.map D.str s1)),.d (.fn (.func 116) [] [.ref (.agg [.fn (.func 75) [I f1] []])])] [] fun e os=>e=.ret (.d (.bool r))∧os=[]:=by
  refine ah (fresh:=false) al ap ⟨[],[],[],[],[],0,[]⟩ Tryz.func115 rfl Tryz.call115 rfl ?_
  unfold dY at h
  repeat' ((conv=>whnf)<;>first|refine u (k:=?_)|exact v|refine cp (lV hN am) ?_|intro _|refine Br.mk (fun _=>?_) fun _=>?_|(refine hs h ?_;intro _ _ h)|fail)
theorem vK{N:Nat}(hN:N≤1073741824){l1:List (List UInt8)}{right1:Int}{r:Bool}(h:mV N l1 right1=some r) :
    ACalls Tryz.prog 76 [.d (.list 1 (List.map D.str l1)),.d (.fn (.func 75) [I right1] [])] [] fun e os=>e=.ret (.d (.bool r))∧os=[]:=by
  refine ah (fresh:=false) al ap ⟨[3],[],[],[],[],0,[]⟩ Tryz.func76 rfl Tryz.call76 rfl ?_
  unfold mV at h
  repeat' ((conv=>whnf)<;>first|refine u (k:=?_)|exact v|refine cp (j5 hN am) ?_|intro _|refine Br.mk (fun _=>?_) fun _=>?_|(refine hs h ?_;intro _ _ h)|fail)
theorem gP{N:Nat}(hN:N≤1073741824){lines1:List (List UInt8)}{r:Int}(h:dw N lines1=some r) :
    ACalls Tryz.prog 34 [.d (.list 1 (List.map D.str lines1))] [] fun e os=>e=.ret (.d (I r))∧os=[]:=by
  refine ah (fresh:=false) al ap ⟨[],[],[],[],[2],0,[]⟩ Tryz.func34 rfl Tryz.call34 rfl ?_
  unfold dw at h
  repeat' ((conv=>whnf)<;>first|refine u (k:=?_)|exact v|refine sq0 2 h [] (fun x=>[(13,.d (.bool x))]) ?_ ?_|refine cp (vK hN am) ?_|intro _|refine Br.mk (fun _=>?_) fun _=>?_|refine TyG.mk fun _ h=>?_|(refine hs h ?_;intro _ _ h)|fail)
theorem sg{N:Nat}(hN:N≤1073741824) {r:DeskWork}(h:lG N=some r) :
    ACalls Tryz.prog 77 [] [] fun ae os=>∃y:Nat,True∧ae=.ret (.ptr 390003 y 0)∧os=[(390003,.cells y (cW r))]:=by
  refine aJ (fresh:=false) al ap ⟨[],[],[100390003],[],[],390000,[]⟩ Tryz.func77 rfl Tryz.call77 rfl ?_
  unfold lG at h
  repeat' ((conv=>whnf)<;>first|refine u (k:=?_)|exact v|refine Ht DeskLane.enc [(DeskLane.mk (-1) [])] hN rfl ‹_› (by decide) ?_|refine aap DeskLane.enc _ [(DeskLane.mk (-1) [])] hN rfl rfl ‹_› (by decide) ?_|refine lun 3 5 ?_|intro _|refine Br.mk (fun _=>?_) fun _=>?_|(refine hs h ?_;intro _ _ h)|fail)
theorem ik{N:Nat}(hN:N≤1073741824){c1:DeskWork}{bo1:Nat}{r:RateBook}(h:eF N c1=some r) :
    ACalls Tryz.prog 47 [.ptr 390003 bo1 0] [(390003,.cells bo1 (cW c1))] fun ae os=>∃y:Unit,True∧ae=.ret (.d (.agg [I r.fLaw.fBase,I r.fLaw.fPercent,I r.fLaw.fCap,I r.fLaw.fLeast,I r.fLaw.fBlind,.list 1 (List.map I r.fBowlers),.list 6 (List.map RateSheet.enc r.fSheets),.list 1 (List.map I r.fWithdrawn)]))∧os=[(390003,.cells bo1 (cW c1))]:=by
  refine aJ (fresh:=false) al ap ⟨[],[],[],[],[],400000,[]⟩ Tryz.func47 rfl Tryz.call47 rfl ?_
  unfold eF at h
  repeat' ((conv=>whnf)<;>first|refine u (k:=?_)|exact v|refine dr 0 3 (tkA 15 1 (.alt 0 [15,14,13,12,11,10,9,8,7,6,5,4,3,2,1] (.alt 16 [14,13,12,11,9,8,7,6,4,3,2,1] (.alt 17 [] .done .nil) .nil) .nil)) rfl (by kernel_rfl) ?_|intro _|refine Br.mk (fun _=>?_) fun _=>?_|(refine hs h ?_;intro _ _ h)|fail)
theorem fQ{N:Nat}(hN:N≤1073741824){n1:Int}{low1:Int}{high1:Int}{r:Bool}(h:dZ N n1 low1 high1=some r) :
    ACalls Tryz.prog 166 [.d (I n1),.d (I low1),.d (I high1)] [] fun e os=>e=.ret (.d (.bool r))∧os=[]:=by
  refine ah (fresh:=false) al ap ⟨[],[],[],[],[1],0,[]⟩ Tryz.func166 rfl Tryz.call166 rfl ?_
  unfold dZ at h
  repeat' ((conv=>whnf)<;>first|refine u (k:=?_)|exact v|refine sq0 1 h [] (fun x=>[(6,.d (.bool x))]) ?_ ?_|intro _|refine Br.mk (fun _=>?_) fun _=>?_|refine TyG.mk fun _ h=>?_|(refine hs h ?_;intro _ _ h)|fail)
theorem ja{N:Nat}(hN:N≤1073741824){n1:Int}{r:Bool}(h:gp N n1=some r) :
    ACalls Tryz.prog 172 [.d (I n1)] [] fun e os=>e=.ret (.d (.bool r))∧os=[]:=by
  refine ah (fresh:=false) al ap ⟨[],[],[],[],[],0,[]⟩ Tryz.func172 rfl Tryz.call172 rfl ?_
  unfold gp at h
  repeat' ((conv=>whnf)<;>first|refine u (k:=?_)|exact v|refine cp (fQ hN am) ?_|intro _|refine Br.mk (fun _=>?_) fun _=>?_|(refine hs h ?_;intro _ _ h)|fail)
theorem oK{N:Nat}(hN:N≤1073741824){l1:RateLaw}{r:Bool}(h:iV N l1=some r) :
    ACalls Tryz.prog 170 [.d (.agg [I l1.fBase,I l1.fPercent,I l1.fCap,I l1.fLeast,I l1.fBlind])] [] fun e os=>e=.ret (.d (.bool r))∧os=[]:=by
  refine ah (fresh:=false) al ap ⟨[1],[],[],[],[1],0,[]⟩ Tryz.func170 rfl Tryz.call170 rfl ?_
  unfold iV at h
  repeat' ((conv=>whnf)<;>first|refine u (k:=?_)|exact v|refine sq0 1 h [] (fun x=>[(2,.d (.bool x))]) ?_ ?_|refine cp (ja hN am) ?_|refine cp (fQ hN am) ?_|intro _|refine Br.mk (fun _=>?_) fun _=>?_|refine TyG.mk fun _ h=>?_|(refine hs h ?_;intro _ _ h)|fail)
theorem ul{N:Nat}(hN:N≤1073741824){x1:Int}{r:Bool}(h:nF N x1=some r) :
    ACalls Tryz.prog 221 [.d (I x1),.d (.ref (.agg [.fn (.func 172) [] []]))] [] fun e os=>e=.ret (.d (.bool r))∧os=[]:=by
  refine ah (fresh:=false) al ap ⟨[],[],[],[],[],0,[]⟩ Tryz.func221 rfl Tryz.call221 rfl ?_
  unfold nF at h
  repeat' ((conv=>whnf)<;>first|refine u (k:=?_)|exact v|refine cp (ja hN am) ?_|intro _|refine Br.mk (fun _=>?_) fun _=>?_|(refine hs h ?_;intro _ _ h)|fail)
theorem jq{N:Nat}(hN:N≤1073741824){s1:List Int}{r:Int}(h:dl N s1=some r) :
    ACalls Tryz.prog 264 [.d (.list 1 (List.map I s1)),.d (.fn (.func 221) [] [.ref (.agg [.fn (.func 172) [] []])])] [] fun e os=>e=.ret (.d (I r))∧os=[]:=by
  refine ah (fresh:=false) al ap ⟨[],[],[],[],[1001],0,[]⟩ Tryz.func264 rfl Tryz.call264 rfl ?_
  unfold dl at h
  repeat' ((conv=>whnf)<;>first|refine u (k:=?_)|exact v|refine st0 1001 (F:=C7 (cy N)) r [] (fun y=>[]) ?_ ?_|refine lp0 2 h [0,1] (fun y=>[(7,.d (I y.x.1)),(8,.d (I y.x.2))]) ?_ ?_|refine cp (ul hN am) ?_|(rw[bc]at h;delta w64 at h)|unfold cy at h|intro _|refine Br.mk (fun _=>?_) fun _=>?_|refine TyG.mk fun _ h=>?_|(refine hs h ?_;intro _ _ h)|fail)
theorem iy{N:Nat}(hN:N≤1073741824){s1:List Int}{r:Bool}(h:cK N s1=some r) :
    ACalls Tryz.prog 220 [.d (.list 1 (List.map I s1)),.d (.fn (.func 221) [] [.ref (.agg [.fn (.func 172) [] []])])] [] fun e os=>e=.ret (.d (.bool r))∧os=[]:=by
  refine ah (fresh:=false) al ap ⟨[],[],[],[],[],0,[]⟩ Tryz.func220 rfl Tryz.call220 rfl ?_
  unfold cK at h
  repeat' ((conv=>whnf)<;>first|refine u (k:=?_)|exact v|refine cp (jq hN am) ?_|intro _|refine Br.mk (fun _=>?_) fun _=>?_|(refine hs h ?_;intro _ _ h)|fail)
theorem vM{N:Nat}(hN:N≤1073741824){l1:List Int}{r:Bool}(h:pW N l1=some r) :
    ACalls Tryz.prog 171 [.d (.list 1 (List.map I l1)),.d (.fn (.func 172) [] [])] [] fun e os=>e=.ret (.d (.bool r))∧os=[]:=by
  refine ah (fresh:=false) al ap ⟨[3],[],[],[],[],0,[]⟩ Tryz.func171 rfl Tryz.call171 rfl ?_
  unfold pW at h
  repeat' ((conv=>whnf)<;>first|refine u (k:=?_)|exact v|refine cp (iy hN am) ?_|intro _|refine Br.mk (fun _=>?_) fun _=>?_|(refine hs h ?_;intro _ _ h)|fail)
theorem jd{N:Nat}(hN:N≤1073741824){s1:List RateSheet}{f1:RateBook}{r:Int}(h:cV N s1 f1=some r) :
    ACalls Tryz.prog 265 [.d (.list 6 (List.map RateSheet.enc s1)),.d (.fn (.func 223) [] [.ref (.agg [.fn (.func 174) [.agg [I f1.fLaw.fBase,I f1.fLaw.fPercent,I f1.fLaw.fCap,I f1.fLaw.fLeast,I f1.fLaw.fBlind,.list 1 (List.map I f1.fBowlers),.list 6 (List.map RateSheet.enc f1.fSheets),.list 1 (List.map I f1.fWithdrawn)]] []])])] [] fun e os=>e=.ret (.d (I r))∧os=[]:=by
  refine ah (fresh:=false) al ap ⟨[],[],[],[],[1001],0,[]⟩ Tryz.func265 rfl Tryz.call265 rfl ?_
  unfold cV at h
  repeat' ((conv=>whnf)<;>first|refine u (k:=?_)|exact v|refine sq0 1001 h [] (fun x=>[]) ?_ ?_|refine lp0 2 h [0,1,8] (fun y=>[(7,.d (I y.x))]) ?_ ?_|rw[xR]at h|intro _|refine Br.mk (fun _=>?_) fun _=>?_|refine TyG.mk fun _ h=>?_|(refine hs h ?_;intro _ _ h)|fail)
theorem il{N:Nat}(hN:N≤1073741824){s1:List RateSheet}{f1:RateBook}{r:Bool}(h:cz N s1 f1=some r) :
    ACalls Tryz.prog 222 [.d (.list 6 (List.map RateSheet.enc s1)),.d (.fn (.func 223) [] [.ref (.agg [.fn (.func 174) [.agg [I f1.fLaw.fBase,I f1.fLaw.fPercent,I f1.fLaw.fCap,I f1.fLaw.fLeast,I f1.fLaw.fBlind,.list 1 (List.map I f1.fBowlers),.list 6 (List.map RateSheet.enc f1.fSheets),.list 1 (List.map I f1.fWithdrawn)]] []])])] [] fun e os=>e=.ret (.d (.bool r))∧os=[]:=by
  refine ah (fresh:=false) al ap ⟨[],[],[],[],[],0,[]⟩ Tryz.func222 rfl Tryz.call222 rfl ?_
  unfold cz at h
  repeat' ((conv=>whnf)<;>first|refine u (k:=?_)|exact v|refine cp (jd hN am) ?_|intro _|refine Br.mk (fun _=>?_) fun _=>?_|(refine hs h ?_;intro _ _ h)|fail)
theorem um{N:Nat}(hN:N≤1073741824){l1:List RateSheet}{right1:RateBook}{r:Bool}(h:nG N l1 right1=some r) :
    ACalls Tryz.prog 173 [.d (.list 6 (List.map RateSheet.enc l1)),.d (.fn (.func 174) [.agg [I right1.fLaw.fBase,I right1.fLaw.fPercent,I right1.fLaw.fCap,I right1.fLaw.fLeast,I right1.fLaw.fBlind,.list 1 (List.map I right1.fBowlers),.list 6 (List.map RateSheet.enc right1.fSheets),.list 1 (List.map I right1.fWithdrawn)]] [])] [] fun e os=>e=.ret (.d (.bool r))∧os=[]:=by
  refine ah (fresh:=false) al ap ⟨[3],[],[],[],[],0,[]⟩ Tryz.func173 rfl Tryz.call173 rfl ?_
  unfold nG at h
  repeat' ((conv=>whnf)<;>first|refine u (k:=?_)|exact v|refine cp (il hN am) ?_|intro _|refine Br.mk (fun _=>?_) fun _=>?_|(refine hs h ?_;intro _ _ h)|fail)
theorem zo{N:Nat}(hN:N≤1073741824){s1:List Int}{r:Int}(h:yu N s1=some r) :
    ACalls Tryz.prog 264 [.d (.list 1 (List.map I s1)),.d (.fn (.func 221) [] [.ref (.agg [.fn (.func 175) [] []])])] [] fun e os=>e=.ret (.d (I r))∧os=[]:=by
  refine ah (fresh:=false) al ap ⟨[],[],[],[],[1001],0,[]⟩ Tryz.func264 rfl Tryz.call264 rfl ?_
  unfold yu at h
  repeat' ((conv=>whnf)<;>first|refine u (k:=?_)|exact v|refine sq0 1001 h [] (fun x=>[]) ?_ ?_|refine lp0 2 h [0,1,8] (fun y=>[(7,.d (I y.x))]) ?_ ?_|rw[xQ]at h|intro _|refine Br.mk (fun _=>?_) fun _=>?_|refine TyG.mk fun _ h=>?_|(refine hs h ?_;intro _ _ h)|fail)
theorem gR{N:Nat}(hN:N≤1073741824){s1:List Int}{r:Bool}(h:ck N s1=some r) :
    ACalls Tryz.prog 220 [.d (.list 1 (List.map I s1)),.d (.fn (.func 221) [] [.ref (.agg [.fn (.func 175) [] []])])] [] fun e os=>e=.ret (.d (.bool r))∧os=[]:=by
  refine ah (fresh:=false) al ap ⟨[],[],[],[],[],0,[]⟩ Tryz.func220 rfl Tryz.call220 rfl ?_
  unfold ck at h
  repeat' ((conv=>whnf)<;>first|refine u (k:=?_)|exact v|refine cp (zo hN am) ?_|intro _|refine Br.mk (fun _=>?_) fun _=>?_|(refine hs h ?_;intro _ _ h)|fail)
theorem Gm{N:Nat}(hN:N≤1073741824){l1:List Int}{r:Bool}(h:lK N l1=some r) :
    ACalls Tryz.prog 171 [.d (.list 1 (List.map I l1)),.d (.fn (.func 175) [] [])] [] fun e os=>e=.ret (.d (.bool r))∧os=[]:=by
  refine ah (fresh:=false) al ap ⟨[3],[],[],[],[],0,[]⟩ Tryz.func171 rfl Tryz.call171 rfl ?_
  unfold lK at h
  repeat' ((conv=>whnf)<;>first|refine u (k:=?_)|exact v|refine cp (gR hN am) ?_|intro _|refine Br.mk (fun _=>?_) fun _=>?_|(refine hs h ?_;intro _ _ h)|fail)
theorem ro{N:Nat}(hN:N≤1073741824){l1:List Int}{r:Bool}(h:D5 N l1=some r) :
    ACalls Tryz.prog 176 [.d (.list 1 (List.map I l1))] [] fun e os=>e=.ret (.d (.bool r))∧os=[]:=by
  refine ah (fresh:=false) al ap ⟨[],[],[],[],[1001],0,[]⟩ Tryz.func176 rfl Tryz.call176 rfl ?_
  unfold D5 at h
  repeat' ((conv=>whnf)<;>first|refine u (k:=?_)|exact v|refine sq0 1001 h [] (fun x=>[]) ?_ ?_|refine lp0 2 h [0,6] (fun y=>[(5,.d (I y.x))]) ?_ ?_|rw[dI]at h|intro _|refine Br.mk (fun _=>?_) fun _=>?_|refine TyG.mk fun _ h=>?_|(refine hs h ?_;intro _ _ h)|fail)
theorem EQ{N:Nat}(hN:N≤1073741824){b1:RateBook}{r:Int}(h:ic N b1=some r) :
    ACalls Tryz.prog 136 [.d (.agg [I b1.fLaw.fBase,I b1.fLaw.fPercent,I b1.fLaw.fCap,I b1.fLaw.fLeast,I b1.fLaw.fBlind,.list 1 (List.map I b1.fBowlers),.list 6 (List.map RateSheet.enc b1.fSheets),.list 1 (List.map I b1.fWithdrawn)])] [] fun e os=>e=.ret (.d (I r))∧os=[]:=by
  refine ah (fresh:=false) al ap ⟨[1],[],[],[],[1,3,1005],0,[]⟩ Tryz.func136 rfl Tryz.call136 rfl ?_
  unfold ic at h
  repeat' ((conv=>whnf)<;>first|refine u (k:=?_)|exact v|refine sq0 1 h [1] (fun x=>[(7,.d (.bool x))]) ?_ ?_|refine sq0 3 h [1] (fun x=>[(24,.d (.bool x))]) ?_ ?_|refine cp (oK hN am) ?_|refine cp (vM hN am) ?_|refine cp (um hN am) ?_|refine cp (Gm hN am) ?_|refine cp (ro hN am) ?_|refine sq0 1005 h [] (fun x=>[]) ?_ ?_|refine lp0 6 h [1,56,58] (fun y=>[(57,.d (I y.x))]) ?_ ?_|rw[cw]at h|intro _|refine Br.mk (fun _=>?_) fun _=>?_|refine TyG.mk fun _ h=>?_|(refine hs h ?_;intro _ _ h)|fail)
theorem ke{N:Nat}(hN:N≤1073741824){b1:RateBook}{r:Int×Int×Int×Int×Int×Int×(List Int)×(List RateSheet)×(List Int)×(List (RateTurn×RateSheet))}(h:gg N b1=some r) :
    ACalls Tryz.prog 98 [.d (.agg [I b1.fLaw.fBase,I b1.fLaw.fPercent,I b1.fLaw.fCap,I b1.fLaw.fLeast,I b1.fLaw.fBlind,.list 1 (List.map I b1.fBowlers),.list 6 (List.map RateSheet.enc b1.fSheets),.list 1 (List.map I b1.fWithdrawn)])] [] fun ae os=>∃y:Nat×Nat,True∧ae=.ret (.tup [.ptr 495019 y.1 0,.d (I r.1)])∧os=[(495019,.cells y.1 [.d (I r.2.1),.d (I r.2.2.1),.d (I r.2.2.2.1),.d (I r.2.2.2.2.1),.d (I r.2.2.2.2.2.1),.d (.list 1 (List.map I r.2.2.2.2.2.2.1)),.d (.list 6 (List.map RateSheet.enc r.2.2.2.2.2.2.2.1)),.d (.list 1 (List.map I r.2.2.2.2.2.2.2.2.1)),.mp 495017 y.2]),(495017,.map y.2 (List.map (fun p=>(.agg [I p.1.fBowler,I p.1.fWeek],.agg [I p.2.fNumber,I p.2.fBowler,I p.2.fWeek,I p.2.fGames.a0,I p.2.fGames.a1,I p.2.fGames.a2])) r.2.2.2.2.2.2.2.2.2))]:=by
  refine aJ (fresh:=false) al ap ⟨[1],[],[],[],[1005],495000,[]⟩ Tryz.func98 rfl Tryz.call98 rfl ?_
  unfold gg at h
  repeat' ((conv=>whnf)<;>first|refine u (k:=?_)|exact v|refine cp (EQ hN am) ?_|refine sq 1005 h [5] [495019,495017] [] [] () (fun p x y=>[]) (fun p x y=>[]) ?_ ?_|refine lp 6 h [1,5,21,23] [495019,495017] [] [] () (fun p y=>[(22,.d (I y.x))]) (fun p y=>[]) ?_ ?_|rw[cO]at h|intro _|refine Br.mk (fun _=>?_) fun _=>?_|refine TyG.mk fun _ h=>?_|(refine hs h ?_;intro _ _ h)|fail)
theorem mI{N:Nat}(hN:N≤1073741824){b1:RateBook}{n1:Int}{r:Bool}(h:gG N b1 n1=some r) :
    ACalls Tryz.prog 129 [.d (.agg [I b1.fLaw.fBase,I b1.fLaw.fPercent,I b1.fLaw.fCap,I b1.fLaw.fLeast,I b1.fLaw.fBlind,.list 1 (List.map I b1.fBowlers),.list 6 (List.map RateSheet.enc b1.fSheets),.list 1 (List.map I b1.fWithdrawn)]),.d (I n1)] [] fun e os=>e=.ret (.d (.bool r))∧os=[]:=by
  refine ah (fresh:=false) al ap ⟨[2],[],[],[],[],0,[]⟩ Tryz.func129 rfl Tryz.call129 rfl ?_
  unfold gG at h
  delta w64 at h
  repeat' ((conv=>whnf)<;>first|refine u (k:=?_)|exact v|refine cp (fQ hN am) ?_|intro _|refine Br.mk (fun _=>?_) fun _=>?_|(refine hs h ?_;intro _ _ h)|fail)
theorem uo{N:Nat}(hN:N≤1073741824){n1:Int}{r:Bool}(h:nH N n1=some r) :
    ACalls Tryz.prog 130 [.d (I n1)] [] fun e os=>e=.ret (.d (.bool r))∧os=[]:=by
  refine ah (fresh:=false) al ap ⟨[],[],[],[],[],0,[]⟩ Tryz.func130 rfl Tryz.call130 rfl ?_
  unfold nH at h
  repeat' ((conv=>whnf)<;>first|refine u (k:=?_)|exact v|refine cp (fQ hN am) ?_|intro _|refine Br.mk (fun _=>?_) fun _=>?_|(refine hs h ?_;intro _ _ h)|fail)
theorem jP{N:Nat}(hN:N≤1073741824){b1:RateBook}{bowler1:Int}{w1:Int}{r:Int×Int×Int×Int×Int×Int×(List Int)×(List RateSheet)×(List Int)×(List (RateTurn×RateSheet))}(h:fm N b1 bowler1 w1=some r) :
    ACalls Tryz.prog 92 [.d (.agg [I b1.fLaw.fBase,I b1.fLaw.fPercent,I b1.fLaw.fCap,I b1.fLaw.fLeast,I b1.fLaw.fBlind,.list 1 (List.map I b1.fBowlers),.list 6 (List.map RateSheet.enc b1.fSheets),.list 1 (List.map I b1.fWithdrawn)]),.d (I bowler1),.d (I w1)] [] fun ae os=>∃y:Nat×Nat,True∧ae=.ret (.tup [.ptr 495019 y.1 0,.d (I r.1)])∧os=[(495019,.cells y.1 [.d (I r.2.1),.d (I r.2.2.1),.d (I r.2.2.2.1),.d (I r.2.2.2.2.1),.d (I r.2.2.2.2.2.1),.d (.list 1 (List.map I r.2.2.2.2.2.2.1)),.d (.list 6 (List.map RateSheet.enc r.2.2.2.2.2.2.2.1)),.d (.list 1 (List.map I r.2.2.2.2.2.2.2.2.1)),.mp 495017 y.2]),(495017,.map y.2 (List.map (fun p=>(.agg [I p.1.fBowler,I p.1.fWeek],.agg [I p.2.fNumber,I p.2.fBowler,I p.2.fWeek,I p.2.fGames.a0,I p.2.fGames.a1,I p.2.fGames.a2])) r.2.2.2.2.2.2.2.2.2))]:=by
  refine aJ (fresh:=false) al ap ⟨[3],[],[],[],[2],465000,[]⟩ Tryz.func92 rfl Tryz.call92 rfl ?_
  unfold fm at h
  repeat' ((conv=>whnf)<;>first|refine u (k:=?_)|exact v|refine co (ke hN am) ?_|refine sq 2 h [8,9] [495019,495017] [] [] () (fun p x y=>[(27,.d (.bool x))]) (fun p x y=>[]) ?_ ?_|refine cp (mI hN am) ?_|refine cp (uo hN am) ?_|intro _|refine Br.mk (fun _=>?_) fun _=>?_|refine TyG.mk fun _ h=>?_|(refine hs h ?_;intro _ _ h)|fail)
theorem vN{N:Nat}(hN:N≤1073741824){l1:List Int}{r:Int}(h:pX N l1=some r) :
    ACalls Tryz.prog 131 [.d (.list 1 (List.map I l1))] [] fun e os=>e=.ret (.d (I r))∧os=[]:=by
  refine ah (fresh:=false) al ap ⟨[],[],[],[],[1001],0,[]⟩ Tryz.func131 rfl Tryz.call131 rfl ?_
  unfold pX at h
  repeat' ((conv=>whnf)<;>first|refine u (k:=?_)|exact v|refine sq0 1001 h [2] (fun x=>[]) ?_ ?_|refine lp0 2 h [2,5,7] (fun y=>[(6,.d (I y.x))]) ?_ ?_|rw[gH]at h|intro _|refine Br.mk (fun _=>?_) fun _=>?_|refine TyG.mk fun _ h=>?_|(refine hs h ?_;intro _ _ h)|fail)
theorem Ej{N:Nat}(hN:N≤1073741824){bowler1:Int}{before1:Int}{c1:Int}{c2:Int}{c3:Int}{c4:Int}{c5:Int}{c6:List Int}{c7:List RateSheet}{c8:List Int}{m1:List (RateTurn×RateSheet)}{bo1:Nat}{bo2:Nat}{r:Int×Int}(h:eZ N bowler1 before1 c1 c2 c3 c4 c5 c6 c7 c8 m1=some r) :
    ACalls Tryz.prog 132 [.ptr 495019 bo1 0,.d (I bowler1),.d (I before1)] [(495019,.cells bo1 [.d (I c1),.d (I c2),.d (I c3),.d (I c4),.d (I c5),.d (.list 1 (List.map I c6)),.d (.list 6 (List.map RateSheet.enc c7)),.d (.list 1 (List.map I c8)),.mp 495017 bo2]),(495017,.map bo2 (List.map (fun p=>(.agg [I p.1.fBowler,I p.1.fWeek],.agg [I p.2.fNumber,I p.2.fBowler,I p.2.fWeek,I p.2.fGames.a0,I p.2.fGames.a1,I p.2.fGames.a2])) m1))] fun ae os=>∃y:Nat,True∧ae=.ret (.fn (.func 167) [] [.d (.ref (.agg [I r.1])),.ptr 1665003 y 0,.d (.ref (.agg [I r.2]))])∧os=[(495019,.cells bo1 [.d (I c1),.d (I c2),.d (I c3),.d (I c4),.d (I c5),.d (.list 1 (List.map I c6)),.d (.list 6 (List.map RateSheet.enc c7)),.d (.list 1 (List.map I c8)),.mp 495017 bo2]),(495017,.map bo2 (List.map (fun p=>(.agg [I p.1.fBowler,I p.1.fWeek],.agg [I p.2.fNumber,I p.2.fBowler,I p.2.fWeek,I p.2.fGames.a0,I p.2.fGames.a1,I p.2.fGames.a2])) m1)),(1665003,.cells y [.ptr 495019 bo1 0])]:=by
  refine aJ (fresh:=false) al ap ⟨[4,5],[],[],[],[],1665000,[]⟩ Tryz.func132 rfl Tryz.call132 rfl ?_
  unfold eZ at h
  repeat' ((conv=>whnf)<;>first|refine u (k:=?_)|exact v|intro _|refine Br.mk (fun _=>?_) fun _=>?_|(refine hs h ?_;intro _ _ h)|fail)
theorem iz{N:Nat}(hN:N≤1073741824){bowler1:Int}{before1:Int}{besides1:List Int}{c1:Int}{c2:Int}{c3:Int}{c4:Int}{c5:Int}{c6:List Int}{c7:List RateSheet}{c8:List Int}{m1:List (RateTurn×RateSheet)}{bo1:Nat}{bo2:Nat}{r:Int}(h:dS N bowler1 before1 besides1 c1 c2 c3 c4 c5 c6 c7 c8 m1=some r) :
    ACalls Tryz.prog 93 [.ptr 495019 bo1 0,.d (I bowler1),.d (I before1),.d (.list 1 (List.map I besides1))] [(495019,.cells bo1 [.d (I c1),.d (I c2),.d (I c3),.d (I c4),.d (I c5),.d (.list 1 (List.map I c6)),.d (.list 6 (List.map RateSheet.enc c7)),.d (.list 1 (List.map I c8)),.mp 495017 bo2]),(495017,.map bo2 (List.map (fun p=>(.agg [I p.1.fBowler,I p.1.fWeek],.agg [I p.2.fNumber,I p.2.fBowler,I p.2.fWeek,I p.2.fGames.a0,I p.2.fGames.a1,I p.2.fGames.a2])) m1))] fun ae os=>∃y:Unit,True∧ae=.ret (.d (I r))∧os=[(495019,.cells bo1 [.d (I c1),.d (I c2),.d (I c3),.d (I c4),.d (I c5),.d (.list 1 (List.map I c6)),.d (.list 6 (List.map RateSheet.enc c7)),.d (.list 1 (List.map I c8)),.mp 495017 bo2]),(495017,.map bo2 (List.map (fun p=>(.agg [I p.1.fBowler,I p.1.fWeek],.agg [I p.2.fNumber,I p.2.fBowler,I p.2.fWeek,I p.2.fGames.a0,I p.2.fGames.a1,I p.2.fGames.a2])) m1))]:=by
  refine aJ (fresh:=false) al ap ⟨[],[],[],[],[1002],500000,[]⟩ Tryz.func93 rfl Tryz.call93 rfl ?_
  unfold dS at h
  repeat' ((conv=>whnf)<;>first|refine u (k:=?_)|exact v|refine EU (eK:=(fun x:RateTurn=>.agg [I x.fBowler,I x.fWeek])) (eV:=(fun x:RateSheet=>.agg [I x.fNumber,I x.fBowler,I x.fWeek,I x.fGames.a0,I x.fGames.a1,I x.fGames.a2])) (fun _=>rfl) ?_|refine IterG.mk _ _ ⟨[],[],[],[],[3],2000,[]⟩ Tryz.func167 rfl Tryz.call167 rfl rfl ?_|refine Both.mk ?_ ?_|refine alk (eK:=(fun x:RateTurn=>.agg [I x.fBowler,I x.fWeek])) (eV:=(fun x:RateSheet=>.agg [I x.fNumber,I x.fBowler,I x.fWeek,I x.fGames.a0,I x.fGames.a1,I x.fGames.a2])) RateTurn.eqc (RateTurn.mk _ 0) ((RateSheet.mk 0 0 0 (Ar3.mk 0 0 0))) rfl rfl ‹_› ?_|refine alk (eK:=(fun x:RateTurn=>.agg [I x.fBowler,I x.fWeek])) (eV:=(fun x:RateSheet=>.agg [I x.fNumber,I x.fBowler,I x.fWeek,I x.fGames.a0,I x.fGames.a1,I x.fGames.a2])) RateTurn.eqc (RateTurn.mk _ _) ((RateSheet.mk 0 0 0 (Ar3.mk 0 0 0))) rfl rfl ‹_› ?_|refine cp (vN hN am) ?_|apply sq 1002 h [0,1,9,10] [495019,500010,495017] [] [] (_:Nat) (fun p x y=>[]) (fun p x y=>[(500009,.cells p [.d (I x)])]) ?_ ?_|refine co (Ej hN am) ?_|apply lp 1 h [0,2,3,8] [1665003,495019,500010,1000,495017] [] [] (_:Nat) (fun p y=>[(9,.d (I y.x.1))]) (fun p y=>[(500009,.cells p [.d (I y.x.2)])]) ?_ ?_|refine sq 3 h [0,2,3,8,9] [1665003,495019,500009,500010,1000,495017] [] [.t 6] () (fun p x y=>[(6,.ptr 2006 (y.b 0) 0),(7,.d (.bool x.1))]) (fun p x y=>[(2006,.cells (y.b 0) [.d (I x.2.fNumber),.d (I x.2.fBowler),.d (I x.2.fWeek),.d (I x.2.fGames.a0),.d (I x.2.fGames.a1),.d (I x.2.fGames.a2)])]) ?_ ?_|refine dr 0 13 (tkA 6 0 (.alt 6 [3,2,1,0] (.alt 7 [2,1,0] (tkA 3 8 (.alt 11 [10,9,8,2,1,0] (.alt 12 [10] (.take 13 .done) .nil) .nil)) (.alt 11 [3,2,1,0] (.alt 7 [2,1,0] (tkA 3 8 (.alt 12 [10] (.take 13 .done) .nil)) .nil) .nil)) (.alt 11 [5,4,3,2,1,0] (.alt 6 [3,2,1,0] (.alt 7 [2,1,0] (tkA 3 8 (.alt 12 [10] (.take 13 .done) .nil)) .nil) .nil) .nil))) rfl (by kernel_rfl) ?_|refine dr 0 29 (tkA 8 0 .done) rfl (by kernel_rfl) ?_|(rw[bU]at h;delta w64 at h)|intro _|refine Br.mk (fun _=>?_) fun _=>?_|refine TyG.mk fun _ h=>?_|(refine hs h ?_;intro _ _ h)|fail)
theorem qf{N:Nat}(hN:N≤1073741824){b1:RateBook}{bowler1:Int}{week1:Int}{r:Int×Int}(h:jz N b1 bowler1 week1=some r) :
    ACalls Tryz.prog 46 [.d (.agg [I b1.fLaw.fBase,I b1.fLaw.fPercent,I b1.fLaw.fCap,I b1.fLaw.fLeast,I b1.fLaw.fBlind,.list 1 (List.map I b1.fBowlers),.list 6 (List.map RateSheet.enc b1.fSheets),.list 1 (List.map I b1.fWithdrawn)]),.d (I bowler1),.d (I week1)] [] fun e os=>e=.ret (.d (.tup [I r.1,I r.2]))∧os=[]:=by
  refine ah (fresh:=false) al ap ⟨[3],[],[],[],[],0,[]⟩ Tryz.func46 rfl Tryz.call46 rfl ?_
  unfold jz at h
  repeat' ((conv=>whnf)<;>first|refine u (k:=?_)|exact v|refine co (jP hN am) ?_|refine co (iz (besides1:=[]) hN am) ?_|intro _|refine Br.mk (fun _=>?_) fun _=>?_|(refine hs h ?_;intro _ _ h)|fail)
theorem lg{N:Nat}(hN:N≤1073741824){bowler1:Int}{before1:Int}{c1:Int}{c2:Int}{c3:Int}{c4:Int}{c5:Int}{c6:List Int}{c7:List RateSheet}{c8:List Int}{m1:List (RateTurn×RateSheet)}{bo1:Nat}{bo2:Nat}{r:Int}(h:CE N bowler1 before1 c1 c2 c3 c4 c5 c6 c7 c8 m1=some r) :
    ACalls Tryz.prog 94 [.ptr 495019 bo1 0,.d (I bowler1),.d (I before1)] [(495019,.cells bo1 [.d (I c1),.d (I c2),.d (I c3),.d (I c4),.d (I c5),.d (.list 1 (List.map I c6)),.d (.list 6 (List.map RateSheet.enc c7)),.d (.list 1 (List.map I c8)),.mp 495017 bo2]),(495017,.map bo2 (List.map (fun p=>(.agg [I p.1.fBowler,I p.1.fWeek],.agg [I p.2.fNumber,I p.2.fBowler,I p.2.fWeek,I p.2.fGames.a0,I p.2.fGames.a1,I p.2.fGames.a2])) m1))] fun ae os=>∃y:Unit,True∧ae=.ret (.d (I r))∧os=[(495019,.cells bo1 [.d (I c1),.d (I c2),.d (I c3),.d (I c4),.d (I c5),.d (.list 1 (List.map I c6)),.d (.list 6 (List.map RateSheet.enc c7)),.d (.list 1 (List.map I c8)),.mp 495017 bo2]),(495017,.map bo2 (List.map (fun p=>(.agg [I p.1.fBowler,I p.1.fWeek],.agg [I p.2.fNumber,I p.2.fBowler,I p.2.fWeek,I p.2.fGames.a0,I p.2.fGames.a1,I p.2.fGames.a2])) m1))]:=by
  refine aJ (fresh:=false) al ap ⟨[],[],[],[],[],500000,[]⟩ Tryz.func94 rfl Tryz.call94 rfl ?_
  unfold CE at h
  delta w64 at h
  repeat' ((conv=>whnf)<;>first|refine u (k:=?_)|exact v|refine Need.mk (by decide) ?_|refine dr 0 8 (tkA 9 0 (tkA 6 11 (.alt 9 [16,15,14,13,12,11,5,4,3,2,1,0] (.take 10 (tkA 3 17 .done)) .nil))) rfl (by kernel_rfl) ?_|refine co (iz (besides1:=[]) hN am) ?_|intro _|refine Br.mk (fun _=>?_) fun _=>?_|(refine hs h ?_;intro _ _ h)|fail)
theorem oL{N:Nat}(hN:N≤1073741824){b1:RateBook}{bowler1:Int}{week1:Int}{r:Int×Int}(h:iW N b1 bowler1 week1=some r) :
    ACalls Tryz.prog 48 [.d (.agg [I b1.fLaw.fBase,I b1.fLaw.fPercent,I b1.fLaw.fCap,I b1.fLaw.fLeast,I b1.fLaw.fBlind,.list 1 (List.map I b1.fBowlers),.list 6 (List.map RateSheet.enc b1.fSheets),.list 1 (List.map I b1.fWithdrawn)]),.d (I bowler1),.d (I week1)] [] fun e os=>e=.ret (.d (.tup [I r.1,I r.2]))∧os=[]:=by
  refine ah (fresh:=false) al ap ⟨[3],[],[],[],[],0,[]⟩ Tryz.func48 rfl Tryz.call48 rfl ?_
  unfold iW at h
  repeat' ((conv=>whnf)<;>first|refine u (k:=?_)|exact v|refine co (jP hN am) ?_|refine co (lg hN am) ?_|intro _|refine Br.mk (fun _=>?_) fun _=>?_|(refine hs h ?_;intro _ _ h)|fail)
theorem rp{N:Nat}(hN:N≤1073741824){words1:List UInt8}{words2:Int}{words3:List UInt8}{words4:Int}{words5:List UInt8}{words6:List Int}{r:(List UInt8)}(h:kC N words1 words2 words3 words4 words5 words6=some r) :
    ACalls Tryz.prog 52 [.d (.list 1 [.ifc 9 (.str words1),.ifc 3 (I words2),.ifc 9 (.str words3),.ifc 3 (I words4),.ifc 9 (.str words5),.ifc 25 (.list 1 (List.map I words6))])] [] fun e os=>e=.ret (.d (.str r))∧os=[]:=by
  refine ah (fresh:=false) al ap ⟨[],[],[],[],[1004],0,[]⟩ Tryz.func52 rfl Tryz.call52 rfl ?_
  unfold kC at h
  (conv=>whnf);refine LnA.lit 6 rfl ?_;(conv=>whnf);refine LoopG.unr 7 ?_;obtain⟨l38,hx70,h⟩:=obind h;(conv=>whnf);refine SeqG.mk Value (fun y=>[(3,.sl 32 y),(11,.d (.list 1 [.ifc 9 (.str words1),.ifc 3 (I words2),.ifc 9 (.str words3),.ifc 3 (I words4),.ifc 9 (.str words5),.ifc 25 (.list 1 (List.map I words6))])),(12,.i .i64 6),(13,.i .i64 0)]) (fun y=>[(32,.arr y 9 1 false (List.map D.str l38))]) (fun _=>True) ?_ ?_
  ·(conv=>whnf);refine Side.mk rfl ⟨_,by decide,rfl,?_⟩;(conv=>whnf);intro hd62;obtain⟨l39,hx71,hx70⟩:=obind hx70;(conv=>whnf);refine Side.mk ⟨rfl,rfl⟩ ?_;(conv=>whnf);refine Need.mk (app_need0 (f:=D.str) hN hx71 (by decide)) (Eqv.mk (List.map D.str l39) (app_map0 D.str hx71) ?_);(conv=>whnf);intro hd63;cases hx70;(conv=>whnf);refine⟨hd63,trivial,Sub.eq rfl ?_ ?_⟩
   ·(repeat ((conv=>whnf);refine nr ?_));exact trivial
   ·(conv=>whnf);refine no ?_;exact trivial
  ·rintro hd61 _;obtain⟨l41,hx74,h⟩:=obind h;(conv=>whnf);refine SeqG.mk Value (fun y=>[(3,.sl 32 y),(11,.d (.list 1 [.ifc 9 (.str words1),.ifc 3 (I words2),.ifc 9 (.str words3),.ifc 3 (I words4),.ifc 9 (.str words5),.ifc 25 (.list 1 (List.map I words6))])),(12,.i .i64 6),(13,.i .i64 1)]) (fun y=>[(32,.arr y 9 1 false (List.map D.str l41))]) (fun _=>True) ?_ ?_
   ·(conv=>whnf);refine Side.mk rfl ⟨_,by decide,rfl,?_⟩;obtain⟨r18,hx75,hx74⟩:=obind hx74;(conv=>whnf);refine CallG.pure _ (my hN hx75) ?_;(conv=>whnf);intro hd67;obtain⟨l42,hx76,hx74⟩:=obind hx74;(conv=>whnf);refine Side.mk ⟨rfl,rfl⟩ ?_;(conv=>whnf);refine Side.mk ⟨rfl,rfl,rfl⟩ (Need.mk (app_need hN hx76 (by decide)) (Eqv.mk (List.map D.str l42) (app_map _ hx76) ?_));(conv=>whnf);intro hd68;cases hx74;(conv=>whnf);refine⟨hd68,trivial,Sub.eq rfl ?_ ?_⟩
    ·(repeat ((conv=>whnf);refine nr ?_));exact trivial
    ·(conv=>whnf);refine no ?_;exact trivial
   ·rintro hd66 _;obtain⟨l44,hx78,h⟩:=obind h;(conv=>whnf);refine SeqG.mk Value (fun y=>[(3,.sl 32 y),(11,.d (.list 1 [.ifc 9 (.str words1),.ifc 3 (I words2),.ifc 9 (.str words3),.ifc 3 (I words4),.ifc 9 (.str words5),.ifc 25 (.list 1 (List.map I words6))])),(12,.i .i64 6),(13,.i .i64 2)]) (fun y=>[(32,.arr y 9 1 false (List.map D.str l44))]) (fun _=>True) ?_ ?_
    ·(conv=>whnf);refine Side.mk rfl ⟨_,by decide,rfl,?_⟩;(conv=>whnf);intro hd72;obtain⟨l45,hx79,hx78⟩:=obind hx78;(conv=>whnf);refine Side.mk ⟨rfl,rfl⟩ ?_;(conv=>whnf);refine Side.mk ⟨rfl,rfl,rfl⟩ (Need.mk (app_need hN hx79 (by decide)) (Eqv.mk (List.map D.str l45) (app_map _ hx79) ?_));(conv=>whnf);intro hd73;cases hx78;(conv=>whnf);refine⟨hd73,trivial,Sub.eq rfl ?_ ?_⟩
     ·(repeat ((conv=>whnf);refine nr ?_));exact trivial
     ·(conv=>whnf);refine no ?_;exact trivial
    ·rintro hd71 _;obtain⟨l47,hx82,h⟩:=obind h;(conv=>whnf);refine SeqG.mk Value (fun y=>[(3,.sl 32 y),(11,.d (.list 1 [.ifc 9 (.str words1),.ifc 3 (I words2),.ifc 9 (.str words3),.ifc 3 (I words4),.ifc 9 (.str words5),.ifc 25 (.list 1 (List.map I words6))])),(12,.i .i64 6),(13,.i .i64 3)]) (fun y=>[(32,.arr y 9 1 false (List.map D.str l47))]) (fun _=>True) ?_ ?_
     ·(conv=>whnf);refine Side.mk rfl ⟨_,by decide,rfl,?_⟩;obtain⟨r20,hx83,hx82⟩:=obind hx82;(conv=>whnf);refine CallG.pure _ (my hN hx83) ?_;(conv=>whnf);intro hd77;obtain⟨l48,hx84,hx82⟩:=obind hx82;(conv=>whnf);refine Side.mk ⟨rfl,rfl⟩ ?_;(conv=>whnf);refine Side.mk ⟨rfl,rfl,rfl⟩ (Need.mk (app_need hN hx84 (by decide)) (Eqv.mk (List.map D.str l48) (app_map _ hx84) ?_));(conv=>whnf);intro hd78;cases hx82;(conv=>whnf);refine⟨hd78,trivial,Sub.eq rfl ?_ ?_⟩
      ·(repeat ((conv=>whnf);refine nr ?_));exact trivial
      ·(conv=>whnf);refine no ?_;exact trivial
     ·rintro hd76 _;obtain⟨l50,hx86,h⟩:=obind h;(conv=>whnf);refine SeqG.mk Value (fun y=>[(3,.sl 32 y),(11,.d (.list 1 [.ifc 9 (.str words1),.ifc 3 (I words2),.ifc 9 (.str words3),.ifc 3 (I words4),.ifc 9 (.str words5),.ifc 25 (.list 1 (List.map I words6))])),(12,.i .i64 6),(13,.i .i64 4)]) (fun y=>[(32,.arr y 9 1 false (List.map D.str l50))]) (fun _=>True) ?_ ?_
      ·(conv=>whnf);refine Side.mk rfl ⟨_,by decide,rfl,?_⟩;(conv=>whnf);intro hd82;obtain⟨l51,hx87,hx86⟩:=obind hx86;(conv=>whnf);refine Side.mk ⟨rfl,rfl⟩ ?_;(conv=>whnf);refine Side.mk ⟨rfl,rfl,rfl⟩ (Need.mk (app_need hN hx87 (by decide)) (Eqv.mk (List.map D.str l51) (app_map _ hx87) ?_));(conv=>whnf);intro hd83;cases hx86;(conv=>whnf);refine⟨hd83,trivial,Sub.eq rfl ?_ ?_⟩
       ·(repeat ((conv=>whnf);refine nr ?_));exact trivial
       ·(conv=>whnf);refine no ?_;exact trivial
      ·rintro hd81 _;obtain⟨l62,hx112,h⟩:=obind h;(conv=>whnf);refine SeqG.mk Value (fun y=>[(3,.sl 32 y),(11,.d (.list 1 [.ifc 9 (.str words1),.ifc 3 (I words2),.ifc 9 (.str words3),.ifc 3 (I words4),.ifc 9 (.str words5),.ifc 25 (.list 1 (List.map I words6))])),(12,.i .i64 6),(13,.i .i64 5)]) (fun y=>[(32,.arr y 9 1 false (List.map D.str l62))]) (fun _=>True) ?_ ?_
       ·(conv=>whnf);refine Side.mk rfl ⟨_,by decide,rfl,?_⟩;(conv=>whnf);refine LnA.mk _ (List.length_map _) ?_;(conv=>whnf);refine LoopG.mk (Nat×(Int×Int×(List (List UInt8)))×Value) (fun y=>[(3,.sl 32 y.2.2),(11,.d (.list 1 [.ifc 9 (.str words1),.ifc 3 (I words2),.ifc 9 (.str words3),.ifc 3 (I words4),.ifc 9 (.str words5),.ifc 25 (.list 1 (List.map I words6))])),(12,.i .i64 6),(13,.i .i64 5),(36,.d (.list 1 (List.map I words6))),(37,.d (I y.2.1.1)),(38,.d (I y.2.1.2.1))]) (fun y=>[(32,.arr y.2.2 9 1 false (List.map D.str y.2.1.2.2))]) (fun y=>loopN (fun rr x=>dJ N words6 rr x.1 x.2.1 x.2.2) y.1 y.2.1=some l62) (fun y=>y.1) (N,((words6.length:Int),0,l50),hd81) hx112 (Sub.eq rfl ?_ ?_) ?_
        ·(repeat ((conv=>whnf);refine nr ?_));exact trivial
        ·(conv=>whnf);refine no ?_;exact trivial
        ·rintro⟨n4,⟨v35,v36,l70⟩,hd112⟩ hl4;obtain⟨n4,rfl,hl4⟩:=loopN_some hl4;replace hl4:dJ N words6 (loopN (fun rr x=>dJ N words6 rr x.1 x.2.1 x.2.2) n4) v35 v36 l70=some l62:=hl4;rw[dJ]at hl4;refine wB (fun hc24=>?_) (fun hc24=>?_)
         ·replace hl4:=ite_t hc24 hl4;obtain⟨x48,hx134,hl4⟩:=obind hl4;(conv=>whnf);refine Side.mk rfl ⟨_,idx_0 hx134,idx_map _ hx134,?_⟩;obtain⟨r32,hx135,hl4⟩:=obind hl4;(conv=>whnf);refine CallG.pure _ (my hN hx135) ?_;(conv=>whnf);intro hd115;obtain⟨l72,hx136,hl4⟩:=obind hl4;(conv=>whnf);refine Side.mk ⟨rfl,rfl⟩ ?_;(conv=>whnf);refine Side.mk ⟨rfl,rfl,rfl⟩ (Need.mk (app_need hN hx136 (by decide)) (Eqv.mk (List.map D.str l72) (app_map _ hx136) ?_));(conv=>whnf);intro hd116;(conv=>whnf);refine⟨(n4,(v35,w64 (v36+1),l72),hd116),hl4,Sub.eq rfl ?_ ?_,Nat.lt_succ_self _⟩
          ·(repeat ((conv=>whnf);refine nr ?_));exact trivial
          ·(conv=>whnf);refine no ?_;exact trivial
         ·replace hl4:=ite_f hc24 hl4;cases hl4;(conv=>whnf);refine⟨hd112,trivial,Sub.eq rfl ?_ ?_⟩
          ·(repeat ((conv=>whnf);refine nr ?_));exact trivial
          ·(conv=>whnf);refine no ?_;exact trivial
       ·rintro hd100 _;obtain⟨r34,hx138,h⟩:=obind h;refine ws ?_;(conv=>whnf);refine CallG.pure _ (sw hN hx138) ?_;(conv=>whnf);cases h;exact rfl
theorem jc{N:Nat}(hN:N≤1073741824){s1:List UInt8}{bs1:List UInt8}{bo1:Nat}{ho1:Value}{r:(List UInt8)}(h:fM N s1 bs1=some r) :
    ACalls Tryz.prog 50 [.d (.str s1),.ptr 7 bo1 0] [(7,.bld bo1 126 5 ho1 bs1)] fun ae os=>∃y:Value,True∧ae=.ret (.d (.tup []))∧os=[(7,.bld bo1 126 5 y r)]:=by
  refine aJ (fresh:=false) al ap ⟨[],[],[],[],[],10000,[]⟩ Tryz.func50 rfl Tryz.call50 rfl ?_
  unfold fM at h
  obtain⟨s2,hx1,h⟩:=obind h;(conv=>whnf);refine Need.mk (eO hN hx1) ?_;obtain⟨⟨ra1,rb1⟩,hx2,h⟩:=obind h;(conv=>whnf);refine CallG.own (xO (k:=7) (bo:=bo1) (ho:=ho1) hN hx2) id [] _ (fun y=>[(7,.bld bo1 126 5 y rb1)]) (ac _) (ai trivial) rfl (ai trivial) trivial (fun _=>AV.le_refl _) (fun _=>rfl) ?_;rintro hd1 _;(conv=>whnf);cases h;exact⟨hd1,trivial,rfl,aA (ren:=id) (ai trivial)⟩
theorem od{N:Nat}(hN:N≤1073741824){b1:RateBook}{Q:((List Int)×Int)→Prop}(h:fp N b1 Q) :
    ACalls Tryz.prog 53 [.d (.agg [I b1.fLaw.fBase,I b1.fLaw.fPercent,I b1.fLaw.fCap,I b1.fLaw.fLeast,I b1.fLaw.fBlind,.list 1 (List.map I b1.fBowlers),.list 6 (List.map RateSheet.enc b1.fSheets),.list 1 (List.map I b1.fWithdrawn)])] [] (fun ae os=>∃r:(List Int)×Int,Q r∧(fun e os=>e=.ret (.d (.tup [.list 1 (List.map I r.1),I r.2]))∧os=[]) ae os):=by
  refine bt (fresh:=false) al ap ⟨[1],[],[32],[],[1005],0,[]⟩ Tryz.func53 rfl Tryz.call53 rfl ?_
  unfold fp at h
  obtain⟨⟨ra2,rb2,rc2,rd2,re2,rf2,rg2,rh2,ri2,rj2⟩,hx2,h⟩:=bw h;(conv=>whnf);refine CallG.own (ke hN hx2) id [] _ (fun y=>[(495019,.cells y.1 [.d (I rb2),.d (I rc2),.d (I rd2),.d (I re2),.d (I rf2),.d (.list 1 (List.map I rg2)),.d (.list 6 (List.map RateSheet.enc rh2)),.d (.list 1 (List.map I ri2)),.mp 495017 y.2]),(495017,.map y.2 (List.map (fun p=>(.agg [I p.1.fBowler,I p.1.fWeek],.agg [I p.2.fNumber,I p.2.fBowler,I p.2.fWeek,I p.2.fGames.a0,I p.2.fGames.a1,I p.2.fGames.a2])) rj2))]) (ac _) trivial rfl trivial trivial (fun _=>AV.le_refl _) (fun _=>rfl) ?_;rintro⟨b4,b5⟩ _;refine wB (fun hc2=>?_) (fun hc2=>?_)
  ·replace h:=dF hc2 h;(conv=>whnf);have hv:Q _:=h;exact⟨[],⟨_,hv,rfl,rfl⟩,fun _ hq=>nomatch hq⟩
  ·replace h:=dG hc2 h;(conv=>whnf);refine SeqG.mk ((List Int)×Value) (fun y=>[(6,.sl 30 y.2)]) (fun y=>[(30,.arr y.2 3 1 false (List.map I y.1))]) (fun y=>cx N y.1 Q) ?_ ?_
   ·(iterate 2 refine ws ?_);intro ib4;(conv=>whnf)
    refine LoopG.mk (Nat×((List Int)×(List (RateTurn×RateSheet)))×Value) (fun y=>[(6,.sl 30 y.2.2),(21,.it 21 ib4)]) (fun y=>[(30,.arr y.2.2 3 1 false (List.map I y.2.1.1)),(21,.mit ib4 495017 b5 (List.map (fun p:RateTurn×RateSheet=>(.agg [I p.1.fBowler,I p.1.fWeek],.agg [I p.2.fNumber,I p.2.fBowler,I p.2.fWeek,I p.2.fGames.a0,I p.2.fGames.a1,I p.2.fGames.a2])) rj2) (List.map (fun p:RateTurn×RateSheet=>(.agg [I p.1.fBowler,I p.1.fWeek],.agg [I p.2.fNumber,I p.2.fBowler,I p.2.fWeek,I p.2.fGames.a0,I p.2.fGames.a1,I p.2.fGames.a2])) y.2.1.2) none),(495017,.map b5 (List.map (fun p=>(.agg [I p.1.fBowler,I p.1.fWeek],.agg [I p.2.fNumber,I p.2.fBowler,I p.2.fWeek,I p.2.fGames.a0,I p.2.fGames.a1,I p.2.fGames.a2])) rj2))]) (fun y=>aG (fun rr x=>bx N rr x.1 x.2) y.1 y.2.1 Q) (fun y=>y.1) (N,([],rj2),(.slice none 0 0)) h (Sub.eq rfl ?_ ?_) ?_
    ·(repeat ((conv=>whnf);refine nr ?_));exact trivial
    ·(conv=>whnf);refine Need.mk (OLe.nil _ _ _ _) ?_;(iterate 2 ((conv=>whnf);refine no ?_));exact trivial
    ·rintro⟨n2,⟨l14,rem18⟩,hd19⟩ hl2;obtain⟨n2,rfl,hl2⟩:=gO hl2;replace hl2:bx N (aG (fun rr x=>bx N rr x.1 x.2) n2) l14 rem18 Q:=hl2;rw[bx]at hl2;(conv=>whnf);refine Side.mk ⟨rfl,rfl,rfl⟩ (NextG.of (fun p:RateTurn×RateSheet=>(.agg [I p.1.fBowler,I p.1.fWeek],.agg [I p.2.fNumber,I p.2.fBowler,I p.2.fWeek,I p.2.fGames.a0,I p.2.fGames.a1,I p.2.fGames.a2])) rem18 rfl (fun h0=>?_) ?_)
     ·replace hl2:=pY hl2 h0;(conv=>whnf);refine⟨(l14,hd19),hl2,Sub.eq rfl ?_ ?_⟩
      ·(repeat ((conv=>whnf);refine nr ?_));exact trivial
      ·(conv=>whnf);refine no ?_;exact trivial
     ·rintro⟨k12,v18⟩ rem20 hs;replace hl2:=pZ hl2 hs;(conv=>whnf);refine Side.mk ⟨rfl,rfl,rfl⟩ ?_;(conv=>whnf);intro b17;(iterate 2 refine ws ?_);(conv=>whnf);intro hd20;obtain⟨l15,hx10,hl2⟩:=bw hl2;(conv=>whnf);refine Side.mk ⟨rfl,rfl⟩ ?_;(conv=>whnf);refine Side.mk ⟨rfl,rfl,rfl⟩ (Need.mk (app_need hN hx10 (by decide)) (Eqv.mk (List.map I l15) (app_map _ hx10) ?_));(conv=>whnf);intro hd21;(conv=>whnf);refine⟨(n2,(l15,rem20),hd21),hl2,Sub.eq rfl ?_ ?_,Nat.lt_succ_self _⟩
      ·(repeat ((conv=>whnf);refine nr ?_));exact trivial
      ·(conv=>whnf);refine no ?_;(conv=>whnf);refine Need.mk (OLe.mit _ _ _ _ _ _) ?_;(conv=>whnf);refine no ?_;exact trivial
   ·clear h;rintro⟨l8,hd11⟩ h;unfold cx at h;obtain⟨r2,hx7,h⟩:=bw h;(conv=>whnf);refine CallG.own (xb (k:=30) (ho:=hd11) hN hx7) id [] _ (fun y=>[(30,.arr hd11 3 1 false (List.map I r2))]) (ac _) (ai trivial) rfl (ai trivial) trivial (fun _=>AV.le_refl _) (fun _=>rfl) ?_;rintro _ _;refine ws ?_;(conv=>whnf);have hv:Q _:=h;exact⟨[],⟨_,hv,rfl,rfl⟩,fun _ hq=>nomatch hq⟩
theorem oM{N:Nat}(hN:N≤1073741824){b1:RateBook}{r:(List Int)×Int}(h:gh N b1=some r) :
    ACalls Tryz.prog 53 [.d (.agg [I b1.fLaw.fBase,I b1.fLaw.fPercent,I b1.fLaw.fCap,I b1.fLaw.fLeast,I b1.fLaw.fBlind,.list 1 (List.map I b1.fBowlers),.list 6 (List.map RateSheet.enc b1.fSheets),.list 1 (List.map I b1.fWithdrawn)])] [] (fun e os=>e=.ret (.d (.tup [.list 1 (List.map I r.1),I r.2]))∧os=[]):=(od hN (q9 h)).mono (by rintro ae os ⟨x,rfl,hp⟩;exact hp)
theorem qg{N:Nat}(hN:N≤1073741824){words1:List UInt8}{words2:Int}{words3:List UInt8}{words4:Int}{words5:List UInt8}{words6:Int}{r:(List UInt8)}(h:jA N words1 words2 words3 words4 words5 words6=some r) :
    ACalls Tryz.prog 52 [.d (.list 1 [.ifc 9 (.str words1),.ifc 3 (I words2),.ifc 9 (.str words3),.ifc 3 (I words4),.ifc 9 (.str words5),.ifc 3 (I words6)])] [] fun e os=>e=.ret (.d (.str r))∧os=[]:=by
  refine ah (fresh:=false) al ap ⟨[],[],[],[],[1004],0,[]⟩ Tryz.func52 rfl Tryz.call52 rfl ?_
  unfold jA at h
  (conv=>whnf);refine LnA.lit 6 rfl ?_;(conv=>whnf);refine LoopG.unr 7 ?_;obtain⟨l20,hx26,h⟩:=obind h;(conv=>whnf);refine SeqG.mk Value (fun y=>[(3,.sl 32 y),(11,.d (.list 1 [.ifc 9 (.str words1),.ifc 3 (I words2),.ifc 9 (.str words3),.ifc 3 (I words4),.ifc 9 (.str words5),.ifc 3 (I words6)])),(12,.i .i64 6),(13,.i .i64 0)]) (fun y=>[(32,.arr y 9 1 false (List.map D.str l20))]) (fun _=>True) ?_ ?_
  ·(conv=>whnf);refine Side.mk rfl ⟨_,by decide,rfl,?_⟩;(conv=>whnf);intro hd34;obtain⟨l21,hx27,hx26⟩:=obind hx26;(conv=>whnf);refine Side.mk ⟨rfl,rfl⟩ ?_;(conv=>whnf);refine Need.mk (app_need0 (f:=D.str) hN hx27 (by decide)) (Eqv.mk (List.map D.str l21) (app_map0 D.str hx27) ?_);(conv=>whnf);intro hd35;cases hx26;(conv=>whnf);refine⟨hd35,trivial,Sub.eq rfl ?_ ?_⟩
   ·(repeat ((conv=>whnf);refine nr ?_));exact trivial
   ·(conv=>whnf);refine no ?_;exact trivial
  ·rintro hd33 _;obtain⟨l23,hx30,h⟩:=obind h;(conv=>whnf);refine SeqG.mk Value (fun y=>[(3,.sl 32 y),(11,.d (.list 1 [.ifc 9 (.str words1),.ifc 3 (I words2),.ifc 9 (.str words3),.ifc 3 (I words4),.ifc 9 (.str words5),.ifc 3 (I words6)])),(12,.i .i64 6),(13,.i .i64 1)]) (fun y=>[(32,.arr y 9 1 false (List.map D.str l23))]) (fun _=>True) ?_ ?_
   ·(conv=>whnf);refine Side.mk rfl ⟨_,by decide,rfl,?_⟩;obtain⟨r8,hx31,hx30⟩:=obind hx30;(conv=>whnf);refine CallG.pure _ (my hN hx31) ?_;(conv=>whnf);intro hd39;obtain⟨l24,hx32,hx30⟩:=obind hx30;(conv=>whnf);refine Side.mk ⟨rfl,rfl⟩ ?_;(conv=>whnf);refine Side.mk ⟨rfl,rfl,rfl⟩ (Need.mk (app_need hN hx32 (by decide)) (Eqv.mk (List.map D.str l24) (app_map _ hx32) ?_));(conv=>whnf);intro hd40;cases hx30;(conv=>whnf);refine⟨hd40,trivial,Sub.eq rfl ?_ ?_⟩
    ·(repeat ((conv=>whnf);refine nr ?_));exact trivial
    ·(conv=>whnf);refine no ?_;exact trivial
   ·rintro hd38 _;obtain⟨l26,hx34,h⟩:=obind h;(conv=>whnf);refine SeqG.mk Value (fun y=>[(3,.sl 32 y),(11,.d (.list 1 [.ifc 9 (.str words1),.ifc 3 (I words2),.ifc 9 (.str words3),.ifc 3 (I words4),.ifc 9 (.str words5),.ifc 3 (I words6)])),(12,.i .i64 6),(13,.i .i64 2)]) (fun y=>[(32,.arr y 9 1 false (List.map D.str l26))]) (fun _=>True) ?_ ?_
    ·(conv=>whnf);refine Side.mk rfl ⟨_,by decide,rfl,?_⟩;(conv=>whnf);intro hd44;obtain⟨l27,hx35,hx34⟩:=obind hx34;(conv=>whnf);refine Side.mk ⟨rfl,rfl⟩ ?_;(conv=>whnf);refine Side.mk ⟨rfl,rfl,rfl⟩ (Need.mk (app_need hN hx35 (by decide)) (Eqv.mk (List.map D.str l27) (app_map _ hx35) ?_));(conv=>whnf);intro hd45;cases hx34;(conv=>whnf);refine⟨hd45,trivial,Sub.eq rfl ?_ ?_⟩
     ·(repeat ((conv=>whnf);refine nr ?_));exact trivial
     ·(conv=>whnf);refine no ?_;exact trivial
    ·rintro hd43 _;obtain⟨l29,hx38,h⟩:=obind h;(conv=>whnf);refine SeqG.mk Value (fun y=>[(3,.sl 32 y),(11,.d (.list 1 [.ifc 9 (.str words1),.ifc 3 (I words2),.ifc 9 (.str words3),.ifc 3 (I words4),.ifc 9 (.str words5),.ifc 3 (I words6)])),(12,.i .i64 6),(13,.i .i64 3)]) (fun y=>[(32,.arr y 9 1 false (List.map D.str l29))]) (fun _=>True) ?_ ?_
     ·(conv=>whnf);refine Side.mk rfl ⟨_,by decide,rfl,?_⟩;obtain⟨r10,hx39,hx38⟩:=obind hx38;(conv=>whnf);refine CallG.pure _ (my hN hx39) ?_;(conv=>whnf);intro hd49;obtain⟨l30,hx40,hx38⟩:=obind hx38;(conv=>whnf);refine Side.mk ⟨rfl,rfl⟩ ?_;(conv=>whnf);refine Side.mk ⟨rfl,rfl,rfl⟩ (Need.mk (app_need hN hx40 (by decide)) (Eqv.mk (List.map D.str l30) (app_map _ hx40) ?_));(conv=>whnf);intro hd50;cases hx38;(conv=>whnf);refine⟨hd50,trivial,Sub.eq rfl ?_ ?_⟩
      ·(repeat ((conv=>whnf);refine nr ?_));exact trivial
      ·(conv=>whnf);refine no ?_;exact trivial
     ·rintro hd48 _;obtain⟨l32,hx42,h⟩:=obind h;(conv=>whnf);refine SeqG.mk Value (fun y=>[(3,.sl 32 y),(11,.d (.list 1 [.ifc 9 (.str words1),.ifc 3 (I words2),.ifc 9 (.str words3),.ifc 3 (I words4),.ifc 9 (.str words5),.ifc 3 (I words6)])),(12,.i .i64 6),(13,.i .i64 4)]) (fun y=>[(32,.arr y 9 1 false (List.map D.str l32))]) (fun _=>True) ?_ ?_
      ·(conv=>whnf);refine Side.mk rfl ⟨_,by decide,rfl,?_⟩;(conv=>whnf);intro hd54;obtain⟨l33,hx43,hx42⟩:=obind hx42;(conv=>whnf);refine Side.mk ⟨rfl,rfl⟩ ?_;(conv=>whnf);refine Side.mk ⟨rfl,rfl,rfl⟩ (Need.mk (app_need hN hx43 (by decide)) (Eqv.mk (List.map D.str l33) (app_map _ hx43) ?_));(conv=>whnf);intro hd55;cases hx42;(conv=>whnf);refine⟨hd55,trivial,Sub.eq rfl ?_ ?_⟩
       ·(repeat ((conv=>whnf);refine nr ?_));exact trivial
       ·(conv=>whnf);refine no ?_;exact trivial
      ·rintro hd53 _;obtain⟨l35,hx46,h⟩:=obind h;(conv=>whnf);refine SeqG.mk Value (fun y=>[(3,.sl 32 y),(11,.d (.list 1 [.ifc 9 (.str words1),.ifc 3 (I words2),.ifc 9 (.str words3),.ifc 3 (I words4),.ifc 9 (.str words5),.ifc 3 (I words6)])),(12,.i .i64 6),(13,.i .i64 5)]) (fun y=>[(32,.arr y 9 1 false (List.map D.str l35))]) (fun _=>True) ?_ ?_
       ·(conv=>whnf);refine Side.mk rfl ⟨_,by decide,rfl,?_⟩;obtain⟨r12,hx47,hx46⟩:=obind hx46;(conv=>whnf);refine CallG.pure _ (my hN hx47) ?_;(conv=>whnf);intro hd59;obtain⟨l36,hx48,hx46⟩:=obind hx46;(conv=>whnf);refine Side.mk ⟨rfl,rfl⟩ ?_;(conv=>whnf);refine Side.mk ⟨rfl,rfl,rfl⟩ (Need.mk (app_need hN hx48 (by decide)) (Eqv.mk (List.map D.str l36) (app_map _ hx48) ?_));(conv=>whnf);intro hd60;cases hx46;(conv=>whnf);refine⟨hd60,trivial,Sub.eq rfl ?_ ?_⟩
        ·(repeat ((conv=>whnf);refine nr ?_));exact trivial
        ·(conv=>whnf);refine no ?_;exact trivial
       ·rintro hd58 _;obtain⟨r14,hx50,h⟩:=obind h;refine ws ?_;(conv=>whnf);refine CallG.pure _ (sw hN hx50) ?_;(conv=>whnf);cases h;exact rfl
theorem oO{N:Nat}(hN:N≤1073741824){words1:List UInt8}{words2:List Int}{r:(List UInt8)}(h:iX N words1 words2=some r) :
    ACalls Tryz.prog 52 [.d (.list 1 [.ifc 9 (.str words1),.ifc 25 (.list 1 (List.map I words2))])] [] fun e os=>e=.ret (.d (.str r))∧os=[]:=by
  refine ah (fresh:=false) al ap ⟨[],[],[],[],[1004],0,[]⟩ Tryz.func52 rfl Tryz.call52 rfl ?_
  unfold iX at h
  (conv=>whnf);refine LnA.lit 2 rfl ?_;(conv=>whnf);refine LoopG.unr 3 ?_;obtain⟨l26,hx54,h⟩:=obind h;(conv=>whnf);refine SeqG.mk Value (fun y=>[(3,.sl 32 y),(11,.d (.list 1 [.ifc 9 (.str words1),.ifc 25 (.list 1 (List.map I words2))])),(12,.i .i64 2),(13,.i .i64 0)]) (fun y=>[(32,.arr y 9 1 false (List.map D.str l26))]) (fun _=>True) ?_ ?_
  ·(conv=>whnf);refine Side.mk rfl ⟨_,by decide,rfl,?_⟩;(conv=>whnf);intro hd42;obtain⟨l27,hx55,hx54⟩:=obind hx54;(conv=>whnf);refine Side.mk ⟨rfl,rfl⟩ ?_;(conv=>whnf);refine Need.mk (app_need0 (f:=D.str) hN hx55 (by decide)) (Eqv.mk (List.map D.str l27) (app_map0 D.str hx55) ?_);(conv=>whnf);intro hd43;cases hx54;(conv=>whnf);refine⟨hd43,trivial,Sub.eq rfl ?_ ?_⟩
   ·(repeat ((conv=>whnf);refine nr ?_));exact trivial
   ·(conv=>whnf);refine no ?_;exact trivial
  ·rintro hd41 _;obtain⟨l38,hx80,h⟩:=obind h;(conv=>whnf);refine SeqG.mk Value (fun y=>[(3,.sl 32 y),(11,.d (.list 1 [.ifc 9 (.str words1),.ifc 25 (.list 1 (List.map I words2))])),(12,.i .i64 2),(13,.i .i64 1)]) (fun y=>[(32,.arr y 9 1 false (List.map D.str l38))]) (fun _=>True) ?_ ?_
   ·(conv=>whnf);refine Side.mk rfl ⟨_,by decide,rfl,?_⟩;(conv=>whnf);refine LnA.mk _ (List.length_map _) ?_;(conv=>whnf);refine LoopG.mk (Nat×(Int×Int×(List (List UInt8)))×Value) (fun y=>[(3,.sl 32 y.2.2),(11,.d (.list 1 [.ifc 9 (.str words1),.ifc 25 (.list 1 (List.map I words2))])),(12,.i .i64 2),(13,.i .i64 1),(36,.d (.list 1 (List.map I words2))),(37,.d (I y.2.1.1)),(38,.d (I y.2.1.2.1))]) (fun y=>[(32,.arr y.2.2 9 1 false (List.map D.str y.2.1.2.2))]) (fun y=>loopN (fun rr x=>cP N words2 rr x.1 x.2.1 x.2.2) y.1 y.2.1=some l38) (fun y=>y.1) (N,((words2.length:Int),0,l26),hd41) hx80 (Sub.eq rfl ?_ ?_) ?_
    ·(repeat ((conv=>whnf);refine nr ?_));exact trivial
    ·(conv=>whnf);refine no ?_;exact trivial
    ·rintro⟨n4,⟨v35,v36,l46⟩,hd72⟩ hl4;obtain⟨n4,rfl,hl4⟩:=loopN_some hl4;replace hl4:cP N words2 (loopN (fun rr x=>cP N words2 rr x.1 x.2.1 x.2.2) n4) v35 v36 l46=some l38:=hl4;rw[cP]at hl4;refine wB (fun hc24=>?_) (fun hc24=>?_)
     ·replace hl4:=ite_t hc24 hl4;obtain⟨x48,hx102,hl4⟩:=obind hl4;(conv=>whnf);refine Side.mk rfl ⟨_,idx_0 hx102,idx_map _ hx102,?_⟩;obtain⟨r24,hx103,hl4⟩:=obind hl4;(conv=>whnf);refine CallG.pure _ (my hN hx103) ?_;(conv=>whnf);intro hd75;obtain⟨l48,hx104,hl4⟩:=obind hl4;(conv=>whnf);refine Side.mk ⟨rfl,rfl⟩ ?_;(conv=>whnf);refine Side.mk ⟨rfl,rfl,rfl⟩ (Need.mk (app_need hN hx104 (by decide)) (Eqv.mk (List.map D.str l48) (app_map _ hx104) ?_));(conv=>whnf);intro hd76;(conv=>whnf);refine⟨(n4,(v35,w64 (v36+1),l48),hd76),hl4,Sub.eq rfl ?_ ?_,Nat.lt_succ_self _⟩
      ·(repeat ((conv=>whnf);refine nr ?_));exact trivial
      ·(conv=>whnf);refine no ?_;exact trivial
     ·replace hl4:=ite_f hc24 hl4;cases hl4;(conv=>whnf);refine⟨hd72,trivial,Sub.eq rfl ?_ ?_⟩
      ·(repeat ((conv=>whnf);refine nr ?_));exact trivial
      ·(conv=>whnf);refine no ?_;exact trivial
   ·rintro hd60 _;obtain⟨r26,hx106,h⟩:=obind h;refine ws ?_;(conv=>whnf);refine CallG.pure _ (sw hN hx106) ?_;(conv=>whnf);cases h;exact rfl
theorem mt{N:Nat}(hN:N≤1073741824){s1:List UInt8}{index1:Int}{r:DeskHead}(h:D6 N s1 index1=some r) :
    ACalls Tryz.prog 108 [.d (.str s1),.d (I index1)] [] fun e os=>e=.ret (.d (.agg [I r.fLong,I r.fCheck]))∧os=[]:=by
  refine ah (fresh:=false) al ap ⟨[],[],[],[],[1002],0,[]⟩ Tryz.func108 rfl Tryz.call108 rfl ?_
  unfold D6 at h
  (conv=>whnf);intro b2;obtain⟨check6,hx13,h⟩:=obind h;(conv=>whnf);refine SeqG.mk Unit (fun y=>[(0,.d (.str s1)),(4,.ptr 4 b2 0),(5,.d (I check6))]) (fun y=>[(4,.cells b2 [.d (I 0),.d (I 0)])]) (fun _=>True) ?_ ?_
  ·(conv=>whnf);refine Eqv.mk (List.map (fun x=>.int .u8 x) (bytesI s1)) (sQ _) ?_;(conv=>whnf);refine LnA.mk _ (List.length_map _) ?_;(conv=>whnf);refine LoopG.mk (Nat×(Int×(List Int)×Int×Int)) (fun y=>[(0,.d (.str s1)),(4,.ptr 4 b2 0),(5,.d (I y.2.1)),(12,.d (.list 1 (List.map (fun x=>.int .u8 x) y.2.2.1))),(13,.d (I y.2.2.2.1)),(14,.d (I y.2.2.2.2))]) (fun y=>[(4,.cells b2 [.d (I 0),.d (I 0)])]) (fun y=>loopN (fun rr x=>bM N rr x.1 x.2.1 x.2.2.1 x.2.2.2) y.1 y.2=some check6) (fun y=>y.1) (N,(w64 (13*(w64 (index1+1))),bytesI s1,((bytesI s1).length:Int),0)) hx13 (Sub.eq rfl ?_ ?_) ?_
   ·(repeat ((conv=>whnf);refine nr ?_));exact trivial
   ·(conv=>whnf);refine no ?_;exact trivial
   ·rintro⟨n2,⟨check11,v26,v27,v28⟩⟩ hl2;obtain⟨n2,rfl,hl2⟩:=loopN_some hl2;replace hl2:bM N (loopN (fun rr x=>bM N rr x.1 x.2.1 x.2.2.1 x.2.2.2) n2) check11 v26 v27 v28=some check6:=hl2;rw[bM]at hl2;refine wB (fun hc12=>?_) (fun hc12=>?_)
    ·replace hl2:=ite_t hc12 hl2;obtain⟨x24,hx25,hl2⟩:=obind hl2;(conv=>whnf);refine Side.mk rfl ⟨_,idx_0 hx25,idx_map _ hx25,?_⟩;(conv=>whnf);refine⟨(n2,(w64 (check11+(w64 ((w64 (v28+2))*(w64 ((w64 x24)+1))))),v26,v27,w64 (v28+1))),hl2,Sub.eq rfl ?_ ?_,Nat.lt_succ_self _⟩
     ·(repeat ((conv=>whnf);refine nr ?_));exact trivial
     ·(conv=>whnf);refine no ?_;exact trivial
    ·replace hl2:=ite_f hc12 hl2;cases hl2;(conv=>whnf);refine⟨(),trivial,Sub.eq rfl ?_ ?_⟩
     ·(repeat ((conv=>whnf);refine nr ?_));exact trivial
     ·(conv=>whnf);refine no ?_;exact trivial
  ·rintro _ _;(conv=>whnf);refine Need.mk (by decide) ?_;(iterate 2 refine ws ?_);(conv=>whnf);cases h;exact rfl
theorem mu{N:Nat}(hN:N≤1073741824){n1:Int}{many1:Int}{r:(List UInt8)}(h:dm N n1 many1=some r) :
    ACalls Tryz.prog 158 [.d (I n1),.d (I many1)] [] fun e os=>e=.ret (.d (.str r))∧os=[]:=by
  refine ah (fresh:=false) al ap ⟨[],[],[],[],[5,1002],0,[5]⟩ Tryz.func158 rfl Tryz.call158 rfl ?_
  unfold dm at h
  (conv=>whnf);intro b2;obtain⟨b19,hx7,h⟩:=obind h;(conv=>whnf);refine SeqG.mk Unit (fun y=>[(1,.d (I many1)),(5,.ptr 5 b2 0)]) (fun y=>[(5,.cells b2 [.d (.int .u8 b19.a0),.d (.int .u8 b19.a1),.d (.int .u8 b19.a2),.d (.int .u8 b19.a3),.d (.int .u8 b19.a4)])]) (fun _=>True) ?_ ?_
  ·(conv=>whnf);refine LoopG.mk (Nat×(Int×Int×(Ar5 Int))) (fun y=>[(0,.d (I y.2.1)),(1,.d (I many1)),(5,.ptr 5 b2 0),(6,.d (I y.2.2.1))]) (fun y=>[(5,.cells b2 [.d (.int .u8 y.2.2.2.a0),.d (.int .u8 y.2.2.2.a1),.d (.int .u8 y.2.2.2.a2),.d (.int .u8 y.2.2.2.a3),.d (.int .u8 y.2.2.2.a4)])]) (fun y=>loopN (fun rr x=>aF N rr x.1 x.2.1 x.2.2) y.1 y.2=some b19) (fun y=>y.1) (N,(n1,w64 (many1-1),(Ar5.mk 0 0 0 0 0))) hx7 (Sub.eq rfl ?_ ?_) ?_
   ·(repeat ((conv=>whnf);refine nr ?_));exact trivial
   ·(conv=>whnf);refine no ?_;exact trivial
   ·rintro⟨n11,⟨n10,i10,b31⟩⟩ hl2;obtain⟨n11,rfl,hl2⟩:=loopN_some hl2;replace hl2:aF N (loopN (fun rr x=>aF N rr x.1 x.2.1 x.2.2) n11) n10 i10 b31=some b19:=hl2;rw[aF]at hl2;refine wB (fun hc112=>?_) (fun hc112=>?_)
    ·replace hl2:=ite_t hc112 hl2;obtain⟨b35,hx13,hl2⟩:=obind hl2;(conv=>whnf);refine SeqG.mk Unit (fun y=>[(0,.d (I n10)),(1,.d (I many1)),(5,.ptr 5 b2 0),(6,.d (I i10))]) (fun y=>[(5,.cells b2 [.d (.int .u8 b35.a0),.d (.int .u8 b35.a1),.d (.int .u8 b35.a2),.d (.int .u8 b35.a3),.d (.int .u8 b35.a4)])]) (fun _=>True) ?_ ?_
     ·(conv=>whnf);refine Need.mk (by decide) ?_;rcases eP (decide (i10=0))with hc128 | hc128
      ·replace hx13:=ite_t hc128 hx13;(conv=>whnf);refine IxG.mk 0 (of_decide_eq_true hc128) (by decide) ?_;refine ws ?_;cases hx13;(conv=>whnf);refine⟨(),trivial,Sub.eq rfl ?_ ?_⟩
       ·(repeat ((conv=>whnf);refine nr ?_));exact trivial
       ·(conv=>whnf);refine no ?_;exact trivial
      ·replace hx13:=ite_f hc128 hx13;rcases eP (decide (i10=1))with hc129 | hc129
       ·replace hx13:=ite_t hc129 hx13;(conv=>whnf);refine IxG.mk 1 (of_decide_eq_true hc129) (by decide) ?_;refine ws ?_;cases hx13;(conv=>whnf);refine⟨(),trivial,Sub.eq rfl ?_ ?_⟩
        ·(repeat ((conv=>whnf);refine nr ?_));exact trivial
        ·(conv=>whnf);refine no ?_;exact trivial
       ·replace hx13:=ite_f hc129 hx13;rcases eP (decide (i10=2))with hc130 | hc130
        ·replace hx13:=ite_t hc130 hx13;(conv=>whnf);refine IxG.mk 2 (of_decide_eq_true hc130) (by decide) ?_;refine ws ?_;cases hx13;(conv=>whnf);refine⟨(),trivial,Sub.eq rfl ?_ ?_⟩
         ·(repeat ((conv=>whnf);refine nr ?_));exact trivial
         ·(conv=>whnf);refine no ?_;exact trivial
        ·replace hx13:=ite_f hc130 hx13;rcases eP (decide (i10=3))with hc131 | hc131
         ·replace hx13:=ite_t hc131 hx13;(conv=>whnf);refine IxG.mk 3 (of_decide_eq_true hc131) (by decide) ?_;refine ws ?_;cases hx13;(conv=>whnf);refine⟨(),trivial,Sub.eq rfl ?_ ?_⟩
          ·(repeat ((conv=>whnf);refine nr ?_));exact trivial
          ·(conv=>whnf);refine no ?_;exact trivial
         ·replace hx13:=ite_f hc131 hx13;rcases eP (decide (i10=4))with hc132 | hc132
          ·replace hx13:=ite_t hc132 hx13;(conv=>whnf);refine IxG.mk 4 (of_decide_eq_true hc132) (by decide) ?_;refine ws ?_;cases hx13;(conv=>whnf);refine⟨(),trivial,Sub.eq rfl ?_ ?_⟩
           ·(repeat ((conv=>whnf);refine nr ?_));exact trivial
           ·(conv=>whnf);refine no ?_;exact trivial
          ·replace hx13:=ite_f hc132 hx13;cases hx13
     ·rintro _ _;(conv=>whnf);refine Need.mk (by decide) ?_;(conv=>whnf);refine⟨(n11,(w64 (Int.tdiv n10 10),w64 (i10-1),b35)),hl2,Sub.eq rfl ?_ ?_,Nat.lt_succ_self _⟩
      ·(repeat ((conv=>whnf);refine nr ?_));exact trivial
      ·(conv=>whnf);refine no ?_;exact trivial
    ·replace hl2:=ite_f hc112 hl2;cases hl2;(conv=>whnf);refine⟨(),trivial,Sub.eq rfl ?_ ?_⟩
     ·(repeat ((conv=>whnf);refine nr ?_));exact trivial
     ·(conv=>whnf);refine no ?_;exact trivial
  ·rintro _ _;obtain⟨l2,hx15,h⟩:=obind h;refine ws ?_;(conv=>whnf);refine ArrS.mk (List.map (fun x=>.int .u8 x) [b19.a0,b19.a1,b19.a2,b19.a3,b19.a4]) rfl rfl (tP _ fun _=>rfl) ?_;(conv=>whnf);refine Need.mk (ui hx15 rfl) (Eqv.mk (List.map (fun x=>.int .u8 x) l2) (slc_map0 _ hx15) ?_);refine ws ?_;(conv=>whnf);refine StrG.mk l2 rfl ?_;(conv=>whnf);cases h;exact rfl
theorem fB{N:Nat}(hN:N≤1073741824){hv1:DeskHead}{r:(List UInt8)}(h:Dp N hv1=some r) :
    ACalls Tryz.prog 109 [.d (.agg [I hv1.fLong,I hv1.fCheck])] [] fun e os=>e=.ret (.d (.str r))∧os=[]:=by
  refine ah (fresh:=false) al ap ⟨[1],[],[],[],[],0,[]⟩ Tryz.func109 rfl Tryz.call109 rfl ?_
  unfold Dp at h
  (conv=>whnf);refine DrawG.mk (.take 0 (.take 1 (.take 5 (.take 6 (.alt 2 [6,5,0] (.take 3 (.take 4 (.alt 7 [4,3,5,0] (.take 8 (.take 9 (.take 10 .done))) .nil))) .nil))))) (by kernel_rfl) ?_;refine wb ?_;obtain⟨r3,hx7,h⟩:=obind h;(conv=>whnf);refine CallG.pure _ (mu hN hx7) ?_;(iterate 3 refine wl ?_);obtain⟨s5,hx8,h⟩:=obind h;obtain⟨s6,hx9,h⟩:=obind h;(conv=>whnf);refine Need.mk (eO hN hx8) ?_;(conv=>whnf);refine Need.mk (eO hN hx9) ?_;refine wb ?_;obtain⟨r4,hx10,h⟩:=obind h;(conv=>whnf);refine CallG.pure _ (mu hN hx10) ?_;(conv=>whnf);refine Need.mk (eO hN hx9) ?_;refine wl ?_;(conv=>whnf);refine Need.mk (eO hN hx8) ?_;(iterate 2 refine wl ?_);refine wl ?_
  obtain⟨s7,hx11,h⟩:=obind h;obtain⟨s8,hx12,h⟩:=obind h;(conv=>whnf);refine Need.mk (eO hN hx11) ?_;(conv=>whnf);refine Need.mk (eO hN hx12) ?_;(conv=>whnf);cases h;exact rfl
theorem Hm{N:Nat}(hN:N≤1073741824){lines1:List (List UInt8)}{r:(List Int)}(h:jE N lines1=some r) :
    ACalls Tryz.prog 63 [.d (.list 1 (List.map D.str lines1))] [] fun e os=>e=.ret (.d (.list 1 (List.map (fun x=>.int .u8 x) r)))∧os=[]:=by
  refine ah (fresh:=false) al ap ⟨[],[],[],[],[1002],0,[]⟩ Tryz.func63 rfl Tryz.call63 rfl ?_
  unfold jE at h
  obtain⟨l11,hx43,h⟩:=obind h;(conv=>whnf);refine SeqG.mk Value (fun y=>[(3,.sl 21 y)]) (fun y=>[(21,.arr y 5 1 false (List.map (fun x=>.int .u8 x) l11))]) (fun _=>True) ?_ ?_
  ·(conv=>whnf);refine LnA.mk _ (List.length_map _) ?_;(conv=>whnf);refine LoopG.mk (Nat×(Int×Int×(List Int))×Value) (fun y=>[(3,.sl 21 y.2.2),(6,.d (.list 1 (List.map D.str lines1))),(7,.d (I y.2.1.1)),(8,.d (I y.2.1.2.1))]) (fun y=>[(21,.arr y.2.2 5 1 false (List.map (fun x=>.int .u8 x) y.2.1.2.2))]) (fun y=>loopN (fun rr x=>cH N lines1 rr x.1 x.2.1 x.2.2) y.1 y.2.1=some l11) (fun y=>y.1) (N,((lines1.length:Int),0,[]),(.slice none 0 0)) hx43 (Sub.eq rfl ?_ ?_) ?_
   ·(repeat ((conv=>whnf);refine nr ?_));exact trivial
   ·(conv=>whnf);refine Need.mk (OLe.nil _ _ _ _) ?_;exact trivial
   ·rintro⟨n2,⟨v17,v18,l19⟩,hd19⟩ hl2;obtain⟨n2,rfl,hl2⟩:=loopN_some hl2;replace hl2:cH N lines1 (loopN (fun rr x=>cH N lines1 rr x.1 x.2.1 x.2.2) n2) v17 v18 l19=some l11:=hl2;rw[cH]at hl2;refine wB (fun hc12=>?_) (fun hc12=>?_)
    ·replace hl2:=ite_t hc12 hl2;obtain⟨x24,hx80,hl2⟩:=obind hl2;(conv=>whnf);refine Side.mk rfl ⟨_,idx_0 hx80,idx_map _ hx80,?_⟩;obtain⟨r23,hx81,hl2⟩:=obind hl2;(conv=>whnf);refine CallG.pure _ (mt hN hx81) ?_;obtain⟨r24,hx82,hl2⟩:=obind hl2;(conv=>whnf);refine CallG.pure _ (fB hN hx82) ?_;obtain⟨s23,hx83,hl2⟩:=obind hl2;(conv=>whnf);refine Need.mk (eO hN hx83) ?_;obtain⟨s24,hx84,hl2⟩:=obind hl2;(conv=>whnf);refine Need.mk (eO hN hx84) ?_;obtain⟨l21,hx85,hl2⟩:=obind hl2;(conv=>whnf);refine Side.mk ⟨rfl,rfl,rfl⟩ (Eqv.mk (List.map (fun x=>.int .u8 x) (bytesI (((r24++x24)++([10]:List UInt8))))) (sQ _) ?_);(conv=>whnf);refine Side.mk ⟨rfl,rfl,rfl⟩ (Need.mk (vH hN hx85) (Eqv.mk (List.map (fun x=>.int .u8 x) l21) (app_map _ hx85) ?_));(conv=>whnf);intro hd21;(conv=>whnf)
     refine⟨(n2,(v17,w64 (v18+1),l21),hd21),hl2,Sub.eq rfl ?_ ?_,Nat.lt_succ_self _⟩
     ·(repeat ((conv=>whnf);refine nr ?_));exact trivial
     ·(conv=>whnf);refine no ?_;exact trivial
    ·replace hl2:=ite_f hc12 hl2;cases hl2;(conv=>whnf);refine⟨hd19,trivial,Sub.eq rfl ?_ ?_⟩
     ·(repeat ((conv=>whnf);refine nr ?_));exact trivial
     ·(conv=>whnf);refine no ?_;exact trivial
  ·rintro hd11 _;refine ws ?_;(conv=>whnf);cases h;exact rfl
