/-
  The walk of the law DeskReports.
-/
import Derived.Test.YtdodahpkpeodfaaGreatDoorVe
import Derived.Test.YtdodahpkpeodfaaGreatDoorVk
import Derived.Test.YtdodahpkpeodfaaGreatDoorDDeskReports
import Derived.Test.YtdodahpkpeodfaaGreatDoorWe
open List renaming map→Jy
namespace Go.Proofs.YtdodahpkpeodfaaGreatDoor
open Go Go.Abs Go.Kp
set_option maxRecDepth 100000
set_option maxHeartbeats 64000000
set_option linter.all false
theorem jR{N:Nat}(hN:N≤1073741824) {r:Bool}(h:cL N=some r) :
    ACalls Tryz.prog 9 [] [] fun e os=>e=.ret (.d (.bool r))∧os=[]:=by
  refine Cs al ap [6] 0 Tryz.func9 rfl Tryz.call9 rfl ?_
  unfold cL at h
  repeat' ((conv=>whnf)<;>first|refine u (k:=?_)|exact v|refine aap D.str _ [_,_,_,_] hN rfl rfl ‹_› (by decide) ?_|refine StrG.mk _ rfl ?_|refine cf 16 16 (i6 hN am) ?_|refine cp (uk hN am) ?_|refine cf 24 24 (i6 hN am) ?_|refine cp (O5 hN am) ?_|refine cf 32 32 (i6 hN am) ?_|refine cp (O7 hN am) ?_|refine cf 38 38 (i6 hN am) ?_|refine cp (ru hN am) ?_|refine cp (ol (lines1:=[_]) hN am) ?_|refine sq0 6 h [] (fun x=>[(0,.d (.bool x))]) ?_ ?_|refine cp (su (b1:=[20,34]) hN am) ?_|intro _|apply Br.mk|refine TyG.mk fun _ h=>?_|(refine hs h ?_;intro _ _ h))
theorem Mx{N:Nat}(hN:N≤1073741824){lines1:List (List UInt8)}{r:Bool}(h:Jo N lines1=some r) :
    ACalls Tryz.prog 6 [.d (.list 1 (List.map D.str lines1))] [] fun e os=>e=.ret (.d (.bool r))∧os=[]:=by
  refine Cs al ap [6,7] 0 Tryz.func6 rfl Tryz.call6 rfl ?_
  unfold Jo at h
  repeat' ((conv=>whnf)<;>first|refine u (k:=?_)|exact v|refine cp (sf hN am) ?_|refine cp (jR hN am) ?_|refine cf 12 12 (sv hN am) ?_|refine cp (ru hN am) ?_|refine cp (FP hN am) ?_|refine sq0 6 h [] (fun x=>[(2,.d (.bool x))]) ?_ ?_|refine sq0 7 h [] (fun x=>[(2,.d (.bool x))]) ?_ ?_|refine cp (Nk hN am) ?_|intro _|apply Br.mk|refine TyG.mk fun _ h=>?_|(refine hs h ?_;intro _ _ h))
