/-
  The walk of the law DeskPlays.
-/
import Derived.Test.YtdodahpkpeodfaaGreatDoorDDeskPlays
import Derived.Test.YtdodahpkpeodfaaGreatDoorWe
import Derived.Test.YtdodahpkpeodfaaGreatDoorVa
import Derived.Test.YtdodahpkpeodfaaGreatDoorVc
import Derived.Test.YtdodahpkpeodfaaGreatDoorVe
import Derived.Test.YtdodahpkpeodfaaGreatDoorVf
import Derived.Test.YtdodahpkpeodfaaGreatDoorVg
namespace Go.Proofs.YtdodahpkpeodfaaGreatDoor
open Go Go.Abs Go.Kp
set_option maxRecDepth 100000
set_option maxHeartbeats 8000000
set_option linter.all false
theorem Ez{N:Nat}(hN:N≤1073741824){lines1:List (List UInt8)}{r:Bool}(h:BZ N lines1=some r) :
    ACalls Tryz.prog 3 [.d (.list 1 (List.map D.str lines1))] [] fun e os=>e=.ret (.d (.bool r))∧os=[]:=by
  refine ah (fresh:=false) al ap ⟨[],[],[],[],[6,8,1010],0,[]⟩ Tryz.func3 rfl Tryz.call3 rfl ?_
  unfold BZ at h
  repeat' ((conv=>whnf)<;>first|refine u (k:=?_)|exact v|refine cp (sf hN am) ?_|refine cp (jR hN am) ?_|refine cf 16 16 (sv hN am) ?_|refine cp (uk hN am) ?_|refine cp (FP hN am) ?_|refine sq0 6 h [] (fun x=>[(2,.d (.bool x))]) ?_ ?_|refine cp (Gq hN am) ?_|refine cp (Gy hN am) ?_|refine sq0 8 h [4,8] (fun x=>[(59,.d (.bool x))]) ?_ ?_|refine cp (Gz hN am) ?_|refine st0 1010 (F:=C7 (Bx N)) r [] (fun y=>[]) ?_ ?_|refine lp0 11 h [4,8] (fun y=>[(9,.d (I y.x))]) ?_ ?_|refine dr 0 66 (tkA 9 0 .done) rfl (by kernel_rfl) ?_|(rw[zl]at h;delta w64 at h)|unfold Bx at h|intro _|refine Br.mk (fun _=>?_) fun _=>?_|refine TyG.mk fun _ h=>?_|(refine hs h ?_;intro _ _ h)|fail)
end Go.Proofs.YtdodahpkpeodfaaGreatDoor
