/-
  The walk of the law DeskBoards.
-/
import Derived.Test.YtdodahpkpeodfaaGreatDoorDDeskBoards
import Derived.Test.YtdodahpkpeodfaaGreatDoorWe
import Derived.Test.YtdodahpkpeodfaaGreatDoorVc
import Derived.Test.YtdodahpkpeodfaaGreatDoorVe
import Derived.Test.YtdodahpkpeodfaaGreatDoorVf
import Derived.Test.YtdodahpkpeodfaaGreatDoorVg
namespace Go.Proofs.YtdodahpkpeodfaaGreatDoor
open Go Go.Abs Go.Kp
set_option maxRecDepth 100000
set_option maxHeartbeats 64000000
set_option linter.all false
theorem Hl{N:Nat}(hN:N≤1073741824){lines1:List (List UInt8)}{lane1:Int}{r:Bool}(h:CB N lines1 lane1=some r) :
    ACalls Tryz.prog 4 [.d (.list 1 (List.map D.str lines1)),.d (I lane1)] [] fun e os=>e=.ret (.d (.bool r))∧os=[]:=by
  refine ah (fresh:=false) al ap ⟨[],[],[],[],[6,9,10,12,1006],0,[]⟩ Tryz.func4 rfl Tryz.call4 rfl ?_
  unfold CB at h
  repeat' ((conv=>whnf)<;>first|refine u (k:=?_)|exact v|(refine itx h (fun hc h=>?_) fun hc h=>?_)|refine cp (sf hN am) ?_|refine cp (jR hN am) ?_|refine cf 20 20 (sv hN am) ?_|refine cp (NZ hN am) ?_|refine cp (FP hN am) ?_|refine cp (Gy hN am) ?_|refine sq 1006 h [1,5,6,7,8,10] [10] [] [] () (fun p x y=>[(9,.d (I x))]) (fun p x y=>[]) ?_ ?_|refine sq 6 h [1,5,6,7,8,9,10] [10] [] [] () (fun p x y=>[(49,.d (.bool x))]) (fun p x y=>[]) ?_ ?_|refine cp (Dn hN am) ?_|refine sq0 9 h [] (fun x=>[(4,.d (.bool x))]) ?_ ?_|refine sq0 10 h [5,6,7,8] (fun x=>[(12,.d (.list 1 (List.map I x)))]) ?_ ?_|refine cp (E8 hN am) ?_|refine cp (JY hN am) ?_|refine sq0 12 h [] (fun x=>[(4,.d (.bool x))]) ?_ ?_|refine cp (Fr hN am) ?_|refine cp (su hN am) ?_|intro _|apply Br.mk|refine TyG.mk fun _ h=>?_|(refine hs h ?_;intro _ _ h)|fail)
end Go.Proofs.YtdodahpkpeodfaaGreatDoor
