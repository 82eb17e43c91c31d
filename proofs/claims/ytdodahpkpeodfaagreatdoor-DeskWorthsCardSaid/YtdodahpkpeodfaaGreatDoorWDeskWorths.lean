/-
  The walk of the law DeskWorths.
-/
import Derived.Test.YtdodahpkpeodfaaGreatDoorVc
import Derived.Test.YtdodahpkpeodfaaGreatDoorVe
import Derived.Test.YtdodahpkpeodfaaGreatDoorVk
import Derived.Test.YtdodahpkpeodfaaGreatDoorDDeskWorths
import Derived.Test.YtdodahpkpeodfaaGreatDoorWe
namespace Go.Proofs.YtdodahpkpeodfaaGreatDoor
open Go Go.Abs Go.Kp
set_option maxRecDepth 100000
set_option maxHeartbeats 64000000
set_option linter.all false
theorem jR{N:Nat}(hN:N≤1073741824) {r:Bool}(h:cL N=some r) :
    ACalls Tryz.prog 9 [] [] fun e os=>e=.ret (.d (.bool r))∧os=[]:=by
  refine Cs al ap [6] 0 Tryz.func9 rfl Tryz.call9 rfl ?_
  unfold cL at h
  repeat' ((conv=>whnf)<;>first|refine u (k:=?_)|exact v|refine aap D.str _ [_,_,_,_] hN rfl rfl ‹_› (by decide) ?_|refine StrG.mk _ rfl ?_|refine cf 16 16 (i6 hN am) ?_|refine cp (uk hN am) ?_|refine cf 24 24 (i6 hN am) ?_|refine cp (OR hN am) ?_|refine cf 32 32 (i6 hN am) ?_|refine cp (Oc hN am) ?_|refine cf 38 38 (i6 hN am) ?_|refine cp (ru hN am) ?_|refine cp (ol (lines1:=[_]) hN am) ?_|refine sq0 6 h [] (fun x=>[(0,.d (.bool x))]) ?_ ?_|refine cp (su (b1:=[20,34]) hN am) ?_|intro _|apply Br.mk|refine TyG.mk fun _ h=>?_|(refine hs h ?_;intro _ _ h))
theorem Ko{N:Nat}(hN:N≤1073741824){lines1:List (List UInt8)}{bowler1:Int}{week1:Int}{r:Bool}(h:DH N lines1 bowler1 week1=some r) :
    ACalls Tryz.prog 5 [.d (.list 1 (List.map D.str lines1)),.d (I bowler1),.d (I week1)] [] fun e os=>e=.ret (.d (.bool r))∧os=[]:=by
  refine Cs al ap [6,8,11,13,1006,1008] 0 Tryz.func5 rfl Tryz.call5 rfl ?_
  unfold DH at h
  delta w64 at h
  repeat' ((conv=>whnf)<;>first|refine u (k:=?_)|exact v|refine cp (sf hN am) ?_|refine cp (jR hN am) ?_|refine cf 20 20 (sv hN am) ?_|refine cp (Oc hN am) ?_|refine cp (FP hN am) ?_|refine cp (Gy hN am) ?_|refine sq 1006 h [1,2,7,8,9,11] [11] [] [] () (fun p x y=>[(10,.d (I x))]) (fun p x y=>[]) ?_ ?_|refine sq 6 h [1,2,7,8,9,10,11] [11] [] [] () (fun p x y=>[(44,.d (.bool x))]) (fun p x y=>[]) ?_ ?_|refine cp (Dn hN am) ?_|refine sq 1008 h [1,2,7,8,9,11] [11] [] [] () (fun p x y=>[(10,.d (I x))]) (fun p x y=>[]) ?_ ?_|refine sq 8 h [1,2,7,8,9,10,11] [11] [] [] () (fun p x y=>[(51,.d (.bool x))]) (fun p x y=>[]) ?_ ?_|refine sq0 11 h [] (fun x=>[(6,.d (.bool x))]) ?_ ?_|refine cp (LB hN am) ?_|refine sq0 13 h [] (fun x=>[(6,.d (.bool x))]) ?_ ?_|refine cp (JW hN am) ?_|refine cp (KU hN am) ?_|intro _|apply Br.mk|refine TyG.mk fun _ h=>?_|(refine hs h ?_;intro _ _ h))
