/-
  Walks: what the typed functions compute, the program’s functions return.
-/
import Derived.Test.YtdodahpkpeodfaaGreatDoorWe
import Derived.Test.YtdodahpkpeodfaaGreatDoorVa
import Derived.Test.YtdodahpkpeodfaaGreatDoorVd
import Derived.Test.YtdodahpkpeodfaaGreatDoorVh
import Derived.Test.YtdodahpkpeodfaaGreatDoorVi
open List renaming length_map→Ia
open List renaming map→Jy
open Nat renaming lt_succ_self→yb
namespace Go.Proofs.YtdodahpkpeodfaaGreatDoor
open Go Go.Abs Go.Kp
set_option maxRecDepth 100000
set_option maxHeartbeats 64000000
set_option linter.all false
def oH (bo1:Nat):(da×aL)⊕aL→AE→List (Nat×Ob)→Prop
  | .inl r=>fun ae os=>∃y:Unit,True∧ae=.pan (.ifc 211 (.agg [I r.1.fE]))∧os=[(390003,.cells bo1 (cW r.2))]
  | .inr r=>fun ae os=>∃y:Unit,True∧ae=.ret (.d (.tup []))∧os=[(390003,.cells bo1 (cW r))]
theorem kc{N:Nat}(hN:N≤1073741824){s1:List UInt8}{c1:aL}{bo1:Nat}{r:(da×aL)⊕aL}(h:iS N s1 c1=some r) :
    ACalls Tryz.prog 107 [.ptr 390003 bo1 0,.d (.str s1)] [(390003,.cells bo1 (cW c1))] (oH bo1 r):=by
  refine Jv al ap [1,2,1004] 400000 Tryz.func107 rfl Tryz.call107 rfl ?_
  unfold iS at h
  delta w64 at h
  repeat' ((refine np ?_;conv=>whnf)<;>first|refine u (k:=?_)|exact v|refine EU (eK:=(fun x:List UInt8=>.str x)) (eV:=(fun x:j1=>.agg [I x.vD,Cx x.fDo])) (fun _=>rfl) ?_|(refine itx h (fun hc h=>?_) fun hc h=>?_)|refine Both.mk ?_ ?_|refine alk (eK:=(fun x:List UInt8=>.str x)) (eV:=(fun x:j1=>.agg [I x.vD,Cx x.fDo])) cM _ ((j1.mk 0 (-1))) rfl rfl ‹_› ?_|refine cp (xm hN am) ?_|refine sq 1 h [0,4] [390003] [] [.t 5] () (fun p x y=>[(5,.ptr 400005 (y.b 0) 0),(6,.d (.bool x.1))]) (fun p x y=>[(400005,.cells (y.b 0) [.d (I x.2.vD),.d (Cx x.2.fDo)])]) ?_ ?_|refine dr 0 13 (tkA 3 1 (.alt 0 [3,2,1] (.alt 4 [2,1] (tkA 3 5 (.alt 8 [7,6,5,2,1] (.alt 9 [7] (.take 10 .done) .nil) .nil)) (.alt 8 [3,2,1] (.alt 4 [2,1] (tkA 3 5 (.alt 9 [7] (.take 10 .done) .nil)) .nil) .nil)) (.alt 8 [3,2,1] (.alt 0 [3,2,1] (.alt 4 [2,1] (tkA 3 5 (.alt 9 [7] (.take 10 .done) .nil)) .nil) .nil) .nil))) rfl (by kernel_rfl) ?_|refine co (pj hN am) ?_|apply st 2 (F:=C7 (dQ N c1 _ _)) r [0,4,5] [390003,400005] [] [] () (fun p y=>[]) (fun p y=>[]) ?_ ?_|refine cq (aI hN am) ?_|refine co (aI hN am) ?_|apply st 1004 (F:=GR (fV N c1 _)) r [0,5] [390003,400005] [.t 7] [] () (fun p y=>[(7,.sl 400041 (y.y.v 0))]) (fun p y=>[(400041,.arr (y.y.v 0) 3 1 false (Jy I y.x))]) ?_ ?_|refine lp 5 h [0,5,31] [390003,400005] [.t 7] [] () (fun p y=>[(7,.sl 400041 (y.y.v 0)),(32,.d (I y.x.1)),(33,.d (I y.x.2.1))]) (fun p y=>[(400041,.arr (y.y.v 0) 3 1 false (Jy I y.x.2.2))]) ?_ ?_|refine co (mr hN am) ?_|refine cq (mr hN am) ?_|refine cq (jm hN am) ?_|refine co (jm hN am) ?_|refine cq (ka hN am) ?_|refine co (ka hN am) ?_|refine cq (My hN am) ?_|refine co (My hN am) ?_|refine cq (zE hN am) ?_|refine co (zE hN am) ?_|refine cq (jL hN am) ?_|refine co (jL hN am) ?_|refine cq (zy hN am) ?_|refine co (zy hN am) ?_|refine cq (zt hN am) ?_|refine co (zt hN am) ?_|refine cq (zF hN am) ?_|refine co (zF hN am) ?_|refine cq (zA hN am) ?_|refine co (zA hN am) ?_|unfold dQ at h|(rw[cN]at h;delta w64 at h)|unfold fV at h|intro _|apply Br.mk|refine TyG.mk fun _ h=>?_|(refine hs h ?_;intro _ _ h)|(cases ‹_⊕_›)|(refine itd h (fun hc h=>?_) fun hc h=>?_;rw[of_decide_eq_true hc]))
theorem oI{N:Nat}(hN:N≤1073741824){s1:List UInt8}{c1:aL}{bo1:Nat}{r:Int×aL}(h:iT N s1 c1=some r) :
    ACalls Tryz.prog 62 [.ptr 390003 bo1 0,.d (.str s1)] [(390003,.cells bo1 (cW c1))] (fun ae os=>∃y:Unit,True∧ae=.ret (.d (I r.1))∧os=[(390003,.cells bo1 (cW r.2))]):=by
  unfold iT at h
  split at h
  · cases h
  · rename_i e;cases h;exact vj (kc hN e)
  · rename_i e;cases h;exact vh (kc hN e)
theorem i7{N:Nat}(hN:N≤1073741824){lines1:List (List UInt8)}{r:(List Int)×aL}(h:gn N lines1=some r) :
    ACalls Tryz.prog 35 [.d (.list 1 (Jy D.str lines1))] [] fun ae os=>∃y:Nat,True∧ae=.ret (.tup [.ptr 390003 y 0,.d (.list 1 (Jy I r.1))])∧os=[(390003,.cells y (cW r.2))]:=by
  refine Ij al ap [1003] 180000 Tryz.func35 rfl Tryz.call35 rfl ?_
  unfold gn at h
  repeat' ((conv=>whnf)<;>first|refine u (k:=?_)|exact v|refine co (sg hN am) ?_|apply sq 1003 h [4] [] [.t 5] [] (_:Nat) (fun p x y=>[(5,.sl 180020 (y.v 0))]) (fun p x y=>[(390003,.cells p (cW x.1)),(180020,.arr (y.v 0) 33 1 false (Jy I x.2))]) ?_ ?_|apply lp 4 h [4,9] [] [.t 5] [] (_:Nat) (fun p y=>[(5,.sl 180020 (y.y.v 0)),(10,.d (I y.x.1)),(11,.d (I y.x.2.1))]) (fun p y=>[(390003,.cells p (cW y.x.2.2.1)),(180020,.arr (y.y.v 0) 33 1 false (Jy I y.x.2.2.2))]) ?_ ?_|refine co (oI hN am) ?_|(rw[eD]at h;delta w64 at h)|intro _|apply Br.mk|refine TyG.mk fun _ h=>?_|(refine hs h ?_;intro _ _ h))
theorem lZ{N:Nat}(hN:N≤1073741824){s1:aR}{r:aR}(h:fW N s1=some r) :
    ACalls Tryz.prog 36 [.d (.agg [.list 1 (Jy I s1.az),.list 2 (Jy cA.enc s1.ag),.list 1 (Jy eL s1.iZ),.list 6 (Jy aH.enc s1.aD),.list 1 (Jy I s1.ak),.list 3 (Jy ab.enc s1.aP)])] [] fun e os=>e=.ret (.d (.agg [.list 1 (Jy I r.az),.list 2 (Jy cA.enc r.ag),.list 1 (Jy eL r.iZ),.list 6 (Jy aH.enc r.aD),.list 1 (Jy I r.ak),.list 3 (Jy ab.enc r.aP)]))∧os=[]:=by
  refine ah (fresh:=false) al ap ⟨[1],[],[],[],[1,1002,1007,1012],0,[]⟩ Tryz.func36 rfl Tryz.call36 rfl ?_
  unfold fW at h
  repeat' ((conv=>whnf)<;>first|refine u (k:=?_)|exact v|refine aap cA.enc _ [(cA.mk _ _)] hN rfl rfl ‹_› (by decide) ?_|refine aap eL _ [_] hN rfl rfl ‹_› (by decide) ?_|refine aap ab.enc _ [(ab.mk _ _ _)] hN rfl rfl ‹_› (by decide) ?_|refine Both.mk ?_ ?_|refine sq 1 h [1,2] [2] [] [.t 3] () (fun p x y=>[(3,.ptr 3 (y.b 0) 0)]) (fun p x y=>[(3,.cells (y.b 0) [.d (.list 1 (Jy I x.1)),.nils 2,.nils 1,.d (.list 6 (Jy aH.enc x.2.1)),.d (.list 1 (Jy I x.2.2)),.nils 3])]) ?_ ?_|refine dr 0 10 (tkA 2 0 (tkA 2 3 (tkA 2 6 (.alt 2 [7,6,4,3,0] (.alt 5 [7,6,3,0] (.alt 8 [6,3,0] (.alt 9 [6,3,0] (.alt 10 [6,3,0] (.alt 11 [] .done .nil) .nil) (.alt 10 [6,3,0] (.alt 9 [6,3,0] (.alt 11 [] .done .nil) .nil) .nil)) (.alt 10 [7,6,3,0] (.alt 8 [6,3,0] (.alt 9 [6,3,0] (.alt 11 [] .done .nil) .nil) .nil) .nil)) (.alt 10 [7,6,4,3,0] (.alt 5 [7,6,3,0] (.alt 8 [6,3,0] (.alt 9 [6,3,0] (.alt 11 [] .done .nil) .nil) .nil) .nil) .nil)) (.alt 10 [7,6,4,3,1,0] (.alt 2 [7,6,4,3,0] (.alt 5 [7,6,3,0] (.alt 8 [6,3,0] (.alt 9 [6,3,0] (.alt 11 [] .done .nil) .nil) .nil) .nil) .nil) .nil))))) rfl (by kernel_rfl) ?_|refine cf 12 12 (bB hN am) ?_|refine cf 15 15 (Mu hN am) ?_|refine cf 18 18 (bB hN am) ?_|apply sq 1002 h [1,2,3] [2] [.c 3 1] [] ((_:Nat),(_:List Int),(_:List aH),(_:List Int)) (fun p x y=>[]) (fun p x y=>[(3,.cells p.1 [.d (.list 1 (Jy I p.2.1)),.sl 36 (y.v 0),.nils 1,.d (.list 6 (Jy aH.enc p.2.2.1)),.d (.list 1 (Jy I p.2.2.2)),.nils 3]),(36,.arr (y.v 0) 91 2 false (Jy cA.enc x))]) ?_ ?_|apply lp 3 h [1,2,3,21] [2] [.c 3 1] [] ((_:Nat),(_:List Int),(_:List aH),(_:List Int)) (fun p y=>[(22,.d (I y.x.1)),(23,.d (I y.x.2.1))]) (fun p y=>[(3,.cells p.1 [.d (.list 1 (Jy I p.2.1)),.sl 36 (y.y.v 0),.nils 1,.d (.list 6 (Jy aH.enc p.2.2.1)),.d (.list 1 (Jy I p.2.2.2)),.nils 3]),(36,.arr (y.y.v 0) 91 2 false (Jy cA.enc y.x.2.2))]) ?_ ?_|refine dr 0 27 (tkA 6 0 (.alt 6 [4,3,2,1,0] (.alt 7 [4,2,1,0] (.alt 8 [4,2,1,0] (.alt 9 [4,2,0] (.take 10 (.alt 11 [] .done .nil)) .nil) .nil) .nil) .nil)) rfl (by kernel_rfl) ?_|refine cf 33 33 (bB hN am) ?_|apply sq 1007 h [1,2,3] [2,36] [.c 3 2] [] ((_:Nat),(_:List Int),(_:Value),(_:List aH),(_:List Int)) (fun p x y=>[]) (fun p x y=>[(3,.cells p.1 [.d (.list 1 (Jy I p.2.1)),.sl 36 p.2.2.1,.sl 51 (y.v 0),.d (.list 6 (Jy aH.enc p.2.2.2.1)),.d (.list 1 (Jy I p.2.2.2.2)),.nils 3]),(51,.arr (y.v 0) 25 1 false (Jy eL x))]) ?_ ?_|apply lp 8 h [1,2,3,40] [2,36] [.c 3 2] [] ((_:Nat),(_:List Int),(_:Value),(_:List aH),(_:List Int)) (fun p y=>[(41,.d (I y.x.1)),(42,.d (I y.x.2.1))]) (fun p y=>[(3,.cells p.1 [.d (.list 1 (Jy I p.2.1)),.sl 36 p.2.2.1,.sl 51 (y.y.v 0),.d (.list 6 (Jy aH.enc p.2.2.2.1)),.d (.list 1 (Jy I p.2.2.2.2)),.nils 3]),(51,.arr (y.y.v 0) 25 1 false (Jy eL y.x.2.2))]) ?_ ?_|refine dr 0 46 (tkA 3 0 (.alt 3 [1,0] (.alt 4 [1,0] (.alt 5 [0] (.take 6 (.alt 7 [] .done .nil)) .nil) .nil) .nil)) rfl (by kernel_rfl) ?_|refine cf 49 49 (bB hN am) ?_|apply sq 1012 h [2,3] [2,36,51] [.c 3 5] [] ((_:Nat),(_:List Int),(_:Value),(_:Value),(_:List aH),(_:List Int)) (fun p x y=>[]) (fun p x y=>[(3,.cells p.1 [.d (.list 1 (Jy I p.2.1)),.sl 36 p.2.2.1,.sl 51 p.2.2.2.1,.d (.list 6 (Jy aH.enc p.2.2.2.2.1)),.d (.list 1 (Jy I p.2.2.2.2.2)),.sl 72 (y.v 0)]),(72,.arr (y.v 0) 97 3 false (Jy ab.enc x))]) ?_ ?_|apply lp 13 h [2,3,55] [2,36,51] [.c 3 5] [] ((_:Nat),(_:List Int),(_:Value),(_:Value),(_:List aH),(_:List Int)) (fun p y=>[(56,.d (I y.x.1)),(57,.d (I y.x.2.1))]) (fun p y=>[(3,.cells p.1 [.d (.list 1 (Jy I p.2.1)),.sl 36 p.2.2.1,.sl 51 p.2.2.2.1,.d (.list 6 (Jy aH.enc p.2.2.2.2.1)),.d (.list 1 (Jy I p.2.2.2.2.2)),.sl 72 (y.y.v 0)]),(72,.arr (y.y.v 0) 97 3 false (Jy ab.enc y.x.2.2))]) ?_ ?_|refine dr 0 61 (tkA 6 0 (tkA 2 7 (.alt 6 [8,7,4,3,2,1,0] (.alt 9 [7,4,2,1,0] (.alt 10 [7,4,2,1,0] (.alt 11 [7,4,2,0] (.take 12 (.alt 13 [] .done .nil)) .nil) .nil) .nil) .nil))) rfl (by kernel_rfl) ?_|refine cf 67 67 (bB hN am) ?_|(rw[bR]at h;delta w64 at h)|(rw[bS]at h;delta w64 at h)|(rw[bT]at h;delta w64 at h)|intro _|apply Br.mk|refine TyG.mk fun _ h=>?_|(refine hs h ?_;intro _ _ h))
theorem uk{N:Nat}(hN:N≤1073741824){lines1:List (List UInt8)}{r:aR×(List Int)×Int}(h:nE N lines1=some r) :
    ACalls Tryz.prog 10 [.d (.list 1 (Jy D.str lines1))] [] fun e os=>e=.ret (.d (.tup [.agg [.list 1 (Jy I r.1.az),.list 2 (Jy cA.enc r.1.ag),.list 1 (Jy eL r.1.iZ),.list 6 (Jy aH.enc r.1.aD),.list 1 (Jy I r.1.ak),.list 3 (Jy ab.enc r.1.aP)],.list 1 (Jy I r.2.1),I r.2.2]))∧os=[]:=by
  refine Cs al ap [] 0 Tryz.func10 rfl Tryz.call10 rfl ?_
  unfold nE at h
  repeat' ((conv=>whnf)<;>first|refine u (k:=?_)|exact v|refine cp (gP hN am) ?_|refine co (i7 hN am) ?_|refine cp (lZ hN am) ?_|intro _|apply Br.mk|(refine hs h ?_;intro _ _ h))
theorem OR{N:Nat}(hN:N≤1073741824){lines1:List (List UInt8)}{lane1:Int}{r:(List Int)×Int×Int×Int}(h:lJ N lines1 lane1=some r) :
    ACalls Tryz.prog 16 [.d (.list 1 (Jy D.str lines1)),.d (I lane1)] [] fun e os=>e=.ret (.d (.tup [.list 1 (Jy I r.1),I r.2.1,I r.2.2.1,I r.2.2.2]))∧os=[]:=by
  refine Cs al ap [5] 0 Tryz.func16 rfl Tryz.call16 rfl ?_
  unfold lJ at h
  delta w64 at h
  repeat' ((conv=>whnf)<;>first|refine u (k:=?_)|exact v|refine cp (gP hN am) ?_|refine co (i7 hN am) ?_|refine sq 5 h [1,9] [390003] [] [] () (fun p x y=>[(47,.d (.bool x))]) (fun p x y=>[]) ?_ ?_|refine cp (fO hN am) ?_|refine cp (fP hN am) ?_|refine cp (cm hN am) ?_|refine cp (sj hN am) ?_|refine dr 0 69 (tkA 10 0 .done) rfl (by kernel_rfl) ?_|intro _|apply Br.mk|refine TyG.mk fun _ h=>?_|(refine hs h ?_;intro _ _ h))
theorem Oc{N:Nat}(hN:N≤1073741824){lines1:List (List UInt8)}{bowler1:Int}{week1:Int}{r:Int×Int×Int}(h:lL N lines1 bowler1 week1=some r) :
    ACalls Tryz.prog 22 [.d (.list 1 (Jy D.str lines1)),.d (I bowler1),.d (I week1)] [] fun e os=>e=.ret (.d (.tup [I r.1,I r.2.1,I r.2.2]))∧os=[]:=by
  refine Cs al ap [] 0 Tryz.func22 rfl Tryz.call22 rfl ?_
  unfold lL at h
  repeat' ((conv=>whnf)<;>first|refine u (k:=?_)|exact v|refine cp (gP hN am) ?_|refine co (i7 hN am) ?_|refine co (jH hN am) ?_|refine co (ik hN am) ?_|refine cp (qf hN am) ?_|refine cp (oL hN am) ?_|intro _|apply Br.mk|(refine hs h ?_;intro _ _ h))
theorem ru{N:Nat}(hN:N≤1073741824){lines1:List (List UInt8)}{r:(List UInt8)×Int}(h:gM N lines1=some r) :
    ACalls Tryz.prog 26 [.d (.list 1 (Jy D.str lines1))] [] fun e os=>e=.ret (.d (.tup [.str r.1,I r.2]))∧os=[]:=by
  refine ah (fresh:=false) al ap ⟨[],[],[7],[],[11,1007,1009,1015,1017,1019,1027],0,[]⟩ Tryz.func26 rfl Tryz.call26 rfl ?_
  unfold gM at h
  obtain⟨r4,hx4,h⟩:=obind h;(conv=>whnf);refine CallG.pure _ (gP hN hx4) ?_;refine wB (fun hc2=>?_) (fun hc2=>?_)
  ·replace h:=ite_t hc2 h;cases h
  ·replace h:=ite_f hc2 h;obtain⟨⟨ra2,rb2⟩,hx6,h⟩:=obind h;(conv=>whnf);refine co (i7 hN hx6) ?_;(conv=>whnf);rintro b2 _;(conv=>whnf);intro b4;obtain⟨bs11,hx64,h⟩:=obind h;(conv=>whnf);refine sk Value [5,7,8] [390003] (fun _=>[]) (fun y=>[(7,.bld b4 126 5 y bs11)]) (fun _=>True) ?_ ?_
   ·refine ws ?_;(conv=>whnf);refine LnA.mk _ (Ia _) ?_;(conv=>whnf);refine lk (Nat×(Int×Int×(List UInt8))×Value) [5,7,8,37] [390003] (fun y=>[(38,.d (I y.2.1.1)),(39,.d (I y.2.1.2.1))]) (fun y=>[(7,.bld b4 126 5 y.2.2 y.2.1.2.2)]) (fun y=>loopN (fun rr x=>dK N rb2 rr x.1 x.2.1 x.2.2) y.1 y.2.1=some bs11) (fun y=>y.1) (N,((rb2.kZ.ag.length:Int),0,([]:List UInt8)),(.slice none 0 0)) hx64 Cl ?_
    ·rintro⟨n2,⟨v17,v18,bs19⟩,hd39⟩ hl2;obtain⟨n2,rfl,hl2⟩:=loopN_some hl2;replace hl2:dK N rb2 (loopN (fun rr x=>dK N rb2 rr x.1 x.2.1 x.2.2) n2) v17 v18 bs19=some bs11:=hl2;rw[dK]at hl2;refine wB (fun hc24=>?_) (fun hc24=>?_)
     ·replace hl2:=ite_t hc24 hl2;obtain⟨bs21,hx112,hl2⟩:=obind hl2;(conv=>whnf);refine sk Value [5,7,8,37,38,39] [390003] (fun _=>[]) (fun y=>[(7,.bld b4 126 5 y bs21)]) (fun _=>True) ?_ ?_
      ·obtain⟨x24,hx114,hx112⟩:=obind hx112;(conv=>whnf);refine Side.mk rfl ⟨_,idx_0 hx114,idx_map _ hx114,?_⟩;(conv=>whnf);intro b116;(iterate 2 refine ws ?_);refine wB (fun hc26=>?_) (fun hc26=>?_)
       ·replace hx112:=ite_t hc26 hx112;obtain⟨g24,hx117,hx112⟩:=obind hx112;(conv=>whnf);refine sk Nat [5,7,8,9,10,37,38,39] [390003,7,10] (fun y=>[(11,.ptr 11 y 0)]) (fun y=>[(11,.cells y [.d (.list 1 (Jy eL g24.bv)),.d (.list 1 (Jy I g24.vg)),.d (I g24.cw),.d (.bool g24.xk)])]) (fun _=>True) ?_ ?_
        ·obtain⟨r50,hx118,hx117⟩:=obind hx117;obtain⟨⟨ra26,rb26⟩,hx119,hx117⟩:=obind hx117;(conv=>whnf);refine DrawG.mk (.take 1 (.take 2 (.alt 0 [2,1] (.alt 3 [1] (.take 4 (.take 5 (.take 6 (.alt 7 [6,5,4,1] (.alt 8 [6] (.take 9 .done) .nil) .nil)))) (.alt 7 [2,1] (.alt 3 [1] (.take 4 (.take 5 (.take 6 (.alt 8 [6] (.take 9 .done) .nil)))) .nil) .nil)) (.alt 7 [2,1] (.alt 0 [2,1] (.alt 3 [1] (.take 4 (.take 5 (.take 6 (.alt 8 [6] (.take 9 .done) .nil)))) .nil) .nil) .nil)))) (by kernel_rfl) ?_;refine ws ?_;(conv=>whnf);refine Both.mk ?_ ?_
         ·(conv=>whnf);refine CallG.pure _ (fP hN hx118) ?_;refine ws ?_;(iterate 2 refine wl ?_);(conv=>whnf);refine Both.mk ?_ ?_
          ·(conv=>whnf);refine CallG.pure _ (cm hN hx119) ?_;refine wl ?_;refine wb ?_;(conv=>whnf);intro b122;(iterate 4 refine wl ?_);refine wb ?_;refine ws ?_;refine wl ?_;cases hx117;(conv=>whnf);exact⟨b122,trivial,Cl⟩
          ·refine wb ?_;(conv=>whnf);intro b123;refine ws ?_;(iterate 2 refine wl ?_);refine wb ?_;(conv=>whnf);refine CallG.pure _ (cm hN hx119) ?_;refine wl ?_;refine wb ?_;refine ws ?_;refine wl ?_;cases hx117;(conv=>whnf);exact⟨b123,trivial,Cl⟩
         ·refine wb ?_;(conv=>whnf);intro b124;refine ws ?_;(iterate 2 refine wl ?_);refine wb ?_;(conv=>whnf);refine CallG.pure _ (fP hN hx118) ?_;refine ws ?_;(iterate 2 refine wl ?_);refine wb ?_;(conv=>whnf);refine CallG.pure _ (cm hN hx119) ?_;refine wl ?_;refine wb ?_;refine ws ?_;refine wl ?_;cases hx117;(conv=>whnf);exact⟨b124,trivial,Cl⟩
        ·rintro bb24 _;(iterate 2 refine ws ?_);(conv=>whnf);intro hd44;obtain⟨r51,hx120,hx112⟩:=obind hx112;refine ws ?_;(conv=>whnf);refine CallG.pure _ (rp hN hx120) ?_;obtain⟨r52,hx121,hx112⟩:=obind hx112;(conv=>whnf);refine co (jc (bo1:=b4) (ho1:=hd39) hN hx121) ?_;(conv=>whnf);rintro hd45 _;cases hx112;(conv=>whnf);exact⟨hd45,trivial,Cl⟩
       ·replace hx112:=ite_f hc26 hx112;cases hx112;(conv=>whnf);exact⟨hd39,trivial,Cl⟩
      ·rintro hd43 _;(conv=>whnf);exact⟨(n2,(v17,w64 (v18+1),bs21),hd43),hl2,Cl,yb _⟩
     ·replace hl2:=ite_f hc24 hl2;cases hl2;(conv=>whnf);exact⟨hd39,trivial,Cl⟩
   ·rintro hd23 _;obtain⟨r54,hx124,h⟩:=obind h;(conv=>whnf);refine co (ik (bo1:=b2) hN hx124) ?_;(conv=>whnf);rintro _ _;obtain⟨⟨ra28,rb28⟩,hx125,h⟩:=obind h;(conv=>whnf);refine CallG.pure _ (oM hN hx125) ?_;obtain⟨bs29,hx303,h⟩:=obind h;(conv=>whnf);refine sk Value [5,7,8] [390003] (fun _=>[]) (fun y=>[(7,.bld b4 126 5 y bs29)]) (fun _=>True) ?_ ?_
    ·refine ws ?_;(conv=>whnf);refine LnA.mk _ (Ia _) ?_;(conv=>whnf);refine lk (Nat×(Int×Int×(List UInt8))×Value) [5,7,8,13,80] [390003] (fun y=>[(81,.d (I y.2.1.1)),(82,.d (I y.2.1.2.1))]) (fun y=>[(7,.bld b4 126 5 y.2.2 y.2.1.2.2)]) (fun y=>loopN (fun rr x=>dM N rb2 ra28 rr x.1 x.2.1 x.2.2) y.1 y.2.1=some bs29) (fun y=>y.1) (N,((rb2.kZ.iZ.length:Int),0,bs11),hd23) hx303 Cl ?_
     ·rintro⟨n24,⟨v135,v136,bs35⟩,hd79⟩ hl24;obtain⟨n24,rfl,hl24⟩:=loopN_some hl24;replace hl24:dM N rb2 ra28 (loopN (fun rr x=>dM N rb2 ra28 rr x.1 x.2.1 x.2.2) n24) v135 v136 bs35=some bs29:=hl24;rw[dM]at hl24;refine wB (fun hc158=>?_) (fun hc158=>?_)
      ·replace hl24:=ite_t hc158 hl24;obtain⟨bs36,hx451,hl24⟩:=obind hl24;(conv=>whnf);refine sk Value [5,7,8,13,80,81,82] [390003] (fun _=>[]) (fun y=>[(7,.bld b4 126 5 y bs36)]) (fun _=>True) ?_ ?_
       ·obtain⟨x312,hx453,hx451⟩:=obind hx451;(conv=>whnf);refine Side.mk rfl ⟨_,idx_0 hx453,idx_map _ hx453,?_⟩;obtain⟨_,hx466,hx451⟩:=obind hx451;(conv=>whnf);refine sk Unit [5,7,8,13,15,16,17,80,81,82] [390003,7] (fun _=>[]) (fun _=>[]) (fun _=>True) ?_ ?_
        ·(conv=>whnf);refine LnA.mk _ (Ia _) ?_;(conv=>whnf);refine lk (Nat×Int) [5,7,8,13,15,16,17,80,81,82,87,89] [390003,7] (fun y=>[(88,.d (I y.2))]) (fun _=>[]) (fun y=>loopN (fun rr x=>dL N ra28 rr x) y.1 y.2=some ()) (fun y=>y.1) (N,(ra28.length:Int)) hx466 Cl ?_
         ·rintro⟨n28,v156⟩ hl28;obtain⟨n28,rfl,hl28⟩:=loopN_some hl28;replace hl28:dL N ra28 (loopN (fun rr x=>dL N ra28 rr x) n28) v156=some ():=hl28;rw[dL]at hl28;refine wB (fun hc182=>?_) (fun hc182=>?_)
          ·replace hl28:=ite_t hc182 hl28;obtain⟨x336,hx478,hl28⟩:=obind hl28;(conv=>whnf);refine Side.mk rfl ⟨_,idx_0 hx478,idx_map _ hx478,?_⟩;cases hl28
          ·replace hl28:=ite_f hc182 hl28;(conv=>whnf);exact⟨(),trivial,Cl⟩
        ·rintro _ _;(conv=>whnf);refine LnA.mk _ (Ia _) ?_;(conv=>whnf);intro hd83;obtain⟨r77,hx479,hx451⟩:=obind hx451;refine ws ?_;(conv=>whnf);refine CallG.pure _ (qg hN hx479) ?_;obtain⟨r78,hx480,hx451⟩:=obind hx451;(conv=>whnf);refine co (jc (bo1:=b4) (ho1:=hd79) hN hx480) ?_;(conv=>whnf);rintro hd84 _;cases hx451;(conv=>whnf);exact⟨hd84,trivial,Cl⟩
       ·rintro hd82 _;(conv=>whnf);exact⟨(n24,(v135,w64 (v136+1),bs36),hd82),hl24,Cl,yb _⟩
      ·replace hl24:=ite_f hc158 hl24;cases hl24;(conv=>whnf);exact⟨hd79,trivial,Cl⟩
    ·rintro hd65 _;obtain⟨bs38,hx487,h⟩:=obind h;(conv=>whnf);refine sk Value [7] [] (fun _=>[]) (fun y=>[(7,.bld b4 126 5 y bs38)]) (fun _=>True) ?_ ?_
     ·refine ws ?_;(conv=>whnf);refine LnA.mk _ (Ia _) ?_;refine wB (fun hc184=>?_) (fun hc184=>?_)
      ·replace hx487:=ite_t hc184 hx487;obtain⟨r84,hx490,hx487⟩:=obind hx487;(conv=>whnf);refine co (qh (bo1:=b2) hN hx490) ?_;(conv=>whnf);rintro _ _;obtain⟨⟨ra32,rb32⟩,hx491,hx487⟩:=obind hx487;(conv=>whnf);refine CallG.pure _ (oN hN hx491) ?_;(conv=>whnf);intro hd89;obtain⟨r85,hx492,hx487⟩:=obind hx487;refine ws ?_;(conv=>whnf);refine CallG.pure _ (oO hN hx492) ?_;obtain⟨r86,hx493,hx487⟩:=obind hx487;(conv=>whnf);refine co (jc (bo1:=b4) (ho1:=hd65) hN hx493) ?_;(conv=>whnf);rintro hd90 _;cases hx487;(conv=>whnf);exact⟨hd90,trivial,Cl⟩
      ·replace hx487:=ite_f hc184 hx487;cases hx487;(conv=>whnf);exact⟨hd65,trivial,Cl⟩
     ·rintro hd88 _;obtain⟨r88,hx495,h⟩:=obind h;(conv=>whnf);refine co (xl (k:=7) (bo:=b4) (ho:=hd88) hN hx495) ?_;(conv=>whnf);rintro _ _;(conv=>whnf);cases h;exact rfl
theorem ol{N:Nat}(hN:N≤1073741824){lines1:List (List UInt8)}{r:(List Int)×Int}(h:gr N lines1=some r) :
    ACalls Tryz.prog 33 [.d (.list 1 (Jy D.str lines1))] [] fun e os=>e=.ret (.d (.tup [.list 1 (Jy (fun x=>.int .u8 x) r.1),I r.2]))∧os=[]:=by
  refine Cs al ap [] 0 Tryz.func33 rfl Tryz.call33 rfl ?_
  unfold gr at h
  repeat' ((conv=>whnf)<;>first|refine u (k:=?_)|exact v|refine cp (gP hN am) ?_|refine cp (O4 hN am) ?_|intro _|apply Br.mk|(refine hs h ?_;intro _ _ h))
