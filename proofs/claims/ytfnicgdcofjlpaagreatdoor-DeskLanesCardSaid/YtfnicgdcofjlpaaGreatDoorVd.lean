/-
  Walks: what the typed functions compute, the program’s functions return.
-/
import Derived.Test.YtfnicgdcofjlpaaGreatDoorWe
import Derived.Test.YtfnicgdcofjlpaaGreatDoorVa
import Derived.Test.YtfnicgdcofjlpaaGreatDoorVb
import Derived.Test.YtfnicgdcofjlpaaGreatDoorVc
namespace Go.Proofs.YtfnicgdcofjlpaaGreatDoor
open Go Go.Abs Go.Kp
set_option maxRecDepth 100000
set_option maxHeartbeats 8000000
set_option linter.all false
theorem zY{N:Nat}(hN:N≤1073741824){c1:Int}{c2:Int}{c3:Int}{c4:List LadderResult}{c5:List LadderPair}{m1:List (Int×LadderResult)}{l1:List (Ar2 Int)}{bo1:Nat}{bo2:Nat}{bo3:Nat}{ho1:Value}{r:(List LadderMatch)}(h:yI N c1 c2 c3 c4 c5 m1 l1=some r) :
    ACalls Tryz.prog 226 [.nils 5,.fn (.func 227) [] [.ptr 3060001 bo1 0]] [(3060001,.cells bo1 [.ptr 320040 bo2 0]),(320040,.cells bo2 (cD c1 c2 c3 c4 c5 320038 bo3 1465055 ho1)),(320038,.map bo3 (List.map eMR m1)),(1465055,.arr ho1 64 2 false (List.map eA2 l1))] fun ae os=>∃y:Unit,True∧ae=.ret (.d (.list 5 (List.map LadderMatch.enc r)))∧os=[(3060001,.cells bo1 [.ptr 320040 bo2 0]),(320040,.cells bo2 (cD c1 c2 c3 c4 c5 320038 bo3 1465055 ho1)),(320038,.map bo3 (List.map eMR m1)),(1465055,.arr ho1 64 2 false (List.map eA2 l1))]:=by
  refine aJ (fresh:=false) al ap ⟨[],[],[],[],[1001],3070000,[]⟩ Tryz.func226 rfl Tryz.call226 rfl ?_
  unfold yI at h
  (conv=>whnf);intro b2;obtain⟨l24,hx94,h⟩:=ab h;(conv=>whnf);refine SeqG.mk Value (fun y=>[(2,.ptr 3070002 b2 0)]) (fun y=>[(3070002,.cells b2 [.sl 3070011 y]),(3060001,.cells bo1 [.ptr 320040 bo2 0]),(3070011,.arr y 269 5 false (List.map LadderMatch.enc l24)),(320040,.cells bo2 (cD c1 c2 c3 c4 c5 320038 bo3 1465055 ho1)),(320038,.map bo3 (List.map eMR m1)),(1465055,.arr ho1 64 2 false (List.map eA2 l1))]) (fun _=>True) ?_ ?_
  ·(conv=>whnf);intro lp2 rc2;refine IterG.mk _ _ ⟨[],[],[],[],[3,4,1002],2000,[]⟩ Tryz.func227 rfl Tryz.call227 rfl rfl ?_;(iterate 2 refine ws ?_);(conv=>whnf);refine Side.mk rfl (LnA.mk _ (List.length_map _) ?_);(conv=>whnf)
   refine LoopG.mk (Nat×(Int×Int×(List LadderMatch))×Value) (fun y=>[(0,.fn (.yield lp2) [] []),(1,.ptr 3060001 bo1 0),(9,.sl 1465055 ho1),(10,.d (I y.2.1.1)),(11,.d (I y.2.1.2.1))]) (fun y=>[(3060001,.cells bo1 [.ptr 320040 bo2 0]),(1465055,.arr ho1 64 2 false (List.map eA2 l1)),(3070002,.cells b2 [.sl 3070011 y.2.2]),(1000,.loop lp2 rc2 none),(320040,.cells bo2 (cD c1 c2 c3 c4 c5 320038 bo3 1465055 ho1)),(3070011,.arr y.2.2 269 5 false (List.map LadderMatch.enc y.2.1.2.2)),(320038,.map bo3 (List.map eMR m1))]) (fun y=>aj (fun rr x=>rc N c1 c2 c3 c4 c5 m1 l1 rr x.1 x.2.1 x.2.2) y.1 y.2.1=some l24) (fun y=>y.1) (N,((l1.length:Int),0,[]),(.slice none 0 0)) hx94 (Sub.eq rfl ?_ ?_) ?_
   ·(repeat ((conv=>whnf);refine nr ?_));exact trivial
   ·(iterate 2 ((conv=>whnf);refine no ?_));(conv=>whnf);refine Need.mk (OLe.cells _ _ _ (by repeat (first | exact trivial | ((conv=>whnf);refine Need.mk rfl ?_)))) ?_;(iterate 2 ((conv=>whnf);refine no ?_));(conv=>whnf);refine Need.mk (OLe.nil _ _ _ _) ?_;(conv=>whnf);refine no ?_;exact trivial
   ·rintro⟨n2,⟨v77,v78,l40⟩,hd59⟩ hl2;obtain⟨n2,rfl,hl2⟩:=ar hl2;replace hl2:rc N c1 c2 c3 c4 c5 m1 l1 (aj (fun rr x=>rc N c1 c2 c3 c4 c5 m1 l1 rr x.1 x.2.1 x.2.2) n2) v77 v78 l40=some l24:=hl2;rw[rc]at hl2;refine wB (fun hc112=>?_) (fun hc112=>?_)
    ·replace hl2:=af hc112 hl2;obtain⟨l44,hx172,hl2⟩:=ab hl2;(conv=>whnf);refine SeqG.mk Value (fun y=>[(0,.fn (.yield lp2) [] []),(1,.ptr 3060001 bo1 0),(9,.sl 1465055 ho1),(10,.d (I v77)),(11,.d (I v78))]) (fun y=>[(3060001,.cells bo1 [.ptr 320040 bo2 0]),(1465055,.arr ho1 64 2 false (List.map eA2 l1)),(3070002,.cells b2 [.sl 3070011 y]),(1000,.loop lp2 rc2 none),(320040,.cells bo2 (cD c1 c2 c3 c4 c5 320038 bo3 1465055 ho1)),(3070011,.arr y 269 5 false (List.map LadderMatch.enc l44)),(320038,.map bo3 (List.map eMR m1))]) (fun _=>True) ?_ ?_
     ·obtain⟨x24,hx174,hx172⟩:=ab hx172;(conv=>whnf);refine Side.mk ⟨rfl,rfl⟩ (Need.mk (aL _ hx174) ?_);(conv=>whnf);refine Side.mk ⟨rfl,rfl⟩ ⟨_,Int.natCast_nonneg _,bX _ hx174,?_⟩;(conv=>whnf);intro b136;refine ws ?_;obtain⟨v88,hx179,hx172⟩:=ab hx172;(conv=>whnf)
      refine SeqG.mk Unit (fun y=>[(0,.fn (.yield lp2) [] []),(1,.ptr 3060001 bo1 0),(3,.d (I v78)),(4,.ptr 2004 b136 0),(9,.sl 1465055 ho1),(10,.d (I v77)),(11,.d (I v78)),(29,.d (.bool v88))]) (fun y=>[(3060001,.cells bo1 [.ptr 320040 bo2 0]),(2004,.cells b136 [.d (I x24.a0),.d (I x24.a1)]),(1465055,.arr ho1 64 2 false (List.map eA2 l1)),(3070002,.cells b2 [.sl 3070011 hd59]),(1000,.loop lp2 rc2 none),(320040,.cells bo2 (cD c1 c2 c3 c4 c5 320038 bo3 1465055 ho1)),(3070011,.arr hd59 269 5 false (List.map LadderMatch.enc l40)),(320038,.map bo3 (List.map eMR m1))]) (fun _=>True) ?_ ?_
      ·(conv=>whnf);refine IxG.mk 0 rfl (by decide) ?_;refine ws ?_;refine wB (fun hc130=>?_) (fun hc130=>?_)
       ·replace hx179:=ag hc130 hx179;(conv=>whnf);refine IxG.mk 1 rfl (by decide) ?_;refine ws ?_;refine wB (fun hc131=>?_) (fun hc131=>?_)
        ·replace hx179:=ag hc131 hx179;refine ws ?_;obtain⟨r70,hx180,hx179⟩:=ab hx179;(conv=>whnf)
         refine CallG.own (ym (bo1:=bo2) (bo2:=bo3) (ho1:=ho1) hN hx180) id [(3060001,.cells bo1 [.ptr 320040 bo2 0]),(3070002,.cells b2 [.sl 3070011 hd59]),(1000,.loop lp2 rc2 none),(3070011,.arr hd59 269 5 false (List.map LadderMatch.enc l40)),(2004,.cells b136 [.d (I x24.a0),.d (I x24.a1)])] _ (fun y=>[(320040,.cells bo2 (cD c1 c2 c3 c4 c5 320038 bo3 1465055 ho1)),(320038,.map bo3 (List.map eMR m1)),(1465055,.arr ho1 64 2 false (List.map eA2 l1)),(3060001,.cells bo1 [.ptr 320040 bo2 0]),(3070002,.cells b2 [.sl 3070011 hd59]),(1000,.loop lp2 rc2 none),(3070011,.arr hd59 269 5 false (List.map LadderMatch.enc l40)),(2004,.cells b136 [.d (I x24.a0),.d (I x24.a1)])]) (ac _) (ai (ai (ai trivial))) rfl (ai (ai (ai trivial))) (ai (ai (ai (ai (ai trivial))))) (fun _=>AV.le_refl _) (fun _=>rfl) ?_
         rintro _ _;cases hx179;(conv=>whnf);exact⟨(),trivial,kW⟩
        ·replace hx179:=af hc131 hx179;cases hx179;(conv=>whnf);exact⟨(),trivial,kW⟩
       ·replace hx179:=af hc130 hx179;cases hx179;(conv=>whnf);exact⟨(),trivial,kW⟩
      ·rintro _ _;refine wB (fun hc132=>?_) (fun hc132=>?_)
       ·replace hx172:=af hc132 hx172;cases hx172;(conv=>whnf);exact⟨hd59,trivial,kW⟩
       ·replace hx172:=ag hc132 hx172;obtain⟨c29,hx183,hx172⟩:=ab hx172;(conv=>whnf)
        refine SeqG.mk Nat (fun y=>[(0,.fn (.yield lp2) [] []),(1,.ptr 3060001 bo1 0),(3,.d (I v78)),(4,.ptr 2004 b136 0),(5,.ptr 2005 y 0),(9,.sl 1465055 ho1),(10,.d (I v77)),(11,.d (I v78))]) (fun y=>[(3060001,.cells bo1 [.ptr 320040 bo2 0]),(2004,.cells b136 [.d (I x24.a0),.d (I x24.a1)]),(2005,.cells y [.d (I c29.a0),.d (I c29.a1)]),(1465055,.arr ho1 64 2 false (List.map eA2 l1)),(3070002,.cells b2 [.sl 3070011 hd59]),(1000,.loop lp2 rc2 none),(320040,.cells bo2 (cD c1 c2 c3 c4 c5 320038 bo3 1465055 ho1)),(3070011,.arr hd59 269 5 false (List.map LadderMatch.enc l40)),(320038,.map bo3 (List.map eMR m1))]) (fun _=>True) ?_ ?_
        ·obtain⟨⟨v90,is24⟩,hx184,hx183⟩:=ab hx183;obtain⟨r72,hx185,hx183⟩:=ab hx183;(conv=>whnf);refine DrawG.mk (.take 0 (.take 1 (.take 2 (.take 3 (.take 4 (.take 5 (.take 6 (.alt 7 [4,3,2,1,0] (.take 8 (.alt 9 [4,3,2] (.alt 10 [4,3,2] (.alt 11 [] .done .nil) .nil) (.alt 10 [8,4,3,2,1,0] (.alt 9 [4,3,2] (.alt 11 [] .done .nil) .nil) .nil))) (.alt 10 [6,5,4,3,2,1,0] (.alt 7 [4,3,2,1,0] (.take 8 (.alt 9 [4,3,2] (.alt 11 [] .done .nil) .nil)) .nil) .nil))))))))) (by kernel_rfl) ?_;(iterate 3 refine ws ?_);(conv=>whnf);refine Both.mk ?_ ?_
         ·(conv=>whnf);refine Side.mk rfl (Need.mk rfl (Need.mk (bd (m:=m1) (fun x:Int=>I x) (fun x:LadderResult=>.agg [I x.fMatch,.list 1 (List.map I x.fGames),.bool x.fProtested]) fun _=>rfl) (LkG.mk (.agg [I v90.fMatch,.list 1 (List.map I v90.fGames),.bool v90.fProtested]) is24 (ji (eK:=(fun x:Int=>I x)) (eV:=(fun x:LadderResult=>.agg [I x.fMatch,.list 1 (List.map I x.fGames),.bool x.fProtested])) jg hx184) (jj (eK:=(fun x:Int=>I x)) (eV:=(fun x:LadderResult=>.agg [I x.fMatch,.list 1 (List.map I x.fGames),.bool x.fProtested])) jg hx184) ?_)));(iterate 2 refine wl ?_);refine ws ?_;(iterate 2 refine wl ?_);refine ws ?_;refine wl ?_;(conv=>whnf);refine Both.mk ?_ ?_
          ·(conv=>whnf)
           refine CallG.own (yj (bo1:=bo2) (bo2:=bo3) (ho1:=ho1) hN hx185) id [(3060001,.cells bo1 [.ptr 320040 bo2 0]),(2004,.cells b136 [.d (I x24.a0),.d (I x24.a1)]),(3070002,.cells b2 [.sl 3070011 hd59]),(1000,.loop lp2 rc2 none),(3070011,.arr hd59 269 5 false (List.map LadderMatch.enc l40))] _ (fun y=>[(320040,.cells bo2 (cD c1 c2 c3 c4 c5 320038 bo3 1465055 ho1)),(320038,.map bo3 (List.map eMR m1)),(1465055,.arr ho1 64 2 false (List.map eA2 l1)),(3060001,.cells bo1 [.ptr 320040 bo2 0]),(2004,.cells b136 [.d (I x24.a0),.d (I x24.a1)]),(3070002,.cells b2 [.sl 3070011 hd59]),(1000,.loop lp2 rc2 none),(3070011,.arr hd59 269 5 false (List.map LadderMatch.enc l40))]) (ac _) (ai (ai (ai trivial))) rfl (ai (ai (ai trivial))) (ai (ai (ai (ai (ai trivial))))) (fun _=>AV.le_refl _) (fun _=>rfl) ?_
           rintro _ _;(iterate 2 refine wl ?_);refine ws ?_;refine wl ?_;refine wb ?_;(conv=>whnf);intro b142;(iterate 2 refine wl ?_);refine ws ?_;refine wl ?_;refine wb ?_;refine ws ?_;cases hx183;(conv=>whnf);exact⟨b142,trivial,kW⟩
          ·refine wb ?_;(conv=>whnf);intro b143;(iterate 3 refine wl ?_);refine ws ?_;(iterate 2 refine wl ?_);refine ws ?_;refine wl ?_;refine wb ?_;(conv=>whnf)
           refine CallG.own (yj (bo1:=bo2) (bo2:=bo3) (ho1:=ho1) hN hx185) id [(3060001,.cells bo1 [.ptr 320040 bo2 0]),(2004,.cells b136 [.d (I x24.a0),.d (I x24.a1)]),(3070002,.cells b2 [.sl 3070011 hd59]),(1000,.loop lp2 rc2 none),(3070011,.arr hd59 269 5 false (List.map LadderMatch.enc l40)),(2005,.cells b143 [.d (I 0),.d (I 0)])] _ (fun y=>[(320040,.cells bo2 (cD c1 c2 c3 c4 c5 320038 bo3 1465055 ho1)),(320038,.map bo3 (List.map eMR m1)),(1465055,.arr ho1 64 2 false (List.map eA2 l1)),(3060001,.cells bo1 [.ptr 320040 bo2 0]),(2004,.cells b136 [.d (I x24.a0),.d (I x24.a1)]),(3070002,.cells b2 [.sl 3070011 hd59]),(1000,.loop lp2 rc2 none),(3070011,.arr hd59 269 5 false (List.map LadderMatch.enc l40)),(2005,.cells b143 [.d (I 0),.d (I 0)])]) (ac _) (ai (ai (ai trivial))) rfl (ai (ai (ai trivial))) (ai (ai (ai (ai (ai (ai trivial)))))) (fun _=>AV.le_refl _) (fun _=>rfl) ?_
           rintro _ _;(iterate 2 refine wl ?_);refine ws ?_;refine wl ?_;refine wb ?_;refine ws ?_;cases hx183;(conv=>whnf);exact⟨b143,trivial,kW⟩
         ·refine wb ?_;(conv=>whnf);intro b144;refine wl ?_;refine ws ?_;(iterate 3 refine wl ?_);refine ws ?_;(iterate 2 refine wl ?_);refine ws ?_;refine wl ?_;refine wb ?_;(conv=>whnf)
          refine Side.mk rfl (Need.mk rfl (Need.mk (bd (m:=m1) (fun x:Int=>I x) (fun x:LadderResult=>.agg [I x.fMatch,.list 1 (List.map I x.fGames),.bool x.fProtested]) fun _=>rfl) (LkG.mk (.agg [I v90.fMatch,.list 1 (List.map I v90.fGames),.bool v90.fProtested]) is24 (ji (eK:=(fun x:Int=>I x)) (eV:=(fun x:LadderResult=>.agg [I x.fMatch,.list 1 (List.map I x.fGames),.bool x.fProtested])) jg hx184) (jj (eK:=(fun x:Int=>I x)) (eV:=(fun x:LadderResult=>.agg [I x.fMatch,.list 1 (List.map I x.fGames),.bool x.fProtested])) jg hx184) ?_)));(iterate 2 refine wl ?_);refine ws ?_;(iterate 2 refine wl ?_);refine ws ?_;refine wl ?_;refine wb ?_;(conv=>whnf)
          refine CallG.own (yj (bo1:=bo2) (bo2:=bo3) (ho1:=ho1) hN hx185) id [(3060001,.cells bo1 [.ptr 320040 bo2 0]),(2004,.cells b136 [.d (I x24.a0),.d (I x24.a1)]),(3070002,.cells b2 [.sl 3070011 hd59]),(1000,.loop lp2 rc2 none),(3070011,.arr hd59 269 5 false (List.map LadderMatch.enc l40)),(2005,.cells b144 [.d (I 0),.d (I 0)])] _ (fun y=>[(320040,.cells bo2 (cD c1 c2 c3 c4 c5 320038 bo3 1465055 ho1)),(320038,.map bo3 (List.map eMR m1)),(1465055,.arr ho1 64 2 false (List.map eA2 l1)),(3060001,.cells bo1 [.ptr 320040 bo2 0]),(2004,.cells b136 [.d (I x24.a0),.d (I x24.a1)]),(3070002,.cells b2 [.sl 3070011 hd59]),(1000,.loop lp2 rc2 none),(3070011,.arr hd59 269 5 false (List.map LadderMatch.enc l40)),(2005,.cells b144 [.d (I 0),.d (I 0)])]) (ac _) (ai (ai (ai trivial))) rfl (ai (ai (ai trivial))) (ai (ai (ai (ai (ai (ai trivial)))))) (fun _=>AV.le_refl _) (fun _=>rfl) ?_
          rintro _ _;(iterate 2 refine wl ?_);refine ws ?_;refine wl ?_;refine wb ?_;refine ws ?_;cases hx183;(conv=>whnf);exact⟨b144,trivial,kW⟩
        ·rintro bb24 _;(conv=>whnf);refine IxG.mk 0 rfl (by decide) ?_;refine ws ?_;(conv=>whnf);refine IxG.mk 1 rfl (by decide) ?_;refine ws ?_;(conv=>whnf);refine IxG.mk 0 rfl (by decide) ?_;refine ws ?_;(conv=>whnf);refine IxG.mk 1 rfl (by decide) ?_;refine ws ?_;(conv=>whnf);refine Side.mk ⟨rfl,rfl,rfl⟩ ?_;(conv=>whnf);intro b146;(iterate 3 refine ws ?_);(conv=>whnf);intro hd68;obtain⟨l46,hx187,hx172⟩:=ab hx172;(conv=>whnf);refine Side.mk ⟨rfl,rfl⟩ ?_;(conv=>whnf);refine Side.mk ⟨rfl,rfl,rfl⟩ (Need.mk (aD hN hx187 (by decide)) (Eqv.mk (List.map LadderMatch.enc l46) (aH _ hx187) ?_));(conv=>whnf);intro hd69;refine ws ?_;cases hx172;(conv=>whnf);exact⟨hd69,trivial,kW⟩
     ·rintro hd65 _;(conv=>whnf);exact⟨(n2,(v77,w64 (v78+1),l44),hd65),hl2,kW,Nat.lt_succ_self _⟩
    ·replace hl2:=ag hc112 hl2;(conv=>whnf);refine Side.mk ⟨rfl,rfl⟩ ?_;cases hl2;(conv=>whnf);exact⟨hd59,trivial,kW⟩
  ·rintro hd35 _;(iterate 2 refine ws ?_);(conv=>whnf);cases h;exact⟨(),trivial,rfl,aA (ren:=id) (ai (ai (ai (ai trivial))))⟩
theorem Au{N:Nat}(hN:N≤1073741824){c1:Int}{c2:Int}{c3:Int}{c4:List LadderResult}{c5:List LadderPair}{m1:List (Int×LadderResult)}{l1:List (Ar2 Int)}{bo1:Nat}{bo2:Nat}{bo3:Nat}{ho1:Value}{r:(List LadderMatch)}(h:yG N c1 c2 c3 c4 c5 m1 l1=some r) :
    ACalls Tryz.prog 210 [.fn (.func 227) [] [.ptr 3060001 bo1 0]] [(3060001,.cells bo1 [.ptr 320040 bo2 0]),(320040,.cells bo2 (cD c1 c2 c3 c4 c5 320038 bo3 1465055 ho1)),(320038,.map bo3 (List.map eMR m1)),(1465055,.arr ho1 64 2 false (List.map eA2 l1))] fun ae os=>∃y:Unit,True∧ae=.ret (.d (.list 5 (List.map LadderMatch.enc r)))∧os=[(3060001,.cells bo1 [.ptr 320040 bo2 0]),(320040,.cells bo2 (cD c1 c2 c3 c4 c5 320038 bo3 1465055 ho1)),(320038,.map bo3 (List.map eMR m1)),(1465055,.arr ho1 64 2 false (List.map eA2 l1))]:=by
  refine aJ (fresh:=false) al ap ⟨[],[],[4],[],[],3070000,[]⟩ Tryz.func210 rfl Tryz.call210 rfl ?_
  unfold yG at h
  obtain⟨r2,hx2,h⟩:=ab h;(conv=>whnf);refine CallG.own (zY (bo1:=bo1) (bo2:=bo2) (bo3:=bo3) (ho1:=ho1) hN hx2) id [] _ (fun y=>[(3060001,.cells bo1 [.ptr 320040 bo2 0]),(320040,.cells bo2 (cD c1 c2 c3 c4 c5 320038 bo3 1465055 ho1)),(320038,.map bo3 (List.map eMR m1)),(1465055,.arr ho1 64 2 false (List.map eA2 l1))]) (ac _) (ai (ai (ai (ai trivial)))) rfl (ai (ai (ai (ai trivial)))) trivial (fun _=>AV.le_refl _) (fun _=>rfl) ?_;rintro _ _;(conv=>whnf);cases h
  exact⟨(),trivial,rfl,aA (ren:=id) (ai (ai (ai (ai trivial))))⟩
theorem Bi{N:Nat}(hN:N≤1073741824){c1:LadderCup}{r:(List LadderMatch)×Int}(h:yh N c1=some r) :
    ACalls Tryz.prog 184 [.d (.agg [.int .u8 c1.fForm,I c1.fPlayers,I c1.fGames,.list 3 (List.map LadderResult.enc c1.fResults)])] [] fun e os=>e=.ret (.d (.tup [.list 5 (List.map LadderMatch.enc r.1),I r.2]))∧os=[]:=by
  refine ah (fresh:=false) al ap ⟨[1],[],[],[],[],0,[]⟩ Tryz.func184 rfl Tryz.call184 rfl ?_
  unfold yh at h
  obtain⟨z2,hx2,h⟩:=ab h;rcases z2 with r2 | ⟨ra2,rb2,rc2,rd2,re2,rf2,rg2,rh2⟩
  ·(conv=>whnf);refine CallG.own (oe hN hx2) id [] _ (fun y=>[]) (ac _) trivial rfl trivial trivial (fun _=>AV.le_refl _) (fun _=>rfl) ?_;rintro _ _;refine wB (fun hc2=>?_) (fun hc2=>?_)
   ·replace h:=af hc2 h;(conv=>whnf);cases h;exact rfl
   ·replace h:=ag hc2 h;cases h
  ·(conv=>whnf);refine CallG.own (oe hN hx2) id [] _ (fun y=>[(320040,.cells y.1 (cD rb2 rc2 rd2 re2 rf2 320038 y.2.1 1465055 y.2.2)),(320038,.map y.2.1 (List.map eMR rg2)),(1465055,.arr y.2.2 64 2 false (List.map eA2 rh2))]) (ac _) trivial rfl trivial trivial (fun _=>AV.le_refl _) (fun _=>rfl) ?_;rintro⟨b3,b4,hd2⟩ _;refine wB (fun hc4=>?_) (fun hc4=>?_)
   ·replace h:=af hc4 h;(conv=>whnf);cases h;exact rfl
   ·replace h:=ag hc4 h;obtain⟨_,hx5,h⟩:=ab h;(conv=>whnf);refine CallG.own (Ad (bo1:=b3) (bo2:=b4) (ho1:=hd2) hN hx5) id [] _ (fun y=>[(320040,.cells b3 (cD rb2 rc2 rd2 re2 rf2 320038 b4 1465055 hd2)),(320038,.map b4 (List.map eMR rg2)),(1465055,.arr hd2 64 2 false (List.map eA2 rh2)),(3060001,.cells y [.ptr 320040 b3 0])]) (ac _) (ai (ai (ai trivial))) rfl (ai (ai (ai trivial))) trivial (fun _=>AV.le_refl _) (fun _=>rfl) ?_;rintro b6 _;obtain⟨r4,hx6,h⟩:=ab h;(conv=>whnf)
    refine CallG.own (Au (bo1:=b6) (bo2:=b3) (bo3:=b4) (ho1:=hd2) hN hx6) id [] _ (fun y=>[(3060001,.cells b6 [.ptr 320040 b3 0]),(320040,.cells b3 (cD rb2 rc2 rd2 re2 rf2 320038 b4 1465055 hd2)),(320038,.map b4 (List.map eMR rg2)),(1465055,.arr hd2 64 2 false (List.map eA2 rh2))]) (ac _) (ai (ai (ai (ai trivial)))) rfl (ai (ai (ai (ai trivial)))) trivial (fun _=>AV.le_refl _) (fun _=>rfl) ?_;rintro _ _;(conv=>whnf);cases h;exact rfl
theorem zT{N:Nat}(hN:N≤1073741824) {r:Unit}(h:zm N=some r) :
    ACalls Tryz.prog 187 [.nils 3] [] fun e os=>e=.ret (.nils 3)∧os=[]:=by
  refine ah (fresh:=true) al ap ⟨[],[],[],[],[],0,[]⟩ Tryz.func187 rfl Tryz.call187 rfl ?_
  unfold zm at h
  (conv=>whnf)
  all_goals exact rfl
theorem zU{N:Nat}(hN:N≤1073741824){s1:List LadderResult}{r:(List LadderResult)}(h:yp N s1=some r) :
    ACalls Tryz.prog 187 [.nn 3 (List.map LadderResult.enc s1)] [] fun e os=>∃hd,e=.ret (.sl 0 hd)∧os=[(0,.arr hd 127 3 false (List.map LadderResult.enc r))]:=by
  refine gk al ap ⟨[],[],[],[],[],0,[]⟩ Tryz.func187 rfl Tryz.call187 rfl ?_
  unfold yp at h
  (conv=>whnf);intro hd3;obtain⟨l2,hx2,h⟩:=ab h;refine ws ?_;(conv=>whnf);refine Side.mk ⟨rfl,rfl,rfl⟩ (Need.mk (aD hN hx2 (by decide)) (Eqv.mk (List.map LadderResult.enc l2) (aH _ hx2) ?_));(conv=>whnf);intro hd4;(conv=>whnf);cases h;exact⟨_,_,rfl,rfl⟩
theorem yV{N:Nat}(hN:N≤1073741824){l:List LadderResult}{r:(List LadderResult)}(h:yk N l=some r) :
    ACalls Tryz.prog 187 [.d (.list 3 (List.map LadderResult.enc l))] [] fun e os=>∃hd,e=.ret (.sl 0 hd)∧os=[(0,.arr hd 127 3 false (List.map LadderResult.enc r))]:=by
  unfold yk at h
  refine ACalls.nils_or (fun e=>?_) (zU hN h)
  have e2:=List.map_eq_nil_iff.1 e
  subst e2
  have e3:r=[]:=by simpa [yp,app]using h.symm
  subst e3
  exact ACalls.nil_own (zT hN (r:=()) rfl)
theorem AY{N:Nat}(hN:N≤1073741824){l1:List LadderResult}{x1:LadderResult}{r:(List LadderResult)}(h:yY N l1 x1=some r) :
    ACalls Tryz.prog 185 [.d (.list 3 (List.map LadderResult.enc l1)),.d (.agg [I x1.fMatch,.list 1 (List.map I x1.fGames),.bool x1.fProtested])] [] fun e os=>e=.ret (.d (.list 3 (List.map LadderResult.enc r)))∧os=[]:=by
  refine ah (fresh:=false) al ap ⟨[3],[],[],[],[1],0,[]⟩ Tryz.func185 rfl Tryz.call185 rfl ?_
  unfold yY at h
  obtain⟨l4,hx3,h⟩:=ab h;(conv=>whnf);refine SeqG.mk Value (fun y=>[(4,.sl 6 y)]) (fun y=>[(6,.arr y 127 3 false (List.map LadderResult.enc l4))]) (fun _=>True) ?_ ?_
  ·obtain⟨r2,hx4,hx3⟩:=ab hx3;obtain⟨l5,hx5,hx3⟩:=ab hx3;(conv=>whnf);refine DrawG.mk (.take 0 (.take 2 (.alt 1 [2] (.alt 3 [] (.alt 4 [] (.take 5 .done) .nil) .nil) (.alt 3 [0] (.alt 1 [] (.alt 4 [] (.take 5 .done) .nil) .nil) .nil)))) (by kernel_rfl) ?_;(conv=>whnf);refine Both.mk ?_ ?_
   ·(conv=>whnf);refine CallG.fresh 6 (yV hN hx4) ?_;intro hd15;refine wl ?_;refine wb ?_;(conv=>whnf);intro hd16;refine wb ?_;(conv=>whnf);refine Side.mk ⟨rfl,rfl⟩ ?_;(conv=>whnf);refine Side.mk ⟨rfl,rfl,rfl⟩ (Need.mk (aD hN hx5 (by decide)) (Eqv.mk (List.map LadderResult.enc l5) (aH _ hx5) ?_));(conv=>whnf);intro hd17;cases hx3;(conv=>whnf);refine⟨hd17,trivial,Sub.eq rfl ?_ ?_⟩
    ·(repeat ((conv=>whnf);refine nr ?_));exact trivial
    ·(conv=>whnf);refine no ?_;exact trivial
   ·refine wb ?_;(conv=>whnf);intro hd18;refine wl ?_;refine wb ?_;(conv=>whnf);refine CallG.fresh 6 (yV hN hx4) ?_;intro hd19;refine wb ?_;(conv=>whnf);refine Side.mk ⟨rfl,rfl⟩ ?_;(conv=>whnf);refine Side.mk ⟨rfl,rfl,rfl⟩ (Need.mk (aD hN hx5 (by decide)) (Eqv.mk (List.map LadderResult.enc l5) (aH _ hx5) ?_));(conv=>whnf);intro hd20;cases hx3;(conv=>whnf);refine⟨hd20,trivial,Sub.eq rfl ?_ ?_⟩
    ·(repeat ((conv=>whnf);refine nr ?_));exact trivial
    ·(conv=>whnf);refine no ?_;exact trivial
  ·rintro hd11 _;refine ws ?_;(conv=>whnf);cases h;exact rfl
def Ay (bo1:Nat):(DeskRefusal×DeskWork)⊕DeskWork→AE→List (Nat×Ob)→Prop
  | .inl r=>fun ae os=>∃y:Unit,True∧ae=.pan (.ifc 153 (.agg [I r.1.fE]))∧os=[(255003,.cells bo1 (cW r.2))]
  | .inr r=>fun ae os=>∃y:Unit,True∧ae=.ret (.d (.tup []))∧os=[(255003,.cells bo1 (cW r))]
theorem zF{N:Nat}(hN:N≤1073741824){n1:List Int}{c1:DeskWork}{bo1:Nat}{r:(DeskRefusal×DeskWork)⊕DeskWork}(h:yR N n1 c1=some r) :
    ACalls Tryz.prog 143 [.ptr 255003 bo1 0,.d (.list 1 (List.map I n1))] [(255003,.cells bo1 (cW c1))] (Ay bo1 r):=by
  refine bt (fresh:=false) al ap ⟨[],[],[],[],[2],260000,[]⟩ Tryz.func143 rfl Tryz.call143 rfl ?_
  unfold yR at h
  obtain⟨r2,hx3,h⟩:=ab h;(conv=>whnf);refine CallG.own (qh (bo1:=bo1) hN hx3) id [] _ (fun y=>[(255003,.cells bo1 (cW c1))]) (ac _) (ai trivial) rfl (ai trivial) trivial (fun _=>AV.le_refl _) (fun _=>rfl) ?_;rintro _ _;obtain⟨⟨ra2,rb2⟩,hx4,h⟩:=ab h;(conv=>whnf);refine CallG.pure _ (Bi hN hx4) ?_;(conv=>whnf);refine LnA.mk _ (List.length_map _) ?_;obtain⟨z2,hx6,h⟩:=ab h;rcases z2 with r4 | _
  ·(conv=>whnf);refine CallG.panic (aI hN hx6) id [(255003,.cells bo1 (cW c1))] (fun y=>[(255003,.cells bo1 (cW c1))]) (ac _) trivial rfl trivial (ai trivial) (fun _=>rfl) ?_;rintro _ _
   (conv=>whnf);cases h;exact⟨_,⟨(),trivial,rfl,rfl⟩,aA (ren:=id) (ai trivial)⟩
  ·(conv=>whnf)
   refine CallG.own (aI hN hx6) id [(255003,.cells bo1 (cW c1))] _ (fun y=>[(255003,.cells bo1 (cW c1))]) (ac _) trivial rfl trivial (ai trivial) (fun _=>AV.le_refl _) (fun _=>rfl) ?_;rintro _ _
   (conv=>whnf);refine SeqG.mk Unit (fun y=>[(0,.ptr 255003 bo1 0),(1,.d (.list 1 (List.map I n1))),(4,.d (.list 5 (List.map LadderMatch.enc ra2)))]) (fun y=>[(255003,.cells bo1 (cW c1))]) (fun y=>yw N n1 c1 ra2=some r) ?_ ?_
   ·obtain⟨x5,hx14,h⟩:=ab h;obtain⟨x6,hx15,h⟩:=ab h;(conv=>whnf);refine DrawG.mk (.take 0 (.take 1 (.take 2 (.take 3 (.take 4 (.take 5 (.take 6 (.take 7 (.take 8 (.spl 24 (.take 9 (.take 10 (.take 11 (.take 12 (.take 13 (.take 14 (.take 15 (.take 16 (.take 17 (.alt 18 [16,15,14,13,12,11,10,9,7,6,5,4,3,2,1,0] .done .nil)))))))))))))))))))) (by kernel_rfl) ?_;(conv=>whnf);refine Side.mk rfl ⟨_,aC hx14,ak _ hx14,?_⟩;(conv=>whnf);refine Side.mk rfl ⟨_,aC hx15,ak _ hx15,?_⟩;refine wB (fun hc2=>?_) (fun hc2=>?_)
    ·replace h:=af hc2 h;refine wb ?_;obtain⟨z5,hx16,h⟩:=ab h;rcases z5 with r8 | _
     ·(conv=>whnf);refine CallG.panic (aI hN hx16) id [(255003,.cells bo1 (cW c1))] (fun y=>[(255003,.cells bo1 (cW c1))]) (ac _) trivial rfl trivial (ai trivial) (fun _=>rfl) ?_;rintro _ _
      (conv=>whnf);refine Side.mk (by kernel_rfl) ?_;(conv=>whnf);cases h;exact⟨_,⟨(),trivial,rfl,rfl⟩,aA (ren:=id) (ai trivial)⟩
     ·(conv=>whnf)
      refine CallG.own (aI hN hx16) id [(255003,.cells bo1 (cW c1))] _ (fun y=>[(255003,.cells bo1 (cW c1))]) (ac _) trivial rfl trivial (ai trivial) (fun _=>AV.le_refl _) (fun _=>rfl) ?_
      rintro _ _;(iterate 8 ((conv=>whnf);refine nr ?_));(iterate 3 refine wl ?_);(conv=>whnf);refine Side.mk rfl ⟨_,aC hx15,ak _ hx15,?_⟩;(iterate 3 refine wl ?_);(conv=>whnf);refine Side.mk rfl ⟨_,aC hx14,ak _ hx14,?_⟩;(iterate 2 refine wl ?_);(conv=>whnf);refine⟨(),h,Sub.eq rfl ?_ ?_⟩
      ·(repeat ((conv=>whnf);refine nr ?_));exact trivial
      ·(conv=>whnf);refine no ?_;exact trivial
    ·replace h:=ag hc2 h;(conv=>whnf);refine Side.mk rfl ⟨_,aC hx14,ak _ hx14,?_⟩;(conv=>whnf);refine Side.mk rfl ⟨_,aC hx15,ak _ hx15,?_⟩;refine wb ?_;obtain⟨z6,hx17,h⟩:=ab h;rcases z6 with r9 | _
     ·(conv=>whnf);refine CallG.panic (aI hN hx17) id [(255003,.cells bo1 (cW c1))] (fun y=>[(255003,.cells bo1 (cW c1))]) (ac _) trivial rfl trivial (ai trivial) (fun _=>rfl) ?_;rintro _ _
      (conv=>whnf);refine Side.mk (by kernel_rfl) ?_;(conv=>whnf);cases h;exact⟨_,⟨(),trivial,rfl,rfl⟩,aA (ren:=id) (ai trivial)⟩
     ·(conv=>whnf)
      refine CallG.own (aI hN hx17) id [(255003,.cells bo1 (cW c1))] _ (fun y=>[(255003,.cells bo1 (cW c1))]) (ac _) trivial rfl trivial (ai trivial) (fun _=>AV.le_refl _) (fun _=>rfl) ?_
      rintro _ _;(iterate 3 refine wl ?_);(conv=>whnf);refine Side.mk rfl ⟨_,aC hx15,ak _ hx15,?_⟩;(iterate 3 refine wl ?_);(conv=>whnf);refine Side.mk rfl ⟨_,aC hx14,ak _ hx14,?_⟩;(iterate 5 refine wl ?_);(conv=>whnf);refine Side.mk rfl ⟨_,aC hx15,ak _ hx15,?_⟩;(iterate 3 refine wl ?_);(conv=>whnf);refine Side.mk rfl ⟨_,aC hx14,ak _ hx14,?_⟩;(iterate 2 refine wl ?_);(conv=>whnf);refine⟨(),h,Sub.eq rfl ?_ ?_⟩
      ·(repeat ((conv=>whnf);refine nr ?_));exact trivial
      ·(conv=>whnf);refine no ?_;exact trivial
   ·clear h;rintro _ h;unfold yw at h;obtain⟨x3,hx11,h⟩:=ab h;obtain⟨x4,hx12,h⟩:=ab h;(conv=>whnf);refine DrawG.mk (.take 0 (.take 1 (.take 2 (.take 3 (.take 4 (.take 5 (.take 6 (.take 7 (.take 8 (.take 9 (.take 10 (.take 11 (.take 12 (.alt 13 [11,10,9,8,7,6,5,4,3,2,1,0] (.alt 14 [11,10,8,7,6,5,4,3,2,1,0] (.alt 15 [11,10,8,7,6,4,3,2,1,0] (.take 16 (.take 17 (.take 18 (.alt 19 [17,16] .done .nil)))) .nil) .nil) .nil)))))))))))))) (by kernel_rfl) ?_;refine ws ?_;(conv=>whnf);refine Side.mk rfl ⟨_,aC hx11,ak _ hx11,?_⟩;(conv=>whnf);refine Side.mk rfl ⟨_,aC hx12,ak _ hx12,?_⟩;refine wb ?_;(conv=>whnf);intro hd2;(conv=>whnf);refine Side.mk rfl ⟨_,aC hx12,ak _ hx12,?_⟩;(iterate 3 refine wl ?_);(conv=>whnf)
    refine nl ?_;(conv=>whnf);refine Side.mk rfl ⟨_,aC hx11,ak _ hx11,?_⟩;(iterate 2 refine wl ?_);refine ws ?_;(iterate 6 refine wl ?_);refine wb ?_;refine ws ?_;(conv=>whnf);refine Side.mk rfl ⟨_,aC hx12,ak _ hx12,?_⟩;(iterate 3 refine wl ?_);(conv=>whnf);refine Side.mk rfl ⟨_,aC hx11,ak _ hx11,?_⟩;(iterate 2 refine wl ?_);refine ws ?_;(iterate 6 refine wl ?_);refine wb ?_
    obtain⟨r7,hx13,h⟩:=ab h;(conv=>whnf);refine CallG.pure _ (AY hN hx13) ?_;(conv=>whnf);refine Side.mk rfl ⟨_,aC hx12,ak _ hx12,?_⟩;(iterate 3 refine wl ?_);(conv=>whnf);refine Side.mk rfl ⟨_,aC hx11,ak _ hx11,?_⟩;(iterate 7 refine wl ?_);refine wb ?_;refine ws ?_;(iterate 2 refine wl ?_);(conv=>whnf);cases h;exact⟨_,⟨(),trivial,rfl,rfl⟩,aA (ren:=id) (ai trivial)⟩
theorem Ae{N:Nat}(hN:N≤1073741824){r1:LadderResult}{a1:List Int}{r:Bool}(h:yB N r1 a1=some r) :
    ACalls Tryz.prog 186 [.d (.agg [I r1.fMatch,.list 1 (List.map I r1.fGames),.bool r1.fProtested]),.d (.ref (.agg [.list 1 (List.map I a1)]))] [] fun e os=>e=.ret (.d (.bool r))∧os=[]:=by
  refine ah (fresh:=false) al ap ⟨[2],[],[],[],[],0,[]⟩ Tryz.func186 rfl Tryz.call186 rfl ?_
  unfold yB at h
  obtain⟨x2,hx2,h⟩:=ab h;(conv=>whnf);refine DrawG.mk (.take 0 (.take 1 (.take 2 (.take 3 (.take 4 (.take 5 (.take 6 .done))))))) (by kernel_rfl) ?_;(conv=>whnf);refine Side.mk rfl ⟨_,aC hx2,ak _ hx2,?_⟩;(conv=>whnf);cases h;exact rfl
theorem jO{N:Nat}(hN:N≤1073741824){s1:List LadderResult}{f1:List Int}{r:Int}(h:dE N s1 f1=some r) :
    ACalls Tryz.prog 162 [.d (.list 3 (List.map LadderResult.enc s1)),.d (.fn (.func 186) [] [.ref (.agg [.list 1 (List.map I f1)])])] [] fun e os=>e=.ret (.d (I r))∧os=[]:=by
  refine ah (fresh:=false) al ap ⟨[],[],[],[],[1001],0,[]⟩ Tryz.func162 rfl Tryz.call162 rfl ?_
  unfold dE at h
  (conv=>whnf);refine SeqG.mk Unit (fun y=>[]) (fun y=>[]) (fun y=>yr N=some r) ?_ ?_
  ·(conv=>whnf);refine LnA.mk _ (List.length_map _) ?_;(conv=>whnf);refine LoopG.mk (Nat×(Int×Int)) (fun y=>[(0,.d (.list 3 (List.map LadderResult.enc s1))),(1,.d (.fn (.func 186) [] [.ref (.agg [.list 1 (List.map I f1)])])),(7,.d (I y.2.1)),(8,.d (I y.2.2))]) (fun y=>[]) (fun y=>aj (fun rr x=>xU N s1 f1 rr x.1 x.2) y.1 y.2=some r) (fun y=>y.1) (N,((s1.length:Int),0)) h (Sub.eq rfl ?_ ?_) ?_
   ·(repeat ((conv=>whnf);refine nr ?_));exact trivial
   ·exact trivial
   ·rintro⟨n2,⟨v17,v18⟩⟩ hl2;obtain⟨n2,rfl,hl2⟩:=ar hl2;replace hl2:xU N s1 f1 (aj (fun rr x=>xU N s1 f1 rr x.1 x.2) n2) v17 v18=some r:=hl2;rw[xU]at hl2;refine wB (fun hc22=>?_) (fun hc22=>?_)
    ·replace hl2:=af hc22 hl2;obtain⟨x24,hx47,hl2⟩:=ab hl2;(conv=>whnf);refine Side.mk rfl ⟨_,aC hx47,ak _ hx47,?_⟩;obtain⟨r24,hx48,hl2⟩:=ab hl2;(conv=>whnf);refine CallG.pure _ (Ae hN hx48) ?_;refine wB (fun hc24=>?_) (fun hc24=>?_)
     ·replace hl2:=af hc24 hl2;(conv=>whnf);cases hl2;exact rfl
     ·replace hl2:=ag hc24 hl2;(conv=>whnf);exact⟨(n2,(v17,w64 (v18+1))),hl2,kW,Nat.lt_succ_self _⟩
    ·replace hl2:=ag hc22 hl2;(conv=>whnf);exact⟨(),hl2,kW⟩
  ·clear h;rintro _ h;unfold yr at h;(conv=>whnf);cases h;exact rfl
def Av (bo1:Nat):(DeskRefusal×DeskWork)⊕DeskWork→AE→List (Nat×Ob)→Prop
  | .inl r=>fun ae os=>∃y:Unit,True∧ae=.pan (.ifc 153 (.agg [I r.1.fE]))∧os=[(255003,.cells bo1 (cW r.2))]
  | .inr r=>fun ae os=>∃y:Unit,True∧ae=.ret (.d (.tup []))∧os=[(255003,.cells bo1 (cW r))]
theorem zA{N:Nat}(hN:N≤1073741824){n1:List Int}{c1:DeskWork}{bo1:Nat}{r:(DeskRefusal×DeskWork)⊕DeskWork}(h:yH N n1 c1=some r) :
    ACalls Tryz.prog 144 [.ptr 255003 bo1 0,.d (.list 1 (List.map I n1))] [(255003,.cells bo1 (cW c1))] (Av bo1 r):=by
  refine bt (fresh:=false) al ap ⟨[3],[],[100255003],[],[],260000,[]⟩ Tryz.func144 rfl Tryz.call144 rfl ?_
  unfold yH at h
  refine ws ?_;obtain⟨r2,hx2,h⟩:=ab h;(conv=>whnf);refine CallG.pure _ (jO hN hx2) ?_;obtain⟨z2,hx4,h⟩:=ab h;rcases z2 with r4 | _
  ·(conv=>whnf);refine CallG.panic (aI hN hx4) id [(255003,.cells bo1 (cW c1))] (fun y=>[(255003,.cells bo1 (cW c1))]) (ac _) trivial rfl trivial (ai trivial) (fun _=>rfl) ?_;rintro _ _
   (conv=>whnf);cases h;exact⟨_,⟨(),trivial,rfl,rfl⟩,aA (ren:=id) (ai trivial)⟩
  ·(conv=>whnf)
   refine CallG.own (aI hN hx4) id [(255003,.cells bo1 (cW c1))] _ (fun y=>[(255003,.cells bo1 (cW c1))]) (ac _) trivial rfl trivial (ai trivial) (fun _=>AV.le_refl _) (fun _=>rfl) ?_;rintro _ _
   refine ws ?_;obtain⟨x2,hx7,h⟩:=ab h;(conv=>whnf);refine Side.mk rfl ⟨_,aC hx7,ak _ hx7,?_⟩;obtain⟨z4,hx8,h⟩:=ab h;rcases z4 with r6 | _
   ·(conv=>whnf);refine CallG.panic (aI hN hx8) id [(255003,.cells bo1 (cW c1))] (fun y=>[(255003,.cells bo1 (cW c1))]) (ac _) trivial rfl trivial (ai trivial) (fun _=>rfl) ?_;rintro _ _
    (conv=>whnf);cases h;exact⟨_,⟨(),trivial,rfl,rfl⟩,aA (ren:=id) (ai trivial)⟩
   ·(conv=>whnf)
    refine CallG.own (aI hN hx8) id [(255003,.cells bo1 (cW c1))] _ (fun y=>[(255003,.cells bo1 (cW c1))]) (ac _) trivial rfl trivial (ai trivial) (fun _=>AV.le_refl _) (fun _=>rfl) ?_;rintro _ _
    refine ws ?_;obtain⟨r8,hx10,h⟩:=ab h;(conv=>whnf);refine CallG.fresh 260032 (yV hN hx10) ?_;intro hd2;(iterate 2 refine ws ?_);obtain⟨x3,hx11,h⟩:=ab h;(conv=>whnf);refine Side.mk ⟨rfl,rfl⟩ (Need.mk (aL _ hx11) ?_);(conv=>whnf);refine Side.mk ⟨rfl,rfl⟩ ⟨_,Int.natCast_nonneg _,bX _ hx11,?_⟩;(conv=>whnf);refine Eqv.mk (List.map LadderResult.enc (List.set r8 (Int.toNat r2) (LadderResult.mk x3.fMatch x3.fGames true))) (j1 _ _ _ _ rfl) ?_;(iterate 2 refine ws ?_);(conv=>whnf);cases h;exact⟨_,⟨(),trivial,rfl,rfl⟩,aA (ren:=id) (ai trivial)⟩
def oH (bo1:Nat):(DeskRefusal×DeskWork)⊕DeskWork→AE→List (Nat×Ob)→Prop
  | .inl r=>fun ae os=>∃y:Unit,True∧ae=.pan (.ifc 153 (.agg [I r.1.fE]))∧os=[(255003,.cells bo1 (cW r.2))]
  | .inr r=>fun ae os=>∃y:Unit,True∧ae=.ret (.d (.tup []))∧os=[(255003,.cells bo1 (cW r))]
theorem kc{N:Nat}(hN:N≤1073741824){s1:List UInt8}{c1:DeskWork}{bo1:Nat}{r:(DeskRefusal×DeskWork)⊕DeskWork}(h:iS N s1 c1=some r) :
    ACalls Tryz.prog 71 [.ptr 255003 bo1 0,.d (.str s1)] [(255003,.cells bo1 (cW c1))] (oH bo1 r):=by
  refine bt (fresh:=false) al ap ⟨[],[],[],[],[1,2,1004],260000,[]⟩ Tryz.func71 rfl Tryz.call71 rfl ?_
  unfold iS at h
  obtain⟨r2,hx2,h⟩:=ab h;(conv=>whnf);refine CallG.pure _ (xm hN hx2) ?_;obtain⟨⟨is3,c3⟩,hx6,h⟩:=ab h;(conv=>whnf);refine SeqG.mk Nat (fun y=>[(0,.ptr 255003 bo1 0),(4,.d (.list 1 (List.map D.str r2))),(5,.ptr 260005 y 0),(6,.d (.bool is3))]) (fun y=>[(255003,.cells bo1 (cW c1)),(260005,.cells y [.d (I c3.fMany),.d (xT c3.fDo)])]) (fun _=>True) ?_ ?_
  ·obtain⟨x2,hx7,hx6⟩:=ab hx6;obtain⟨r4,hx8,hx6⟩:=ab hx6;obtain⟨⟨v2,is4⟩,hx9,hx6⟩:=ab hx6;(conv=>whnf);refine DrawG.mk (.take 1 (.take 2 (.take 3 (.alt 0 [3,2,1] (.alt 4 [2,1] (.take 5 (.take 6 (.take 7 (.alt 8 [7,6,5,2,1] (.alt 9 [7] (.take 10 .done) .nil) .nil)))) (.alt 8 [3,2,1] (.alt 4 [2,1] (.take 5 (.take 6 (.take 7 (.alt 9 [7] (.take 10 .done) .nil)))) .nil) .nil)) (.alt 8 [3,2,1] (.alt 0 [3,2,1] (.alt 4 [2,1] (.take 5 (.take 6 (.take 7 (.alt 9 [7] (.take 10 .done) .nil)))) .nil) .nil) .nil))))) (by kernel_rfl) ?_;(conv=>whnf);refine Side.mk rfl ⟨_,aC hx7,ak _ hx7,?_⟩;(conv=>whnf);refine Both.mk ?_ ?_
   ·(conv=>whnf)
    refine CallG.own (pj hN hx8) id [(255003,.cells bo1 (cW c1))] _ (fun y=>[(495001,.map y (List.map (fun p=>(.str p.1,.agg [I p.2.fMany,xT p.2.fDo])) r4)),(255003,.cells bo1 (cW c1))]) (ac _) trivial rfl trivial (ai trivial) (fun _=>AV.le_refl _) (fun _=>rfl) ?_
    rintro b10 _;refine wl ?_;(conv=>whnf);refine Side.mk rfl ⟨_,aC hx7,ak _ hx7,?_⟩;(iterate 2 refine wl ?_);(conv=>whnf);refine Both.mk ?_ ?_
    ·(conv=>whnf);refine Side.mk rfl (Need.mk rfl (Need.mk (bd (m:=r4) (fun x:List UInt8=>.str x) (fun x:DeskAct=>.agg [I x.fMany,xT x.fDo]) fun _=>rfl) (LkG.mk (.agg [I v2.fMany,xT v2.fDo]) is4 (ji (eK:=(fun x:List UInt8=>.str x)) (eV:=(fun x:DeskAct=>.agg [I x.fMany,xT x.fDo])) cM hx9) (jj (eK:=(fun x:List UInt8=>.str x)) (eV:=(fun x:DeskAct=>.agg [I x.fMany,xT x.fDo])) cM hx9) ?_)));(conv=>whnf);refine Side.mk rfl ⟨_,aC hx7,ak _ hx7,?_⟩;(iterate 2 refine wl ?_);refine wb ?_;(conv=>whnf);intro b11;(iterate 3 refine wl ?_);(conv=>whnf);refine Side.mk rfl ⟨_,aC hx7,ak _ hx7,?_⟩;(iterate 2 refine wl ?_);refine wb ?_;(conv=>whnf)
     refine sr ?_;refine wl ?_;cases hx6;(conv=>whnf);exact⟨b11,trivial,kW⟩
    ·refine wb ?_;(conv=>whnf);intro b12;refine wl ?_;(conv=>whnf);refine Side.mk rfl ⟨_,aC hx7,ak _ hx7,?_⟩;(iterate 2 refine wl ?_);refine wb ?_;(conv=>whnf);refine Side.mk rfl (Need.mk rfl (Need.mk (bd (m:=r4) (fun x:List UInt8=>.str x) (fun x:DeskAct=>.agg [I x.fMany,xT x.fDo]) fun _=>rfl) (LkG.mk (.agg [I v2.fMany,xT v2.fDo]) is4 (ji (eK:=(fun x:List UInt8=>.str x)) (eV:=(fun x:DeskAct=>.agg [I x.fMany,xT x.fDo])) cM hx9) (jj (eK:=(fun x:List UInt8=>.str x)) (eV:=(fun x:DeskAct=>.agg [I x.fMany,xT x.fDo])) cM hx9) ?_)));(conv=>whnf);refine Side.mk rfl ⟨_,aC hx7,ak _ hx7,?_⟩;(iterate 2 refine wl ?_);refine wb ?_;refine ws ?_
     refine wl ?_;cases hx6;(conv=>whnf);exact⟨b12,trivial,kW⟩
   ·refine wb ?_;(conv=>whnf);intro b13;refine wl ?_;(conv=>whnf);refine Side.mk rfl ⟨_,aC hx7,ak _ hx7,?_⟩;(iterate 2 refine wl ?_);refine wb ?_;(conv=>whnf)
    refine CallG.own (pj hN hx8) id [(255003,.cells bo1 (cW c1)),(260005,.cells b13 [.d (I 0),.d .nilfn])] _ (fun y=>[(495001,.map y (List.map (fun p=>(.str p.1,.agg [I p.2.fMany,xT p.2.fDo])) r4)),(255003,.cells bo1 (cW c1)),(260005,.cells b13 [.d (I 0),.d .nilfn])]) (ac _) trivial rfl trivial (ai (ai trivial)) (fun _=>AV.le_refl _) (fun _=>rfl) ?_
    rintro b14 _;refine wl ?_;(conv=>whnf);refine Side.mk rfl ⟨_,aC hx7,ak _ hx7,?_⟩;(iterate 2 refine wl ?_);refine wb ?_;(conv=>whnf);refine Side.mk rfl (Need.mk rfl (Need.mk (bd (m:=r4) (fun x:List UInt8=>.str x) (fun x:DeskAct=>.agg [I x.fMany,xT x.fDo]) fun _=>rfl) (LkG.mk (.agg [I v2.fMany,xT v2.fDo]) is4 (ji (eK:=(fun x:List UInt8=>.str x)) (eV:=(fun x:DeskAct=>.agg [I x.fMany,xT x.fDo])) cM hx9) (jj (eK:=(fun x:List UInt8=>.str x)) (eV:=(fun x:DeskAct=>.agg [I x.fMany,xT x.fDo])) cM hx9) ?_)));(conv=>whnf);refine Side.mk rfl ⟨_,aC hx7,ak _ hx7,?_⟩;(iterate 2 refine wl ?_);refine wb ?_;refine ws ?_;refine wl ?_;cases hx6;(conv=>whnf)
    exact⟨b13,trivial,kW⟩
  ·rintro bb2 _;(conv=>whnf);refine SeqG.mk Unit (fun y=>[(0,.ptr 255003 bo1 0),(4,.d (.list 1 (List.map D.str r2))),(5,.ptr 260005 bb2 0)]) (fun y=>[(255003,.cells bo1 (cW c1)),(260005,.cells bb2 [.d (I c3.fMany),.d (xT c3.fDo)])]) (fun y=>dQ N c1 r2 c3=some r) ?_ ?_
   ·refine wB (fun hc23=>?_) (fun hc23=>?_)
    ·replace h:=af hc23 h;(conv=>whnf);refine LnA.mk _ (List.length_map _) ?_;refine ws ?_;obtain⟨z24,hx73,h⟩:=ab h;rcases z24 with r40 | _
     ·(conv=>whnf)
      refine CallG.panic (aI hN hx73) id [(255003,.cells bo1 (cW c1)),(260005,.cells bb2 [.d (I c3.fMany),.d (xT c3.fDo)])] (fun y=>[(255003,.cells bo1 (cW c1)),(260005,.cells bb2 [.d (I c3.fMany),.d (xT c3.fDo)])]) (ac _) trivial rfl trivial (ai (ai trivial)) (fun _=>rfl) ?_
      rintro _ _;(conv=>whnf);cases h;exact⟨_,⟨(),trivial,rfl,rfl⟩,aA (ren:=id) (ai trivial)⟩
     ·(conv=>whnf)
      refine CallG.own (aI hN hx73) id [(255003,.cells bo1 (cW c1)),(260005,.cells bb2 [.d (I c3.fMany),.d (xT c3.fDo)])] _ (fun y=>[(255003,.cells bo1 (cW c1)),(260005,.cells bb2 [.d (I c3.fMany),.d (xT c3.fDo)])]) (ac _) trivial rfl trivial (ai (ai trivial)) (fun _=>AV.le_refl _) (fun _=>rfl) ?_
      rintro _ _;(conv=>whnf);exact⟨(),h,kW⟩
    ·replace h:=ag hc23 h;obtain⟨z25,hx74,h⟩:=ab h;rcases z25 with r41 | _
     ·(conv=>whnf)
      refine CallG.panic (aI hN hx74) id [(255003,.cells bo1 (cW c1)),(260005,.cells bb2 [.d (I c3.fMany),.d (xT c3.fDo)])] (fun y=>[(255003,.cells bo1 (cW c1)),(260005,.cells bb2 [.d (I c3.fMany),.d (xT c3.fDo)])]) (ac _) trivial rfl trivial (ai (ai trivial)) (fun _=>rfl) ?_
      rintro _ _;(conv=>whnf);cases h;exact⟨_,⟨(),trivial,rfl,rfl⟩,aA (ren:=id) (ai trivial)⟩
     ·(conv=>whnf)
      refine CallG.own (aI hN hx74) id [(255003,.cells bo1 (cW c1)),(260005,.cells bb2 [.d (I c3.fMany),.d (xT c3.fDo)])] _ (fun y=>[(255003,.cells bo1 (cW c1)),(260005,.cells bb2 [.d (I c3.fMany),.d (xT c3.fDo)])]) (ac _) trivial rfl trivial (ai (ai trivial)) (fun _=>AV.le_refl _) (fun _=>rfl) ?_
      rintro _ _;(conv=>whnf);exact⟨(),h,kW⟩
   ·clear h;rintro _ h;unfold dQ at h;(conv=>whnf);refine SeqG.mk ((List Int)×Value) (fun y=>[(0,.ptr 255003 bo1 0),(5,.ptr 260005 bb2 0),(7,.sl 260041 y.2)]) (fun y=>[(255003,.cells bo1 (cW c1)),(260005,.cells bb2 [.d (I c3.fMany),.d (xT c3.fDo)]),(260041,.arr y.2 3 1 false (List.map I y.1))]) (fun y=>fV N c1 c3 y.1=some r) ?_ ?_
    ·obtain⟨l15,hx48,h⟩:=ab h;(conv=>whnf);refine Need.mk (lT _ hx48) (Eqv.mk (List.map D.str l15) (nW _ hx48) ?_);(conv=>whnf);refine LnA.mk _ (List.length_map _) ?_;(conv=>whnf)
     refine LoopG.mk (Nat×(Int×Int×(List Int))×Value) (fun y=>[(0,.ptr 255003 bo1 0),(5,.ptr 260005 bb2 0),(7,.sl 260041 y.2.2),(31,.d (.list 1 (List.map D.str l15))),(32,.d (I y.2.1.1)),(33,.d (I y.2.1.2.1))]) (fun y=>[(255003,.cells bo1 (cW c1)),(260005,.cells bb2 [.d (I c3.fMany),.d (xT c3.fDo)]),(260041,.arr y.2.2 3 1 false (List.map I y.2.1.2.2))]) (fun y=>aj (fun rr x=>cN N c1 c3 l15 rr x.1 x.2.1 x.2.2) y.1 y.2.1=some r) (fun y=>y.1) (N,((l15.length:Int),0,[]),(.slice none 0 0)) h (Sub.eq rfl ?_ ?_) ?_
     ·(repeat ((conv=>whnf);refine nr ?_));exact trivial
     ·(iterate 2 ((conv=>whnf);refine no ?_));(conv=>whnf);refine Need.mk (OLe.nil _ _ _ _) ?_;exact trivial
     ·rintro⟨n2,⟨v19,v20,l23⟩,hd29⟩ hl2;obtain⟨n2,rfl,hl2⟩:=ar hl2;replace hl2:cN N c1 c3 l15 (aj (fun rr x=>cN N c1 c3 l15 rr x.1 x.2.1 x.2.2) n2) v19 v20 l23=some r:=hl2;rw[cN]at hl2;refine wB (fun hc22=>?_) (fun hc22=>?_)
      ·replace hl2:=af hc22 hl2;obtain⟨x26,hx70,hl2⟩:=ab hl2;(conv=>whnf);refine Side.mk rfl ⟨_,aC hx70,ak _ hx70,?_⟩;obtain⟨z23,hx71,hl2⟩:=ab hl2;rcases z23 with r38 | r39
       ·(conv=>whnf)
        refine CallG.own (mr hN hx71) id [(255003,.cells bo1 (cW c1)),(260005,.cells bb2 [.d (I c3.fMany),.d (xT c3.fDo)]),(260041,.arr hd29 3 1 false (List.map I l23))] _ (fun y=>[(255003,.cells bo1 (cW c1)),(260005,.cells bb2 [.d (I c3.fMany),.d (xT c3.fDo)]),(260041,.arr hd29 3 1 false (List.map I l23))]) (ac _) trivial rfl trivial (ai (ai (ai trivial))) (fun _=>AV.le_refl _) (fun _=>rfl) ?_
        rintro _ _;(conv=>whnf);intro hd32;obtain⟨l25,hx72,hl2⟩:=ab hl2;(conv=>whnf);refine Side.mk ⟨rfl,rfl⟩ ?_;(conv=>whnf);refine Side.mk ⟨rfl,rfl,rfl⟩ (Need.mk (aD hN hx72 (by decide)) (Eqv.mk (List.map I l25) (aH _ hx72) ?_));(conv=>whnf);intro hd33;(conv=>whnf);exact⟨(n2,(v19,w64 (v20+1),l25),hd33),hl2,kW,Nat.lt_succ_self _⟩
       ·(conv=>whnf)
        refine CallG.panic (mr hN hx71) id [(255003,.cells bo1 (cW c1)),(260005,.cells bb2 [.d (I c3.fMany),.d (xT c3.fDo)]),(260041,.arr hd29 3 1 false (List.map I l23))] (fun y=>[(255003,.cells bo1 (cW c1)),(260005,.cells bb2 [.d (I c3.fMany),.d (xT c3.fDo)]),(260041,.arr hd29 3 1 false (List.map I l23))]) (ac _) trivial rfl trivial (ai (ai (ai trivial))) (fun _=>rfl) ?_
        rintro _ _;(conv=>whnf);cases hl2;exact⟨_,⟨(),trivial,rfl,rfl⟩,aA (ren:=id) (ai trivial)⟩
      ·replace hl2:=ag hc22 hl2;(conv=>whnf);exact⟨(l23,hd29),hl2,kW⟩
    ·clear h;rintro⟨l13,hd17⟩ h;unfold fV at h;refine ws ?_;rcases eP (decide (c3.fDo=0))with hc8 | hc8
     ·replace h:=af hc8 h;rw[of_decide_eq_true hc8];obtain⟨z9,hx38,h⟩:=ab h;rcases z9 with⟨ra1,rb1⟩ | r19
      ·refine ws ?_;(conv=>whnf);refine CallG.panic (jm (bo1:=bo1) hN hx38) id [(260005,.cells bb2 [.d (I c3.fMany),.d (xT 0)]),(260041,.arr hd17 3 1 true (List.map I l13))] (fun y=>[(255003,.cells bo1 (cW rb1)),(260005,.cells bb2 [.d (I c3.fMany),.d (xT 0)]),(260041,.arr hd17 3 1 true (List.map I l13))]) (ac _) (ai trivial) rfl (ai trivial) (ai (ai trivial)) (fun _=>rfl) ?_;rintro _ _;(conv=>whnf);cases h;exact⟨_,⟨(),trivial,rfl,rfl⟩,aA (ren:=id) (ai trivial)⟩
      ·refine ws ?_;(conv=>whnf);refine CallG.own (jm (bo1:=bo1) hN hx38) id [(260005,.cells bb2 [.d (I c3.fMany),.d (xT 0)]),(260041,.arr hd17 3 1 true (List.map I l13))] _ (fun y=>[(255003,.cells bo1 (cW r19)),(260005,.cells bb2 [.d (I c3.fMany),.d (xT 0)]),(260041,.arr hd17 3 1 true (List.map I l13))]) (ac _) (ai trivial) rfl (ai trivial) (ai (ai trivial)) (fun _=>AV.le_refl _) (fun _=>rfl) ?_;rintro _ _;(conv=>whnf);cases h
       exact⟨_,⟨(),trivial,rfl,rfl⟩,aA (ren:=id) (ai trivial)⟩
     ·replace h:=ag hc8 h;rcases eP (decide (c3.fDo=1))with hc9 | hc9
      ·replace h:=af hc9 h;rw[of_decide_eq_true hc9];obtain⟨z10,hx39,h⟩:=ab h;rcases z10 with⟨ra2,rb2⟩ | r20
       ·refine ws ?_;(conv=>whnf);refine CallG.panic (ka (bo1:=bo1) hN hx39) id [(260005,.cells bb2 [.d (I c3.fMany),.d (xT 1)]),(260041,.arr hd17 3 1 true (List.map I l13))] (fun y=>[(255003,.cells bo1 (cW rb2)),(260005,.cells bb2 [.d (I c3.fMany),.d (xT 1)]),(260041,.arr hd17 3 1 true (List.map I l13))]) (ac _) (ai trivial) rfl (ai trivial) (ai (ai trivial)) (fun _=>rfl) ?_;rintro _ _;(conv=>whnf);cases h;exact⟨_,⟨(),trivial,rfl,rfl⟩,aA (ren:=id) (ai trivial)⟩
       ·refine ws ?_;(conv=>whnf);refine CallG.own (ka (bo1:=bo1) hN hx39) id [(260005,.cells bb2 [.d (I c3.fMany),.d (xT 1)]),(260041,.arr hd17 3 1 true (List.map I l13))] _ (fun y=>[(255003,.cells bo1 (cW r20)),(260005,.cells bb2 [.d (I c3.fMany),.d (xT 1)]),(260041,.arr hd17 3 1 true (List.map I l13))]) (ac _) (ai trivial) rfl (ai trivial) (ai (ai trivial)) (fun _=>AV.le_refl _) (fun _=>rfl) ?_;rintro _ _;(conv=>whnf);cases h
        exact⟨_,⟨(),trivial,rfl,rfl⟩,aA (ren:=id) (ai trivial)⟩
      ·replace h:=ag hc9 h;rcases eP (decide (c3.fDo=2))with hc10 | hc10
       ·replace h:=af hc10 h;rw[of_decide_eq_true hc10];obtain⟨z11,hx40,h⟩:=ab h;rcases z11 with⟨ra3,rb3⟩ | r21
        ·refine ws ?_;(conv=>whnf);refine CallG.panic (zR (bo1:=bo1) hN hx40) id [(260005,.cells bb2 [.d (I c3.fMany),.d (xT 2)]),(260041,.arr hd17 3 1 true (List.map I l13))] (fun y=>[(255003,.cells bo1 (cW rb3)),(260005,.cells bb2 [.d (I c3.fMany),.d (xT 2)]),(260041,.arr hd17 3 1 true (List.map I l13))]) (ac _) (ai trivial) rfl (ai trivial) (ai (ai trivial)) (fun _=>rfl) ?_;rintro _ _;(conv=>whnf);cases h;exact⟨_,⟨(),trivial,rfl,rfl⟩,aA (ren:=id) (ai trivial)⟩
        ·refine ws ?_;(conv=>whnf);refine CallG.own (zR (bo1:=bo1) hN hx40) id [(260005,.cells bb2 [.d (I c3.fMany),.d (xT 2)]),(260041,.arr hd17 3 1 true (List.map I l13))] _ (fun y=>[(255003,.cells bo1 (cW r21)),(260005,.cells bb2 [.d (I c3.fMany),.d (xT 2)]),(260041,.arr hd17 3 1 true (List.map I l13))]) (ac _) (ai trivial) rfl (ai trivial) (ai (ai trivial)) (fun _=>AV.le_refl _) (fun _=>rfl) ?_;rintro _ _;(conv=>whnf);cases h
         exact⟨_,⟨(),trivial,rfl,rfl⟩,aA (ren:=id) (ai trivial)⟩
       ·replace h:=ag hc10 h;rcases eP (decide (c3.fDo=3))with hc11 | hc11
        ·replace h:=af hc11 h;rw[of_decide_eq_true hc11];obtain⟨z12,hx41,h⟩:=ab h;rcases z12 with⟨ra4,rb4⟩ | r22
         ·refine ws ?_;(conv=>whnf);refine CallG.panic (zE (bo1:=bo1) hN hx41) id [(260005,.cells bb2 [.d (I c3.fMany),.d (xT 3)]),(260041,.arr hd17 3 1 true (List.map I l13))] (fun y=>[(255003,.cells bo1 (cW rb4)),(260005,.cells bb2 [.d (I c3.fMany),.d (xT 3)]),(260041,.arr hd17 3 1 true (List.map I l13))]) (ac _) (ai trivial) rfl (ai trivial) (ai (ai trivial)) (fun _=>rfl) ?_;rintro _ _;(conv=>whnf);cases h;exact⟨_,⟨(),trivial,rfl,rfl⟩,aA (ren:=id) (ai trivial)⟩
         ·refine ws ?_;(conv=>whnf);refine CallG.own (zE (bo1:=bo1) hN hx41) id [(260005,.cells bb2 [.d (I c3.fMany),.d (xT 3)]),(260041,.arr hd17 3 1 true (List.map I l13))] _ (fun y=>[(255003,.cells bo1 (cW r22)),(260005,.cells bb2 [.d (I c3.fMany),.d (xT 3)]),(260041,.arr hd17 3 1 true (List.map I l13))]) (ac _) (ai trivial) rfl (ai trivial) (ai (ai trivial)) (fun _=>AV.le_refl _) (fun _=>rfl) ?_;rintro _ _;(conv=>whnf);cases h
          exact⟨_,⟨(),trivial,rfl,rfl⟩,aA (ren:=id) (ai trivial)⟩
        ·replace h:=ag hc11 h;rcases eP (decide (c3.fDo=4))with hc12 | hc12
         ·replace h:=af hc12 h;rw[of_decide_eq_true hc12];obtain⟨z13,hx42,h⟩:=ab h;rcases z13 with⟨ra5,rb5⟩ | r23
          ·refine ws ?_;(conv=>whnf);refine CallG.panic (jL (bo1:=bo1) hN hx42) id [(260005,.cells bb2 [.d (I c3.fMany),.d (xT 4)]),(260041,.arr hd17 3 1 true (List.map I l13))] (fun y=>[(255003,.cells bo1 (cW rb5)),(260005,.cells bb2 [.d (I c3.fMany),.d (xT 4)]),(260041,.arr hd17 3 1 true (List.map I l13))]) (ac _) (ai trivial) rfl (ai trivial) (ai (ai trivial)) (fun _=>rfl) ?_;rintro _ _;(conv=>whnf);cases h;exact⟨_,⟨(),trivial,rfl,rfl⟩,aA (ren:=id) (ai trivial)⟩
          ·refine ws ?_;(conv=>whnf);refine CallG.own (jL (bo1:=bo1) hN hx42) id [(260005,.cells bb2 [.d (I c3.fMany),.d (xT 4)]),(260041,.arr hd17 3 1 true (List.map I l13))] _ (fun y=>[(255003,.cells bo1 (cW r23)),(260005,.cells bb2 [.d (I c3.fMany),.d (xT 4)]),(260041,.arr hd17 3 1 true (List.map I l13))]) (ac _) (ai trivial) rfl (ai trivial) (ai (ai trivial)) (fun _=>AV.le_refl _) (fun _=>rfl) ?_;rintro _ _;(conv=>whnf);cases h
           exact⟨_,⟨(),trivial,rfl,rfl⟩,aA (ren:=id) (ai trivial)⟩
         ·replace h:=ag hc12 h;rcases eP (decide (c3.fDo=5))with hc13 | hc13
          ·replace h:=af hc13 h;rw[of_decide_eq_true hc13];obtain⟨z14,hx43,h⟩:=ab h;rcases z14 with⟨ra6,rb6⟩ | r24
           ·refine ws ?_;(conv=>whnf);refine CallG.panic (zy (bo1:=bo1) hN hx43) id [(260005,.cells bb2 [.d (I c3.fMany),.d (xT 5)]),(260041,.arr hd17 3 1 true (List.map I l13))] (fun y=>[(255003,.cells bo1 (cW rb6)),(260005,.cells bb2 [.d (I c3.fMany),.d (xT 5)]),(260041,.arr hd17 3 1 true (List.map I l13))]) (ac _) (ai trivial) rfl (ai trivial) (ai (ai trivial)) (fun _=>rfl) ?_;rintro _ _;(conv=>whnf);cases h;exact⟨_,⟨(),trivial,rfl,rfl⟩,aA (ren:=id) (ai trivial)⟩
           ·refine ws ?_;(conv=>whnf);refine CallG.own (zy (bo1:=bo1) hN hx43) id [(260005,.cells bb2 [.d (I c3.fMany),.d (xT 5)]),(260041,.arr hd17 3 1 true (List.map I l13))] _ (fun y=>[(255003,.cells bo1 (cW r24)),(260005,.cells bb2 [.d (I c3.fMany),.d (xT 5)]),(260041,.arr hd17 3 1 true (List.map I l13))]) (ac _) (ai trivial) rfl (ai trivial) (ai (ai trivial)) (fun _=>AV.le_refl _) (fun _=>rfl) ?_;rintro _ _;(conv=>whnf);cases h
            exact⟨_,⟨(),trivial,rfl,rfl⟩,aA (ren:=id) (ai trivial)⟩
          ·replace h:=ag hc13 h;rcases eP (decide (c3.fDo=6))with hc14 | hc14
           ·replace h:=af hc14 h;rw[of_decide_eq_true hc14];obtain⟨z15,hx44,h⟩:=ab h;rcases z15 with⟨ra7,rb7⟩ | r25
            ·refine ws ?_;(conv=>whnf);refine CallG.panic (zt (bo1:=bo1) hN hx44) id [(260005,.cells bb2 [.d (I c3.fMany),.d (xT 6)]),(260041,.arr hd17 3 1 true (List.map I l13))] (fun y=>[(255003,.cells bo1 (cW rb7)),(260005,.cells bb2 [.d (I c3.fMany),.d (xT 6)]),(260041,.arr hd17 3 1 true (List.map I l13))]) (ac _) (ai trivial) rfl (ai trivial) (ai (ai trivial)) (fun _=>rfl) ?_;rintro _ _;(conv=>whnf);cases h;exact⟨_,⟨(),trivial,rfl,rfl⟩,aA (ren:=id) (ai trivial)⟩
            ·refine ws ?_;(conv=>whnf);refine CallG.own (zt (bo1:=bo1) hN hx44) id [(260005,.cells bb2 [.d (I c3.fMany),.d (xT 6)]),(260041,.arr hd17 3 1 true (List.map I l13))] _ (fun y=>[(255003,.cells bo1 (cW r25)),(260005,.cells bb2 [.d (I c3.fMany),.d (xT 6)]),(260041,.arr hd17 3 1 true (List.map I l13))]) (ac _) (ai trivial) rfl (ai trivial) (ai (ai trivial)) (fun _=>AV.le_refl _) (fun _=>rfl) ?_;rintro _ _;(conv=>whnf);cases h
             exact⟨_,⟨(),trivial,rfl,rfl⟩,aA (ren:=id) (ai trivial)⟩
           ·replace h:=ag hc14 h;rcases eP (decide (c3.fDo=7))with hc15 | hc15
            ·replace h:=af hc15 h;rw[of_decide_eq_true hc15];obtain⟨z16,hx45,h⟩:=ab h;rcases z16 with⟨ra8,rb8⟩ | r26
             ·refine ws ?_;(conv=>whnf);refine CallG.panic (zF (bo1:=bo1) hN hx45) id [(260005,.cells bb2 [.d (I c3.fMany),.d (xT 7)]),(260041,.arr hd17 3 1 true (List.map I l13))] (fun y=>[(255003,.cells bo1 (cW rb8)),(260005,.cells bb2 [.d (I c3.fMany),.d (xT 7)]),(260041,.arr hd17 3 1 true (List.map I l13))]) (ac _) (ai trivial) rfl (ai trivial) (ai (ai trivial)) (fun _=>rfl) ?_;rintro _ _;(conv=>whnf);cases h;exact⟨_,⟨(),trivial,rfl,rfl⟩,aA (ren:=id) (ai trivial)⟩
             ·refine ws ?_;(conv=>whnf);refine CallG.own (zF (bo1:=bo1) hN hx45) id [(260005,.cells bb2 [.d (I c3.fMany),.d (xT 7)]),(260041,.arr hd17 3 1 true (List.map I l13))] _ (fun y=>[(255003,.cells bo1 (cW r26)),(260005,.cells bb2 [.d (I c3.fMany),.d (xT 7)]),(260041,.arr hd17 3 1 true (List.map I l13))]) (ac _) (ai trivial) rfl (ai trivial) (ai (ai trivial)) (fun _=>AV.le_refl _) (fun _=>rfl) ?_;rintro _ _;(conv=>whnf);cases h
              exact⟨_,⟨(),trivial,rfl,rfl⟩,aA (ren:=id) (ai trivial)⟩
            ·replace h:=ag hc15 h;rcases eP (decide (c3.fDo=8))with hc16 | hc16
             ·replace h:=af hc16 h;rw[of_decide_eq_true hc16];obtain⟨z17,hx46,h⟩:=ab h;rcases z17 with⟨ra9,rb9⟩ | r27
              ·refine ws ?_;(conv=>whnf);refine CallG.panic (zA (bo1:=bo1) hN hx46) id [(260005,.cells bb2 [.d (I c3.fMany),.d (xT 8)]),(260041,.arr hd17 3 1 true (List.map I l13))] (fun y=>[(255003,.cells bo1 (cW rb9)),(260005,.cells bb2 [.d (I c3.fMany),.d (xT 8)]),(260041,.arr hd17 3 1 true (List.map I l13))]) (ac _) (ai trivial) rfl (ai trivial) (ai (ai trivial)) (fun _=>rfl) ?_;rintro _ _;(conv=>whnf);cases h;exact⟨_,⟨(),trivial,rfl,rfl⟩,aA (ren:=id) (ai trivial)⟩
              ·refine ws ?_;(conv=>whnf);refine CallG.own (zA (bo1:=bo1) hN hx46) id [(260005,.cells bb2 [.d (I c3.fMany),.d (xT 8)]),(260041,.arr hd17 3 1 true (List.map I l13))] _ (fun y=>[(255003,.cells bo1 (cW r27)),(260005,.cells bb2 [.d (I c3.fMany),.d (xT 8)]),(260041,.arr hd17 3 1 true (List.map I l13))]) (ac _) (ai trivial) rfl (ai trivial) (ai (ai trivial)) (fun _=>AV.le_refl _) (fun _=>rfl) ?_;rintro _ _;(conv=>whnf);cases h
               exact⟨_,⟨(),trivial,rfl,rfl⟩,aA (ren:=id) (ai trivial)⟩
             ·replace h:=ag hc16 h;cases h
theorem oI{N:Nat}(hN:N≤1073741824){s1:List UInt8}{c1:DeskWork}{bo1:Nat}{r:Int×DeskWork}(h:iT N s1 c1=some r) :
    ACalls Tryz.prog 51 [.ptr 255003 bo1 0,.d (.str s1)] [(255003,.cells bo1 (cW c1))] (fun ae os=>∃y:Unit,True∧ae=.ret (.d (I r.1))∧os=[(255003,.cells bo1 (cW r.2))]):=by
  unfold iT at h
  split at h
  · cases h
  · rename_i e;cases h;exact vj (kc hN e)
  · rename_i e;cases h;exact vh (kc hN e)
theorem i7{N:Nat}(hN:N≤1073741824){lines1:List (List UInt8)}{r:(List Int)×DeskWork}(h:gn N lines1=some r) :
    ACalls Tryz.prog 24 [.d (.list 1 (List.map D.str lines1))] [] fun ae os=>∃y:Nat,True∧ae=.ret (.tup [.ptr 255003 y 0,.d (.list 1 (List.map I r.1))])∧os=[(255003,.cells y (cW r.2))]:=by
  refine aJ (fresh:=false) al ap ⟨[],[],[],[],[1003],125000,[]⟩ Tryz.func24 rfl Tryz.call24 rfl ?_
  unfold gn at h
  obtain⟨r2,hx2,h⟩:=ab h;(conv=>whnf);refine CallG.own (sg hN hx2) id [] _ (fun y=>[(255003,.cells y (cW r2))]) (ac _) trivial rfl trivial trivial (fun _=>AV.le_refl _) (fun _=>rfl) ?_;rintro b2 _;obtain⟨⟨c5,l11⟩,hx27,h⟩:=ab h;(conv=>whnf)
  refine SeqG.mk Value (fun y=>[(4,.ptr 255003 b2 0),(5,.sl 125020 y)]) (fun y=>[(255003,.cells b2 (cW c5)),(125020,.arr y 38 1 false (List.map I l11))]) (fun _=>True) ?_ ?_
  ·(conv=>whnf);refine LnA.mk _ (List.length_map _) ?_;(conv=>whnf)
   refine LoopG.mk (Nat×(Int×Int×DeskWork×(List Int))×Value) (fun y=>[(4,.ptr 255003 b2 0),(5,.sl 125020 y.2.2),(9,.d (.list 1 (List.map D.str lines1))),(10,.d (I y.2.1.1)),(11,.d (I y.2.1.2.1))]) (fun y=>[(255003,.cells b2 (cW y.2.1.2.2.1)),(125020,.arr y.2.2 38 1 false (List.map I y.2.1.2.2.2))]) (fun y=>aj (fun rr x=>eD N lines1 rr x.1 x.2.1 x.2.2.1 x.2.2.2) y.1 y.2.1=some (c5,l11)) (fun y=>y.1) (N,((lines1.length:Int),0,r2,[]),(.slice none 0 0)) hx27 (Sub.eq rfl ?_ ?_) ?_
   ·(repeat ((conv=>whnf);refine nr ?_));exact trivial
   ·(conv=>whnf);refine no ?_;(conv=>whnf);refine Need.mk (OLe.nil _ _ _ _) ?_;exact trivial
   ·rintro⟨n2,⟨v17,v18,c9,l19⟩,hd29⟩ hl2;obtain⟨n2,rfl,hl2⟩:=ar hl2;replace hl2:eD N lines1 (aj (fun rr x=>eD N lines1 rr x.1 x.2.1 x.2.2.1 x.2.2.2) n2) v17 v18 c9 l19=some (c5,l11):=hl2;rw[eD]at hl2;refine wB (fun hc12=>?_) (fun hc12=>?_)
    ·replace hl2:=af hc12 hl2;obtain⟨x24,hx49,hl2⟩:=ab hl2;(conv=>whnf);refine Side.mk rfl ⟨_,aC hx49,ak _ hx49,?_⟩;obtain⟨⟨ra12,rb12⟩,hx50,hl2⟩:=ab hl2;(conv=>whnf);refine CallG.own (oI (bo1:=b2) hN hx50) id [(125020,.arr hd29 38 1 false (List.map I l19))] _ (fun y=>[(255003,.cells b2 (cW rb12)),(125020,.arr hd29 38 1 false (List.map I l19))]) (ac _) (ai trivial) rfl (ai trivial) (ai trivial) (fun _=>AV.le_refl _) (fun _=>rfl) ?_;rintro _ _
     (conv=>whnf);intro hd32;obtain⟨l21,hx51,hl2⟩:=ab hl2;(conv=>whnf);refine Side.mk ⟨rfl,rfl⟩ ?_;(conv=>whnf);refine Side.mk ⟨rfl,rfl,rfl⟩ (Need.mk (aD hN hx51 (by decide)) (Eqv.mk (List.map I l21) (aH _ hx51) ?_));(conv=>whnf);intro hd33;(conv=>whnf);exact⟨(n2,(v17,w64 (v18+1),rb12,l21),hd33),hl2,kW,Nat.lt_succ_self _⟩
    ·replace hl2:=ag hc12 hl2;cases hl2;(conv=>whnf);exact⟨hd29,trivial,kW⟩
  ·rintro hd17 _;refine ws ?_;(conv=>whnf);cases h;exact⟨b2,trivial,rfl,aA (ren:=id) (ai trivial)⟩
end Go.Proofs.YtfnicgdcofjlpaaGreatDoor
