/-
  The walk of the law DeskResumes.
-/
import Derived.Test.YtdodahpkpeodfaaGreatDoorVe
import Derived.Test.YtdodahpkpeodfaaGreatDoorVk
import Derived.Test.YtdodahpkpeodfaaGreatDoorDDeskResumes
import Derived.Test.YtdodahpkpeodfaaGreatDoorWe
open List renaming length_map→Ia,map→Jy
namespace Go.Proofs.YtdodahpkpeodfaaGreatDoor
open Go Go.Abs Go.Kp
set_option maxRecDepth 100000
set_option maxHeartbeats 64000000
set_option linter.all false
theorem jR{N:Nat}(hN:N≤1073741824) {r:Bool}(h:cL N=some r) :
    ACalls Tryz.prog 9 [] [] fun e os=>e=.ret (.d (.bool r))∧os=[]:=by
  refine Cs al ap [6] 0 Tryz.func9 rfl Tryz.call9 rfl ?_
  unfold cL at h
  repeat' ((conv=>whnf)<;>first|refine u (k:=?_)|exact v|refine aap D.str _ [_,_,_,_] hN rfl rfl ‹_› (by decide) ?_|refine StrG.mk _ rfl ?_|refine cf 16 16 (i6 hN am) ?_|refine cp (uk hN am) ?_|refine cf 24 24 (i6 hN am) ?_|refine cp (O3 hN am) ?_|refine cf 32 32 (i6 hN am) ?_|refine cp (O4 hN am) ?_|refine cf 38 38 (i6 hN am) ?_|refine cp (ru hN am) ?_|refine cp (ol (lines1:=[_]) hN am) ?_|refine sq0 6 h [] (fun x=>[(0,.d (.bool x))]) ?_ ?_|refine cp (su (b1:=[20,34]) hN am) ?_|intro _|apply Br.mk|refine TyG.mk fun _ h=>?_|(refine hs h ?_;intro _ _ h))
theorem MX{N:Nat}(hN:N≤1073741824){b1:List Int}{more1:List (List UInt8)}{r:Bool}(h:Kq N b1 more1=some r) :
    ACalls Tryz.prog 7 [.d (.list 1 (Jy (fun x=>.int .u8 x) b1)),.d (.list 1 (Jy D.str more1))] [] fun e os=>e=.ret (.d (.bool r))∧os=[]:=by
  refine Cs al ap [1,12,19,20,1006,1009,1012] 0 Tryz.func7 rfl Tryz.call7 rfl ?_
  unfold Kq at h
  obtain⟨v4,hx7,h⟩:=obind h;(conv=>whnf);refine sk Unit [0,1] [] (fun _=>[(21,.d (.bool v4))]) (fun _=>[]) (fun _=>True) ?_ ?_
  ·obtain⟨r6,hx8,hx7⟩:=obind hx7;(conv=>whnf);refine CallG.pure _ (sf hN hx8) ?_;refine wB (fun hc5=>?_) (fun hc5=>?_)
   ·replace hx7:=ite_f hc5 hx7;(conv=>whnf);refine LnA.mk _ (Ia _) ?_;cases hx7;(conv=>whnf);exact⟨(),trivial,Cl⟩
   ·replace hx7:=ite_t hc5 hx7;cases hx7;(conv=>whnf);exact⟨(),trivial,Cl⟩
  ·rintro _ _;refine wB (fun hc6=>?_) (fun hc6=>?_)
   ·replace h:=ite_t hc6 h;obtain⟨r8,hx10,h⟩:=obind h;(conv=>whnf);refine CallG.pure _ (jR hN hx10) ?_;(conv=>whnf);cases h;exact rfl
   ·replace h:=ite_f hc6 h;(conv=>whnf);intro hd4;obtain⟨l2,hx14,h⟩:=obind h;refine ws ?_;(conv=>whnf);refine Side.mk ⟨rfl,rfl,rfl⟩ (Need.mk (app_need hN hx14 (by decide)) (Eqv.mk (Jy (fun x=>.int .u8 x) l2) (app_map _ hx14) ?_));(conv=>whnf);intro hd5;obtain⟨r10,hx15,h⟩:=obind h;(conv=>whnf);refine CallG.fresh 28 (sv hN hx15) ?_;intro hd6;obtain⟨⟨ra2,rb2⟩,hx16,h⟩:=obind h;(iterate 2 refine ws ?_);(conv=>whnf);refine CallG.pure _ (OS hN hx16) ?_;obtain⟨r12,hx18,h⟩:=obind h;(conv=>whnf);refine CallG.pure _ (FP hN hx18) ?_;obtain⟨⟨want2,l37⟩,hx114,h⟩:=obind h;(conv=>whnf);refine sk Value [5,6] [] (fun y=>[(7,.d (I want2)),(8,.sl 150052 y)]) (fun y=>[(150052,.arr y 9 1 true (Jy D.str l37))]) (fun _=>True) ?_ ?_
    ·refine wB (fun hc33=>?_) (fun hc33=>?_)
     ·replace hx114:=ite_t hc33 hx114;refine ws ?_;(conv=>whnf);refine StrG.mk b1 rfl ?_;obtain⟨⟨ra32,rb32⟩,hx116,hx114⟩:=obind hx114;(conv=>whnf);refine co (OZ hN hx116) ?_;(conv=>whnf);rintro hd57 _;obtain⟨⟨ra34,rb34⟩,hx118,hx114⟩:=obind hx114;refine ws ?_;(conv=>whnf);refine CallG.pure _ (Gy hN hx118) ?_;(conv=>whnf);intro b77;refine ws ?_;obtain⟨l54,hx164,hx114⟩:=obind hx114;(conv=>whnf);refine sk Value [5,6,7] [] (fun y=>[(8,.sl 150052 y)]) (fun y=>[(150052,.arr y 9 1 true (Jy D.str l54))]) (fun _=>True) ?_ ?_
      ·(conv=>whnf)
       refine lk (Nat×(Int×(List (List UInt8))×bZ)×Value) [1,5,6,7,9] [] (fun y=>[(8,.sl 150052 y.2.2),(11,.d (I y.2.1.1))]) (fun y=>[(150052,.arr y.2.2 9 1 true (Jy D.str y.2.1.2.1)),(9,.cells b77 [.d (.list 1 (Jy I y.2.1.2.2.az)),.d (I y.2.1.2.2.ag.a0.af),.d (.list 1 (Jy I y.2.1.2.2.ag.a0.ar)),.d (I y.2.1.2.2.ag.a1.af),.d (.list 1 (Jy I y.2.1.2.2.ag.a1.ar)),.d (I y.2.1.2.2.ag.a2.af),.d (.list 1 (Jy I y.2.1.2.2.ag.a2.ar)),.d (I y.2.1.2.2.ag.a3.af),.d (.list 1 (Jy I y.2.1.2.2.ag.a3.ar)),.d (.list 1 (Jy eL y.2.1.2.2.Ai)),.d (.list 6 (Jy b9.enc y.2.1.2.2.aD)),.d (.list 1 (Jy I y.2.1.2.2.ak)),.d (.list 3 (Jy dt.enc y.2.1.2.2.aW))])]) (fun y=>loopN (fun rr x=>CT N more1 rr x.1 x.2.1 x.2.2) y.1 y.2.1=some l54) (fun y=>y.1) (N,(0,rb32,ra34),hd57) hx164 Cl ?_
       ·rintro⟨n4,⟨i16,l66,s38⟩,hd96⟩ hl4;obtain⟨n4,rfl,hl4⟩:=loopN_some hl4;replace hl4:CT N more1 (loopN (fun rr x=>CT N more1 rr x.1 x.2.1 x.2.2) n4) i16 l66 s38=some l54:=hl4;rw[CT]at hl4;(conv=>whnf);refine LnA.mk _ (Ia _) ?_;refine wB (fun hc55=>?_) (fun hc55=>?_)
        ·replace hl4:=ite_t hc55 hl4;obtain⟨⟨l69,s40⟩,hx202,hl4⟩:=obind hl4;(conv=>whnf);refine sk Value [1,5,6,7,9,11] [] (fun y=>[(8,.sl 150052 y)]) (fun y=>[(150052,.arr y 9 1 true (Jy D.str l69)),(9,.cells b77 [.d (.list 1 (Jy I s40.az)),.d (I s40.ag.a0.af),.d (.list 1 (Jy I s40.ag.a0.ar)),.d (I s40.ag.a1.af),.d (.list 1 (Jy I s40.ag.a1.ar)),.d (I s40.ag.a2.af),.d (.list 1 (Jy I s40.ag.a2.ar)),.d (I s40.ag.a3.af),.d (.list 1 (Jy I s40.ag.a3.ar)),.d (.list 1 (Jy eL s40.Ai)),.d (.list 6 (Jy b9.enc s40.aD)),.d (.list 1 (Jy I s40.ak)),.d (.list 3 (Jy dt.enc s40.aW))])]) (fun _=>True) ?_ ?_
         ·obtain⟨⟨no48,t48⟩,hx205,hx202⟩:=obind hx202;(conv=>whnf);refine sk Nat [1,5,6,7,8,9,11] [150052,9] (fun y=>[(12,.ptr 12 y 0),(13,.d (I no48))]) (fun y=>[(12,.cells y [.d (.list 1 (Jy I t48.az)),.d (I t48.ag.a0.af),.d (.list 1 (Jy I t48.ag.a0.ar)),.d (I t48.ag.a1.af),.d (.list 1 (Jy I t48.ag.a1.ar)),.d (I t48.ag.a2.af),.d (.list 1 (Jy I t48.ag.a2.ar)),.d (I t48.ag.a3.af),.d (.list 1 (Jy I t48.ag.a3.ar)),.d (.list 1 (Jy eL t48.Ai)),.d (.list 6 (Jy b9.enc t48.aD)),.d (.list 1 (Jy I t48.ak)),.d (.list 3 (Jy dt.enc t48.aW))])]) (fun _=>True) ?_ ?_
          ·obtain⟨x71,hx206,hx205⟩:=obind hx205;obtain⟨⟨ra58,rb58⟩,hx207,hx205⟩:=obind hx205;(conv=>whnf);refine DrawG.mk (.take 0 (.take 1 (.take 2 (.take 3 (.take 4 (.alt 5 [3,2,1] (.take 6 (.take 7 (.take 8 (.alt 9 [8,7,6,3,2,1] (.alt 10 [8] (.take 11 .done) .nil) .nil)))) (.alt 9 [4,3,2,1,0] (.alt 5 [3,2,1] (.take 6 (.take 7 (.take 8 (.alt 10 [8] (.take 11 .done) .nil)))) .nil) .nil))))))) (by kernel_rfl) ?_;refine ws ?_;(conv=>whnf);refine Side.mk rfl ⟨_,idx_0 hx206,idx_map _ hx206,?_⟩;(conv=>whnf);refine Both.mk ?_ ?_
           ·(conv=>whnf);refine CallG.pure _ (If hN hx207) ?_;(conv=>whnf);refine Side.mk rfl ⟨_,idx_0 hx206,idx_map _ hx206,?_⟩;(iterate 3 refine wl ?_);refine wb ?_;(conv=>whnf);intro b148;(iterate 3 refine wl ?_);(conv=>whnf);refine Side.mk rfl ⟨_,idx_0 hx206,idx_map _ hx206,?_⟩;(iterate 3 refine wl ?_);refine wb ?_;refine ws ?_;refine wl ?_;cases hx205;(conv=>whnf);exact⟨b148,trivial,Cl⟩
           ·refine wb ?_;(conv=>whnf);intro b149;refine wl ?_;(conv=>whnf);refine Side.mk rfl ⟨_,idx_0 hx206,idx_map _ hx206,?_⟩;(iterate 3 refine wl ?_);refine ws ?_;refine wl ?_;refine wb ?_;(conv=>whnf);refine CallG.pure _ (If hN hx207) ?_;(conv=>whnf);refine Side.mk rfl ⟨_,idx_0 hx206,idx_map _ hx206,?_⟩;(iterate 3 refine wl ?_);refine wb ?_;refine ws ?_;refine wl ?_;cases hx205;(conv=>whnf);exact⟨b149,trivial,Cl⟩
          ·rintro bb48 _;(iterate 2 refine ws ?_);refine wB (fun hc57=>?_) (fun hc57=>?_)
           ·replace hx202:=ite_t hc57 hx202;obtain⟨x72,hx208,hx202⟩:=obind hx202;(conv=>whnf);refine Side.mk rfl ⟨_,idx_0 hx208,idx_map _ hx208,?_⟩;(conv=>whnf);intro hd101;obtain⟨l70,hx209,hx202⟩:=obind hx202;(conv=>whnf);refine Side.mk ⟨rfl,rfl⟩ ?_;(conv=>whnf);refine Side.mk ⟨rfl,rfl,rfl⟩ (Need.mk (app_need hN hx209 (by decide)) (Eqv.mk (Jy D.str l70) (app_map _ hx209) ?_));(conv=>whnf);intro hd102;cases hx202;(conv=>whnf);exact⟨hd102,trivial,Cl⟩
           ·replace hx202:=ite_f hc57 hx202;cases hx202;(conv=>whnf);exact⟨hd96,trivial,Cl⟩
         ·rintro hd100 _;(conv=>whnf);exact⟨(n4,(w64 (i16+1),l69,s40),hd100),hl4,Cl,Nat.lt_succ_self _⟩
        ·replace hl4:=ite_f hc55 hl4;cases hl4;(conv=>whnf);exact⟨hd96,trivial,Cl⟩
      ·rintro hd80 _;(conv=>whnf);refine Side.mk rfl (LnA.mk _ (Ia _) ?_);refine wB (fun hc58=>?_) (fun hc58=>?_)
       ·replace hx114:=ite_t hc58 hx114;cases hx114;(conv=>whnf);exact⟨hd80,trivial,Cl⟩
       ·replace hx114:=ite_f hc58 hx114;cases hx114;(conv=>whnf);exact⟨hd80,trivial,Cl⟩
     ·replace hx114:=ite_f hc33 hx114;cases hx114;(conv=>whnf);exact⟨(.slice none 0 0),trivial,Cl⟩
    ·rintro hd55 _;refine wB (fun hc64=>?_) (fun hc64=>?_)
     ·replace h:=ite_t hc64 h;obtain⟨v8,hx214,h⟩:=obind h;(conv=>whnf);refine sk Unit [] [] (fun _=>[(4,.d (.bool v8))]) (fun _=>[]) (fun _=>True) ?_ ?_
      ·refine wB (fun hc67=>?_) (fun hc67=>?_)
       ·replace hx214:=ite_t hc67 hx214;(conv=>whnf);refine LnA.mk _ (Ia _) ?_;refine wB (fun hc68=>?_) (fun hc68=>?_)
        ·replace hx214:=ite_t hc68 hx214;obtain⟨r16,hx215,hx214⟩:=obind hx214;(conv=>whnf);refine CallG.pure _ (jR hN hx215) ?_;cases hx214;(conv=>whnf);exact⟨(),trivial,Cl⟩
        ·replace hx214:=ite_f hc68 hx214;cases hx214;(conv=>whnf);exact⟨(),trivial,Cl⟩
       ·replace hx214:=ite_f hc67 hx214;cases hx214;(conv=>whnf);exact⟨(),trivial,Cl⟩
      ·rintro _ _;(conv=>whnf);cases h;exact rfl
     ·replace h:=ite_f hc64 h;obtain⟨v10,hx219,h⟩:=obind h;(conv=>whnf);refine sk Unit [] [] (fun _=>[(4,.d (.bool v10))]) (fun _=>[]) (fun _=>True) ?_ ?_
      ·(conv=>whnf);refine DrawG.mk (.take 0 (.take 1 (.take 2 (.spl 90 (.take 3 (.take 5 (.alt 4 [5,1,0] (.alt 6 [1,0] (.take 7 (.take 8 (.take 9 (.spl 97 (.alt 10 [8,7,1,0] (.take 11 (.take 12 .done)) .nil))))) .nil) (.alt 6 [3,1,0] (.alt 4 [1,0] (.take 7 (.take 8 (.take 9 (.spl 97 (.alt 10 [8,7,1,0] (.take 11 (.take 12 .done)) .nil))))) .nil) .nil)))))))) (by kernel_rfl) ?_;refine wB (fun hc72=>?_) (fun hc72=>?_)
       ·replace hx219:=ite_t hc72 hx219;obtain⟨r20,hx220,hx219⟩:=obind hx219;(conv=>whnf);refine Both.mk ?_ ?_
        ·refine ws ?_;(conv=>whnf);refine StrG.mk ra2 rfl ?_;(iterate 3 refine wl ?_);refine wb ?_;refine ws ?_;(conv=>whnf);refine CallG.pure _ (Of hN hx220) ?_;(iterate 2 refine wl ?_);refine wB (fun hc73=>?_) (fun hc73=>?_)
         ·replace hx219:=ite_t hc73 hx219;obtain⟨r21,hx221,hx219⟩:=obind hx219;refine wb ?_;(conv=>whnf);refine CallG.pure _ (jR hN hx221) ?_;(iterate 4 refine wl ?_);cases hx219;(conv=>whnf);exact⟨(),trivial,Cl⟩
         ·replace hx219:=ite_f hc73 hx219;refine wb ?_;(iterate 4 refine wl ?_);cases hx219;(conv=>whnf);exact⟨(),trivial,Cl⟩
        ·refine wb ?_;refine ws ?_;(conv=>whnf);refine CallG.pure _ (Of hN hx220) ?_;(iterate 3 refine wl ?_);refine wb ?_;refine ws ?_;(conv=>whnf);refine StrG.mk ra2 rfl ?_;(iterate 2 refine wl ?_);refine wB (fun hc74=>?_) (fun hc74=>?_)
         ·replace hx219:=ite_t hc74 hx219;obtain⟨r22,hx222,hx219⟩:=obind hx219;refine wb ?_;(conv=>whnf);refine CallG.pure _ (jR hN hx222) ?_;(iterate 4 refine wl ?_);cases hx219;(conv=>whnf);exact⟨(),trivial,Cl⟩
         ·replace hx219:=ite_f hc74 hx219;refine wb ?_;(iterate 4 refine wl ?_);cases hx219;(conv=>whnf);exact⟨(),trivial,Cl⟩
       ·replace hx219:=ite_f hc72 hx219;(conv=>whnf);refine Both.mk ?_ ?_
        ·(conv=>whnf);refine nr ?_;(iterate 2 refine wl ?_);refine wb ?_;(iterate 2 refine wl ?_);refine wb ?_;refine wl ?_;(conv=>whnf);refine nr ?_;(iterate 2 refine wl ?_);cases hx219;(conv=>whnf);exact⟨(),trivial,Cl⟩
        ·refine wb ?_;(conv=>whnf);refine nr ?_;(iterate 2 refine wl ?_);refine wb ?_;(iterate 2 refine wl ?_);refine wb ?_;refine wl ?_;(conv=>whnf);refine nr ?_;(iterate 2 refine wl ?_);cases hx219;(conv=>whnf);exact⟨(),trivial,Cl⟩
      ·rintro _ _;(conv=>whnf);cases h;exact rfl
