/-
  The walk of the law DeskStruck.
-/
import Derived.Test.YtkbeeloccdfomaaGreatDoorDDeskStruck
import Derived.Test.YtkbeeloccdfomaaGreatDoorWe
import Derived.Test.YtkbeeloccdfomaaGreatDoorVa
import Derived.Test.YtkbeeloccdfomaaGreatDoorVe
import Derived.Test.YtkbeeloccdfomaaGreatDoorVf
import Derived.Test.YtkbeeloccdfomaaGreatDoorVh
namespace Go.Proofs.YtkbeeloccdfomaaGreatDoor
open Go Go.Abs Go.Kp
set_option maxRecDepth 100000
set_option maxHeartbeats 8000000
set_option linter.all false
theorem FU{N:Nat}(hN:N≤1073741824){lines1:List (List UInt8)}{which1:Int}{week1:Int}{r:Bool}(h:FA N lines1 which1 week1=some r) :
    ACalls Tryz.prog 3 [.d (.list 1 (List.map D.str lines1)),.d (.int .u8 which1),.d (.int .u8 week1)] [] fun e os=>e=.ret (.d (.bool r))∧os=[]:=by
  refine ah (fresh:=false) al ap ⟨[],[],[],[],[1,9,13,22,25,1016,1022],0,[]⟩ Tryz.func3 rfl Tryz.call3 rfl ?_
  unfold FA at h
  obtain⟨v4,hx10,h⟩:=ab h;(conv=>whnf);refine SeqG.mk Unit (fun y=>[(0,.d (.list 1 (List.map D.str lines1))),(1,.d (.int .u8 which1)),(2,.d (.int .u8 week1)),(36,.d (.bool v4))]) (fun y=>[]) (fun _=>True) ?_ ?_
  ·obtain⟨r9,hx11,hx10⟩:=ab hx10;(conv=>whnf);refine CallG.pure _ (sf hN hx11) ?_;refine wB (fun hc8=>?_) (fun hc8=>?_)
   ·replace hx10:=ag hc8 hx10;obtain⟨r10,hx12,hx10⟩:=ab hx10;(conv=>whnf);refine CallG.pure _ (rm hN hx12) ?_;refine wB (fun hc9=>?_) (fun hc9=>?_)
    ·replace hx10:=ag hc9 hx10;(conv=>whnf);refine LnA.mk _ (List.length_map _) ?_;cases hx10;(conv=>whnf);exact⟨(),trivial,xT⟩
    ·replace hx10:=af hc9 hx10;cases hx10;(conv=>whnf);exact⟨(),trivial,xT⟩
   ·replace hx10:=af hc8 hx10;cases hx10;(conv=>whnf);exact⟨(),trivial,xT⟩
  ·rintro _ _;refine wB (fun hc10=>?_) (fun hc10=>?_)
   ·replace h:=af hc10 h;obtain⟨r12,hx14,h⟩:=ab h;(conv=>whnf);refine CallG.pure _ (jR hN hx14) ?_;(conv=>whnf);cases h;exact rfl
   ·replace h:=ag hc10 h;obtain⟨⟨ra2,rb2,rc2⟩,hx16,h⟩:=ab h;(conv=>whnf);refine CallG.pure _ (zV hN hx16) ?_;(conv=>whnf);intro b2;refine ws ?_;refine wB (fun hc12=>?_) (fun hc12=>?_)
    ·replace h:=af hc12 h;(conv=>whnf);cases h;exact rfl
    ·replace h:=ag hc12 h;refine ws ?_;(conv=>whnf);refine LnA.mk _ (List.length_map _) ?_;refine wB (fun hc14=>?_) (fun hc14=>?_)
     ·replace h:=af hc14 h;obtain⟨r16,hx20,h⟩:=ab h;(conv=>whnf);refine CallG.pure _ (jR hN hx20) ?_;(conv=>whnf);cases h;exact rfl
     ·replace h:=ag hc14 h;obtain⟨_,hx23,h⟩:=ab h;obtain⟨x2,hx24,h⟩:=ab h;(conv=>whnf);refine DrawG.mk (.take 0 (.take 1 (.take 2 (.take 3 (.take 4 (.take 5 (.take 6 (.take 7 (.take 8 (.take 9 (.alt 10 [9,8,7,6,5,4,3,2,1,0] (.alt 11 [] .done .nil) .nil))))))))))) (by kernel_rfl) ?_;(iterate 2 refine ws ?_);(conv=>whnf);refine LnA.mk _ (List.length_map _) ?_;(conv=>whnf);refine Need.mk (xk hx23) ?_;(conv=>whnf);refine Side.mk rfl ⟨_,aC hx24,ak _ hx24,?_⟩;refine wb ?_;(conv=>whnf);intro b6;refine wl ?_;(conv=>whnf);refine Side.mk rfl ⟨_,aC hx24,ak _ hx24,?_⟩;refine wl ?_;(conv=>whnf);refine Need.mk (xk hx23) ?_;refine wl ?_;(conv=>whnf);refine LnA.mk _ (List.length_map _) ?_;refine wl ?_;refine ws ?_;(conv=>whnf)
      refine nl ?_;(iterate 3 refine wl ?_);refine ws ?_;(iterate 2 refine wl ?_);refine wb ?_;refine ws ?_;obtain⟨v8,hx26,h⟩:=ab h;(conv=>whnf)
      refine SeqG.mk Unit (fun y=>[(0,.d (.list 1 (List.map D.str lines1))),(2,.d (.int .u8 week1)),(7,.ptr 7 b2 0),(10,.ptr 10 b6 0),(78,.d (.bool v8))]) (fun y=>[(7,.cells b2 [.d (.list 1 (List.map I ra2.fBowlers)),.d (.list 2 (List.map DeskLane.enc ra2.fLanes)),.d (.list 1 (List.map eL ra2.fKept)),.d (.list 6 (List.map RateSheet.enc ra2.fSheets)),.d (.list 1 (List.map I ra2.fWithdrawn)),.d (.list 3 (List.map LadderResult.enc ra2.fResults))]),(10,.cells b6 [.d (I x2.fNumber),.d (I x2.fBowler),.d (I x2.fWeek),.d (I x2.fGames.a0),.d (I x2.fGames.a1),.d (I x2.fGames.a2)])]) (fun _=>True) ?_ ?_
      ·refine ws ?_;refine wB (fun hc25=>?_) (fun hc25=>?_)
       ·replace hx26:=ag hc25 hx26;refine ws ?_;refine wB (fun hc26=>?_) (fun hc26=>?_)
        ·replace hx26:=ag hc26 hx26;refine ws ?_;refine wB (fun hc27=>?_) (fun hc27=>?_)
         ·replace hx26:=ag hc27 hx26;refine ws ?_;cases hx26;(conv=>whnf);exact⟨(),trivial,xT⟩
         ·replace hx26:=af hc27 hx26;cases hx26;(conv=>whnf);exact⟨(),trivial,xT⟩
        ·replace hx26:=af hc26 hx26;cases hx26;(conv=>whnf);exact⟨(),trivial,xT⟩
       ·replace hx26:=af hc25 hx26;cases hx26;(conv=>whnf);exact⟨(),trivial,xT⟩
      ·rintro _ _;refine wB (fun hc28=>?_) (fun hc28=>?_)
       ·replace h:=af hc28 h;(conv=>whnf);cases h;exact rfl
       ·replace h:=ag hc28 h;obtain⟨r19,hx31,h⟩:=ab h;obtain⟨r20,hx32,h⟩:=ab h;obtain⟨s2,hx33,h⟩:=ab h;obtain⟨l2,hx34,h⟩:=ab h;(conv=>whnf);refine DrawG.mk (.take 0 (.take 2 (.take 3 (.alt 1 [3,2] (.alt 4 [2] (.take 5 (.alt 6 [2] (.alt 7 [2] (.take 8 .done) .nil) .nil)) .nil) .nil)))) (by kernel_rfl) ?_;refine ws ?_;refine wb ?_;(conv=>whnf);refine CallG.fresh 80 (sv hN hx31) ?_;intro hd10;refine ws ?_;(iterate 2 refine wl ?_);refine wb ?_;(conv=>whnf);refine CallG.pure _ (Bx hN hx32) ?_;refine wl ?_;(conv=>whnf);refine Need.mk (eO hN hx33) ?_;refine wb ?_;(conv=>whnf);intro hd11;refine wl ?_;refine wb ?_;(conv=>whnf);refine Side.mk ⟨rfl,rfl⟩ ?_
        (conv=>whnf);refine Side.mk ⟨rfl,rfl,rfl⟩ (Need.mk (aD hN hx34 (by decide)) (Eqv.mk (List.map D.str l2) (aH _ hx34) ?_));(conv=>whnf);intro hd12;refine wl ?_;obtain⟨r22,hx37,h⟩:=ab h;refine ws ?_;(conv=>whnf);refine CallG.fresh 89 (sv hN hx37) ?_;intro hd14;obtain⟨⟨ra4,rb4,rc4⟩,hx38,h⟩:=ab h;refine ws ?_;(conv=>whnf);refine CallG.pure _ (uk hN hx38) ?_;(conv=>whnf);intro b8;refine ws ?_;obtain⟨v12,hx43,h⟩:=ab h;(conv=>whnf)
        refine SeqG.mk Unit (fun y=>[(0,.d (.list 1 (List.map D.str lines1))),(2,.d (.int .u8 week1)),(7,.ptr 7 b2 0),(10,.ptr 10 b6 0),(11,.sl 80 hd12),(118,.d (.bool v12))]) (fun y=>[(7,.cells b2 [.d (.list 1 (List.map I ra2.fBowlers)),.d (.list 2 (List.map DeskLane.enc ra2.fLanes)),.d (.list 1 (List.map eL ra2.fKept)),.d (.list 6 (List.map RateSheet.enc ra2.fSheets)),.d (.list 1 (List.map I ra2.fWithdrawn)),.d (.list 3 (List.map LadderResult.enc ra2.fResults))]),(10,.cells b6 [.d (I x2.fNumber),.d (I x2.fBowler),.d (I x2.fWeek),.d (I x2.fGames.a0),.d (I x2.fGames.a1),.d (I x2.fGames.a2)]),(80,.arr hd12 9 1 true (List.map D.str l2))]) (fun _=>True) ?_ ?_
        ·refine wB (fun hc39=>?_) (fun hc39=>?_)
         ·replace hx43:=ag hc39 hx43;(conv=>whnf);refine LnA.mk _ (List.length_map _) ?_;(conv=>whnf);refine Side.mk rfl (LnA.mk _ (List.length_map _) ?_);refine wB (fun hc40=>?_) (fun hc40=>?_)
          ·replace hx43:=ag hc40 hx43;(conv=>whnf);refine LnA.mk _ (List.length_map _) ?_;obtain⟨x6,hx44,hx43⟩:=ab hx43;(conv=>whnf);refine Side.mk rfl ⟨_,aC hx44,ak _ hx44,?_⟩;refine wB (fun hc41=>?_) (fun hc41=>?_)
           ·replace hx43:=af hc41 hx43;(conv=>whnf);refine LnA.mk _ (List.length_map _) ?_;(conv=>whnf);refine Side.mk rfl ⟨_,aC hx44,ak _ hx44,?_⟩;cases hx43;(conv=>whnf);exact⟨(),trivial,xT⟩
           ·replace hx43:=ag hc41 hx43;cases hx43;(conv=>whnf);exact⟨(),trivial,xT⟩
          ·replace hx43:=af hc40 hx43;cases hx43;(conv=>whnf);exact⟨(),trivial,xT⟩
         ·replace hx43:=af hc39 hx43;cases hx43;(conv=>whnf);exact⟨(),trivial,xT⟩
        ·rintro _ _;refine wB (fun hc42=>?_) (fun hc42=>?_)
         ·replace h:=af hc42 h;(conv=>whnf);cases h;exact rfl
         ·replace h:=ag hc42 h;(conv=>whnf);refine Need.mk (by decide) ?_;refine ws ?_;obtain⟨_,hx46,h⟩:=ab h;(conv=>whnf);refine Need.mk (xk hx46) ?_;(conv=>whnf);intro b10;refine ws ?_;(conv=>whnf);refine SeqG.mk Unit (fun y=>[]) (fun y=>[]) (fun y=>Fx N=some r) ?_ ?_
          ·(conv=>whnf)
           refine LoopG.mk (Nat×(Int×(Ar2 Int))) (fun y=>[(0,.d (.list 1 (List.map D.str lines1))),(7,.ptr 7 b2 0),(10,.ptr 10 b6 0),(11,.sl 80 hd12),(15,.ptr 15 b10 0),(16,.d (I y.2.1))]) (fun y=>[(7,.cells b2 [.d (.list 1 (List.map I ra2.fBowlers)),.d (.list 2 (List.map DeskLane.enc ra2.fLanes)),.d (.list 1 (List.map eL ra2.fKept)),.d (.list 6 (List.map RateSheet.enc ra2.fSheets)),.d (.list 1 (List.map I ra2.fWithdrawn)),.d (.list 3 (List.map LadderResult.enc ra2.fResults))]),(10,.cells b6 [.d (I x2.fNumber),.d (I x2.fBowler),.d (I x2.fWeek),.d (I x2.fGames.a0),.d (I x2.fGames.a1),.d (I x2.fGames.a2)]),(80,.arr hd12 9 1 true (List.map D.str l2)),(15,.cells b10 [.d (I y.2.2.a0),.d (I y.2.2.a1)])]) (fun y=>aj (fun rr x=>E6 N lines1 ra2 x2 l2 rr x.1 x.2) y.1 y.2=some r) (fun y=>y.1) (N,(0,(Ar2.mk (w64 (1+(Int.tmod (w64 week1) 30))) (w64 (1+(Int.tmod (w64 week1) x2.fWeek)))))) h (Sub.eq rfl ?_ ?_) ?_
           ·(repeat ((conv=>whnf);refine nr ?_));exact trivial
           ·(iterate 4 ((conv=>whnf);refine no ?_));exact trivial
           ·rintro⟨n2,⟨b18,weeks10⟩⟩ hl2;obtain⟨n2,rfl,hl2⟩:=Db hl2;replace hl2:E6 N lines1 ra2 x2 l2 (aj (fun rr x=>E6 N lines1 ra2 x2 l2 rr x.1 x.2) n2) b18 weeks10=some r:=hl2;rw[E6]at hl2;refine ws ?_;(conv=>whnf);refine LnA.mk _ (List.length_map _) ?_;refine wB (fun hc574=>?_) (fun hc574=>?_)
            ·replace hl2:=af hc574 hl2;(conv=>whnf);refine LoopG.unr 3 ?_;(conv=>whnf)
             refine SeqG.mk Unit (fun y=>[(0,.d (.list 1 (List.map D.str lines1))),(7,.ptr 7 b2 0),(10,.ptr 10 b6 0),(11,.sl 80 hd12),(15,.ptr 15 b10 0),(16,.d (I b18)),(17,.i .i64 0)]) (fun y=>[(7,.cells b2 [.d (.list 1 (List.map I ra2.fBowlers)),.d (.list 2 (List.map DeskLane.enc ra2.fLanes)),.d (.list 1 (List.map eL ra2.fKept)),.d (.list 6 (List.map RateSheet.enc ra2.fSheets)),.d (.list 1 (List.map I ra2.fWithdrawn)),.d (.list 3 (List.map LadderResult.enc ra2.fResults))]),(10,.cells b6 [.d (I x2.fNumber),.d (I x2.fBowler),.d (I x2.fWeek),.d (I x2.fGames.a0),.d (I x2.fGames.a1),.d (I x2.fGames.a2)]),(80,.arr hd12 9 1 true (List.map D.str l2)),(15,.cells b10 [.d (I weeks10.a0),.d (I weeks10.a1)])]) (fun y=>Fs N lines1 x2 l2 b18 weeks10 (aj (fun rr x=>E6 N lines1 ra2 x2 l2 rr x.1 x.2) n2)=some r) ?_ ?_
             ·(conv=>whnf)
              refine SeqG.mk Unit (fun y=>[(0,.d (.list 1 (List.map D.str lines1))),(7,.ptr 7 b2 0),(10,.ptr 10 b6 0),(11,.sl 80 hd12),(15,.ptr 15 b10 0),(16,.d (I b18)),(17,.i .i64 0)]) (fun y=>[(7,.cells b2 [.d (.list 1 (List.map I ra2.fBowlers)),.d (.list 2 (List.map DeskLane.enc ra2.fLanes)),.d (.list 1 (List.map eL ra2.fKept)),.d (.list 6 (List.map RateSheet.enc ra2.fSheets)),.d (.list 1 (List.map I ra2.fWithdrawn)),.d (.list 3 (List.map LadderResult.enc ra2.fResults))]),(10,.cells b6 [.d (I x2.fNumber),.d (I x2.fBowler),.d (I x2.fWeek),.d (I x2.fGames.a0),.d (I x2.fGames.a1),.d (I x2.fGames.a2)]),(80,.arr hd12 9 1 true (List.map D.str l2)),(15,.cells b10 [.d (I weeks10.a0),.d (I weeks10.a1)])]) (fun y=>Fz N lines1 x2 l2 b18 weeks10 (aj (fun rr x=>E6 N lines1 ra2 x2 l2 rr x.1 x.2) n2)=some r) ?_ ?_
              ·obtain⟨v300,hx576,hl2⟩:=ab hl2;(conv=>whnf);refine SeqG.mk Unit (fun y=>[(0,.d (.list 1 (List.map D.str lines1))),(7,.ptr 7 b2 0),(10,.ptr 10 b6 0),(11,.sl 80 hd12),(15,.ptr 15 b10 0),(16,.d (I b18)),(17,.i .i64 0),(152,.d (.bool v300))]) (fun y=>[(7,.cells b2 [.d (.list 1 (List.map I ra2.fBowlers)),.d (.list 2 (List.map DeskLane.enc ra2.fLanes)),.d (.list 1 (List.map eL ra2.fKept)),.d (.list 6 (List.map RateSheet.enc ra2.fSheets)),.d (.list 1 (List.map I ra2.fWithdrawn)),.d (.list 3 (List.map LadderResult.enc ra2.fResults))]),(10,.cells b6 [.d (I x2.fNumber),.d (I x2.fBowler),.d (I x2.fWeek),.d (I x2.fGames.a0),.d (I x2.fGames.a1),.d (I x2.fGames.a2)]),(80,.arr hd12 9 1 true (List.map D.str l2)),(15,.cells b10 [.d (I weeks10.a0),.d (I weeks10.a1)])]) (fun _=>True) ?_ ?_
               ·(conv=>whnf);refine DrawG.mk (.take 0 (.take 1 (.take 2 (.take 3 (.take 4 (.spl 145 (.take 5 (.take 6 (.take 7 (.take 8 (.take 9 (.take 10 (.take 11 .done))))))))))))) (by kernel_rfl) ?_;refine ws ?_;refine wB (fun hc677=>?_) (fun hc677=>?_)
                ·replace hx576:=af hc677 hx576;(conv=>whnf);refine IxG.mk 0 rfl (by decide) ?_;(iterate 2 refine ws ?_);cases hx576;(conv=>whnf);exact⟨(),trivial,xT⟩
                ·replace hx576:=ag hc677 hx576;cases hx576;(conv=>whnf);exact⟨(),trivial,xT⟩
               ·rintro _ _;refine wB (fun hc678=>?_) (fun hc678=>?_)
                ·replace hl2:=af hc678 hl2;(conv=>whnf);exact⟨(),hl2,xT⟩
                ·replace hl2:=ag hc678 hl2;(conv=>whnf);exact⟨(),hl2,xT⟩
              ·rintro _ h;unfold Fz at h;obtain⟨r214,hx569,h⟩:=ab h;obtain⟨⟨ra194,rb194,rc194⟩,hx570,h⟩:=ab h;(conv=>whnf);refine DrawG.mk (.take 0 (.take 2 (.take 3 (.take 4 (.take 5 (.alt 1 [5,4,3,2] (.alt 6 [4,3] (.take 7 (.take 8 (.take 9 (.take 10 (.take 11 (.take 12 (.take 13 .done))))))) .nil) .nil)))))) (by kernel_rfl) ?_;(conv=>whnf);refine IxG.mk 0 rfl (by decide) ?_;refine ws ?_;refine wb ?_;(conv=>whnf);refine CallG.fresh 155 (sv hN hx569) ?_;intro hd394;refine ws ?_;refine wl ?_;(conv=>whnf);refine IxG.mk 0 rfl (by decide) ?_;(iterate 3 refine wl ?_);refine wb ?_;refine ws ?_;(conv=>whnf);refine CallG.pure _ (sq hN hx570) ?_;(conv=>whnf)
               refine IxG.mk 0 rfl (by decide) ?_;(iterate 2 refine wl ?_);obtain⟨r216,hx573,h⟩:=ab h;obtain⟨⟨ra196,rb196,rc196⟩,hx574,h⟩:=ab h;(conv=>whnf);refine DrawG.mk (.take 0 (.take 2 (.take 3 (.take 4 (.take 5 (.alt 1 [5,4,3,2] (.alt 6 [4,3] (.take 7 (.take 8 (.take 9 (.take 10 (.take 11 (.take 12 (.take 13 .done))))))) .nil) .nil)))))) (by kernel_rfl) ?_;(conv=>whnf);refine IxG.mk 0 rfl (by decide) ?_;refine ws ?_;refine wb ?_;refine ws ?_;(conv=>whnf);refine CallG.fresh 166 (sv hN hx573) ?_;intro hd398;refine ws ?_;refine wl ?_;(conv=>whnf);refine IxG.mk 0 rfl (by decide) ?_;(iterate 3 refine wl ?_);refine wb ?_;refine ws ?_;(conv=>whnf)
               refine CallG.pure _ (sq hN hx574) ?_;(conv=>whnf);refine IxG.mk 0 rfl (by decide) ?_;(iterate 2 refine wl ?_);obtain⟨v298,hx575,h⟩:=ab h;(conv=>whnf)
               refine SeqG.mk Unit (fun y=>[(0,.d (.list 1 (List.map D.str lines1))),(7,.ptr 7 b2 0),(10,.ptr 10 b6 0),(11,.sl 80 hd12),(15,.ptr 15 b10 0),(16,.d (I b18)),(17,.i .i64 0),(190,.d (.bool v298))]) (fun y=>[(7,.cells b2 [.d (.list 1 (List.map I ra2.fBowlers)),.d (.list 2 (List.map DeskLane.enc ra2.fLanes)),.d (.list 1 (List.map eL ra2.fKept)),.d (.list 6 (List.map RateSheet.enc ra2.fSheets)),.d (.list 1 (List.map I ra2.fWithdrawn)),.d (.list 3 (List.map LadderResult.enc ra2.fResults))]),(10,.cells b6 [.d (I x2.fNumber),.d (I x2.fBowler),.d (I x2.fWeek),.d (I x2.fGames.a0),.d (I x2.fGames.a1),.d (I x2.fGames.a2)]),(80,.arr hd12 9 1 true (List.map D.str l2)),(15,.cells b10 [.d (I weeks10.a0),.d (I weeks10.a1)])]) (fun _=>True) ?_ ?_
               ·refine wB (fun hc672=>?_) (fun hc672=>?_)
                ·replace hx575:=ag hc672 hx575;refine wB (fun hc673=>?_) (fun hc673=>?_)
                 ·replace hx575:=ag hc673 hx575;refine wB (fun hc674=>?_) (fun hc674=>?_)
                  ·replace hx575:=ag hc674 hx575;cases hx575;(conv=>whnf);exact⟨(),trivial,xT⟩
                  ·replace hx575:=af hc674 hx575;cases hx575;(conv=>whnf);exact⟨(),trivial,xT⟩
                 ·replace hx575:=af hc673 hx575;cases hx575;(conv=>whnf);exact⟨(),trivial,xT⟩
                ·replace hx575:=af hc672 hx575;cases hx575;(conv=>whnf);exact⟨(),trivial,xT⟩
               ·rintro _ _;refine wB (fun hc675=>?_) (fun hc675=>?_)
                ·replace h:=af hc675 h;(conv=>whnf);cases h;exact rfl
                ·replace h:=ag hc675 h;(conv=>whnf);exact⟨(),h,xT⟩
             ·rintro _ h;unfold Fs at h;(conv=>whnf)
              refine SeqG.mk Unit (fun y=>[(0,.d (.list 1 (List.map D.str lines1))),(7,.ptr 7 b2 0),(10,.ptr 10 b6 0),(11,.sl 80 hd12),(15,.ptr 15 b10 0),(16,.d (I b18)),(17,.i .i64 1)]) (fun y=>[(7,.cells b2 [.d (.list 1 (List.map I ra2.fBowlers)),.d (.list 2 (List.map DeskLane.enc ra2.fLanes)),.d (.list 1 (List.map eL ra2.fKept)),.d (.list 6 (List.map RateSheet.enc ra2.fSheets)),.d (.list 1 (List.map I ra2.fWithdrawn)),.d (.list 3 (List.map LadderResult.enc ra2.fResults))]),(10,.cells b6 [.d (I x2.fNumber),.d (I x2.fBowler),.d (I x2.fWeek),.d (I x2.fGames.a0),.d (I x2.fGames.a1),.d (I x2.fGames.a2)]),(80,.arr hd12 9 1 true (List.map D.str l2)),(15,.cells b10 [.d (I weeks10.a0),.d (I weeks10.a1)])]) (fun y=>Fr N b18 weeks10 (aj (fun rr x=>E6 N lines1 ra2 x2 l2 rr x.1 x.2) n2)=some r) ?_ ?_
              ·(conv=>whnf)
               refine SeqG.mk Unit (fun y=>[(0,.d (.list 1 (List.map D.str lines1))),(7,.ptr 7 b2 0),(10,.ptr 10 b6 0),(11,.sl 80 hd12),(15,.ptr 15 b10 0),(16,.d (I b18)),(17,.i .i64 1)]) (fun y=>[(7,.cells b2 [.d (.list 1 (List.map I ra2.fBowlers)),.d (.list 2 (List.map DeskLane.enc ra2.fLanes)),.d (.list 1 (List.map eL ra2.fKept)),.d (.list 6 (List.map RateSheet.enc ra2.fSheets)),.d (.list 1 (List.map I ra2.fWithdrawn)),.d (.list 3 (List.map LadderResult.enc ra2.fResults))]),(10,.cells b6 [.d (I x2.fNumber),.d (I x2.fBowler),.d (I x2.fWeek),.d (I x2.fGames.a0),.d (I x2.fGames.a1),.d (I x2.fGames.a2)]),(80,.arr hd12 9 1 true (List.map D.str l2)),(15,.cells b10 [.d (I weeks10.a0),.d (I weeks10.a1)])]) (fun y=>Fy N lines1 l2 b18 weeks10 (aj (fun rr x=>E6 N lines1 ra2 x2 l2 rr x.1 x.2) n2)=some r) ?_ ?_
               ·obtain⟨v294,hx565,h⟩:=ab h;(conv=>whnf);refine SeqG.mk Unit (fun y=>[(0,.d (.list 1 (List.map D.str lines1))),(7,.ptr 7 b2 0),(10,.ptr 10 b6 0),(11,.sl 80 hd12),(15,.ptr 15 b10 0),(16,.d (I b18)),(17,.i .i64 1),(152,.d (.bool v294))]) (fun y=>[(7,.cells b2 [.d (.list 1 (List.map I ra2.fBowlers)),.d (.list 2 (List.map DeskLane.enc ra2.fLanes)),.d (.list 1 (List.map eL ra2.fKept)),.d (.list 6 (List.map RateSheet.enc ra2.fSheets)),.d (.list 1 (List.map I ra2.fWithdrawn)),.d (.list 3 (List.map LadderResult.enc ra2.fResults))]),(10,.cells b6 [.d (I x2.fNumber),.d (I x2.fBowler),.d (I x2.fWeek),.d (I x2.fGames.a0),.d (I x2.fGames.a1),.d (I x2.fGames.a2)]),(80,.arr hd12 9 1 true (List.map D.str l2)),(15,.cells b10 [.d (I weeks10.a0),.d (I weeks10.a1)])]) (fun _=>True) ?_ ?_
                ·(conv=>whnf);refine DrawG.mk (.take 0 (.take 1 (.take 2 (.take 3 (.take 4 (.spl 145 (.take 5 (.take 6 (.take 7 (.take 8 (.take 9 (.take 10 (.take 11 .done))))))))))))) (by kernel_rfl) ?_;refine ws ?_;refine wB (fun hc664=>?_) (fun hc664=>?_)
                 ·replace hx565:=af hc664 hx565;(conv=>whnf);refine IxG.mk 1 rfl (by decide) ?_;(iterate 2 refine ws ?_);cases hx565;(conv=>whnf);exact⟨(),trivial,xT⟩
                 ·replace hx565:=ag hc664 hx565;cases hx565;(conv=>whnf);exact⟨(),trivial,xT⟩
                ·rintro _ _;refine wB (fun hc665=>?_) (fun hc665=>?_)
                 ·replace h:=af hc665 h;(conv=>whnf);exact⟨(),h,xT⟩
                 ·replace h:=ag hc665 h;(conv=>whnf);exact⟨(),h,xT⟩
               ·clear h;rintro _ h;unfold Fy at h;obtain⟨r210,hx558,h⟩:=ab h;obtain⟨⟨ra190,rb190,rc190⟩,hx559,h⟩:=ab h;(conv=>whnf);refine DrawG.mk (.take 0 (.take 2 (.take 3 (.take 4 (.take 5 (.alt 1 [5,4,3,2] (.alt 6 [4,3] (.take 7 (.take 8 (.take 9 (.take 10 (.take 11 (.take 12 (.take 13 .done))))))) .nil) .nil)))))) (by kernel_rfl) ?_;(conv=>whnf);refine IxG.mk 1 rfl (by decide) ?_;refine ws ?_;refine wb ?_;(conv=>whnf);refine CallG.fresh 155 (sv hN hx558) ?_;intro hd386;refine ws ?_;refine wl ?_;(conv=>whnf);refine IxG.mk 1 rfl (by decide) ?_;(iterate 3 refine wl ?_);refine wb ?_;refine ws ?_;(conv=>whnf);refine CallG.pure _ (sq hN hx559) ?_;(conv=>whnf)
                refine IxG.mk 1 rfl (by decide) ?_;(iterate 2 refine wl ?_);obtain⟨r212,hx562,h⟩:=ab h;obtain⟨⟨ra192,rb192,rc192⟩,hx563,h⟩:=ab h;(conv=>whnf);refine DrawG.mk (.take 0 (.take 2 (.take 3 (.take 4 (.take 5 (.alt 1 [5,4,3,2] (.alt 6 [4,3] (.take 7 (.take 8 (.take 9 (.take 10 (.take 11 (.take 12 (.take 13 .done))))))) .nil) .nil)))))) (by kernel_rfl) ?_;(conv=>whnf);refine IxG.mk 1 rfl (by decide) ?_;refine ws ?_;refine wb ?_;refine ws ?_;(conv=>whnf);refine CallG.fresh 166 (sv hN hx562) ?_;intro hd390;refine ws ?_;refine wl ?_;(conv=>whnf);refine IxG.mk 1 rfl (by decide) ?_;(iterate 3 refine wl ?_);refine wb ?_;refine ws ?_;(conv=>whnf)
                refine CallG.pure _ (sq hN hx563) ?_;(conv=>whnf);refine IxG.mk 1 rfl (by decide) ?_;(iterate 2 refine wl ?_);obtain⟨v292,hx564,h⟩:=ab h;(conv=>whnf)
                refine SeqG.mk Unit (fun y=>[(0,.d (.list 1 (List.map D.str lines1))),(7,.ptr 7 b2 0),(10,.ptr 10 b6 0),(11,.sl 80 hd12),(15,.ptr 15 b10 0),(16,.d (I b18)),(17,.i .i64 1),(190,.d (.bool v292))]) (fun y=>[(7,.cells b2 [.d (.list 1 (List.map I ra2.fBowlers)),.d (.list 2 (List.map DeskLane.enc ra2.fLanes)),.d (.list 1 (List.map eL ra2.fKept)),.d (.list 6 (List.map RateSheet.enc ra2.fSheets)),.d (.list 1 (List.map I ra2.fWithdrawn)),.d (.list 3 (List.map LadderResult.enc ra2.fResults))]),(10,.cells b6 [.d (I x2.fNumber),.d (I x2.fBowler),.d (I x2.fWeek),.d (I x2.fGames.a0),.d (I x2.fGames.a1),.d (I x2.fGames.a2)]),(80,.arr hd12 9 1 true (List.map D.str l2)),(15,.cells b10 [.d (I weeks10.a0),.d (I weeks10.a1)])]) (fun _=>True) ?_ ?_
                ·refine wB (fun hc659=>?_) (fun hc659=>?_)
                 ·replace hx564:=ag hc659 hx564;refine wB (fun hc660=>?_) (fun hc660=>?_)
                  ·replace hx564:=ag hc660 hx564;refine wB (fun hc661=>?_) (fun hc661=>?_)
                   ·replace hx564:=ag hc661 hx564;cases hx564;(conv=>whnf);exact⟨(),trivial,xT⟩
                   ·replace hx564:=af hc661 hx564;cases hx564;(conv=>whnf);exact⟨(),trivial,xT⟩
                  ·replace hx564:=af hc660 hx564;cases hx564;(conv=>whnf);exact⟨(),trivial,xT⟩
                 ·replace hx564:=af hc659 hx564;cases hx564;(conv=>whnf);exact⟨(),trivial,xT⟩
                ·rintro _ _;refine wB (fun hc662=>?_) (fun hc662=>?_)
                 ·replace h:=af hc662 h;(conv=>whnf);cases h;exact rfl
                 ·replace h:=ag hc662 h;(conv=>whnf);exact⟨(),h,xT⟩
              ·clear h;rintro _ h;unfold Fr at h;(conv=>whnf);exact⟨(n2,(w64 (b18+1),weeks10)),h,xT,Nat.lt_succ_self _⟩
            ·replace hl2:=ag hc574 hl2;(conv=>whnf);exact⟨(),hl2,xT⟩
          ·clear h;rintro _ h;unfold Fx at h;obtain⟨r120,hx312,h⟩:=ab h;(conv=>whnf);refine CallG.pure _ (jR hN hx312) ?_;(conv=>whnf);cases h;exact rfl
end Go.Proofs.YtkbeeloccdfomaaGreatDoor
