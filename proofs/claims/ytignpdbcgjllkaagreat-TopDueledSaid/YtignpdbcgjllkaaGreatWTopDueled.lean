/-
  The walk of the law TopDueled.
-/
import Derived.Test.YtignpdbcgjllkaaGreatDTopDueled
import Derived.Test.YtignpdbcgjllkaaGreatWe
import Derived.Test.YtignpdbcgjllkaaGreatVa
import Derived.Test.YtignpdbcgjllkaaGreatVb
import Derived.Test.YtignpdbcgjllkaaGreatVd
import Derived.Test.YtignpdbcgjllkaaGreatVe
namespace Go.Proofs.YtignpdbcgjllkaaGreat
open Go Go.Abs Go.Kp
set_option maxRecDepth 100000
set_option maxHeartbeats 8000000
set_option linter.all false
theorem kingpintopTopDueledC {N : Nat} (hN : N ≤ 1073741824) {b1 : Ref07Book} {form1 : Int} {r : Bool} (h : kingpintopTopDueled N b1 form1 = some r) :
    ACalls Tryz.prog 3 [.d (.agg [I b1.fLaw.fBase, I b1.fLaw.fPercent, I b1.fLaw.fCap, I b1.fLaw.fLeast, I b1.fLaw.fBlind, .list 1 (List.map I b1.fBowlers), .list 6 (List.map Ref07Sheet.enc b1.fSheets), .list 1 (List.map I b1.fWithdrawn)]), .d (.int .u8 form1)] [] fun e os => e = .ret (.d (.bool r)) ∧ os = [] := by
  refine acalls_f (fresh := false) tt_ok dr_ok ⟨[2], [], [], [], [2, 9, 12, 13, 24, 27, 1005, 1016], 0, []⟩ Tryz.func3 rfl Tryz.call3 rfl ?_
  unfold kingpintopTopDueled at h
  (conv=>whnf);refine LnA.mk _ (List.length_map _) ?_;obtain ⟨⟨n2, v2⟩, hx10, h⟩ := obind h;(conv=>whnf);refine SeqG.mk Unit (fun y => [(1, .d (.int .u8 form1)), (2, .d (.ref (.agg [I b1.fLaw.fBase, I b1.fLaw.fPercent, I b1.fLaw.fCap, I b1.fLaw.fLeast, I b1.fLaw.fBlind, .list 1 (List.map I b1.fBowlers), .list 6 (List.map Ref07Sheet.enc b1.fSheets), .list 1 (List.map I b1.fWithdrawn)]))), (5, .d (I n2)), (37, .d (.bool v2))]) (fun y => []) (fun _ => True) ?_ ?_
  ·obtain ⟨r9, hx11, hx10⟩ := obind hx10;(conv=>whnf);refine CallG.pure _ (law07ThinC hN hx11) ?_;(conv=>whnf);refine Br.mk (fun hc8 => ?_) (fun hc8 => ?_)
   ·replace hx10 := ite_f hc8 hx10;obtain ⟨r10, hx12, hx10⟩ := obind hx10;(conv=>whnf);refine CallG.pure _ (ref07FaultC hN hx12) ?_;(conv=>whnf);refine Br.mk (fun hc9 => ?_) (fun hc9 => ?_)
    ·replace hx10 := ite_f hc9 hx10;cases hx10;(conv=>whnf);refine ⟨(), trivial, Sub.eq rfl ?_ ?_⟩
     ·(repeat ((conv=>whnf);refine nr ?_));exact trivial
     ·exact trivial
    ·replace hx10 := ite_t hc9 hx10;cases hx10;(conv=>whnf);refine ⟨(), trivial, Sub.eq rfl ?_ ?_⟩
     ·(repeat ((conv=>whnf);refine nr ?_));exact trivial
     ·exact trivial
   ·replace hx10 := ite_t hc8 hx10;cases hx10;(conv=>whnf);refine ⟨(), trivial, Sub.eq rfl ?_ ?_⟩
    ·(repeat ((conv=>whnf);refine nr ?_));exact trivial
    ·exact trivial
  ·rintro _ _;(conv=>whnf);refine Br.mk (fun hc10 => ?_) (fun hc10 => ?_)
   ·replace h := ite_t hc10 h;obtain ⟨r12, hx14, h⟩ := obind h;(conv=>whnf);refine CallG.pure _ (kingpintopDueledC hN hx14) ?_;(conv=>whnf);cases h;exact rfl
   ·replace h := ite_f hc10 h;(conv=>whnf);refine Need.mk (by decide) ?_;(conv=>whnf);intro b3;(conv=>whnf);refine sr ?_;(conv=>whnf);refine SeqG.mk (Int × (List Ref09Result) × Value) (fun y => [(6, .ptr 6 b3 0)]) (fun y => [(6, .cells b3 [.d (.int .u8 y.1), .d (I n2), .d (I 1), .sl 112 y.2.2]), (112, .arr y.2.2 52 3 true (List.map Ref09Result.enc y.2.1))]) (fun y => kingpintopTopDueled_k1 N n2 y.1 y.2.1 = some r) ?_ ?_
    ·(conv=>whnf);refine LoopG.mk (Nat × (Int × Int × (List Ref09Result)) × Value) (fun y => [(2, .d (.ref (.agg [I b1.fLaw.fBase, I b1.fLaw.fPercent, I b1.fLaw.fCap, I b1.fLaw.fLeast, I b1.fLaw.fBlind, .list 1 (List.map I b1.fBowlers), .list 6 (List.map Ref07Sheet.enc b1.fSheets), .list 1 (List.map I b1.fWithdrawn)]))), (5, .d (I n2)), (6, .ptr 6 b3 0), (7, .d (I y.2.1.1))]) (fun y => [(6, .cells b3 [.d (.int .u8 y.2.1.2.1), .d (I n2), .d (I 1), .sl 112 y.2.2]), (112, .arr y.2.2 52 3 true (List.map Ref09Result.enc y.2.1.2.2))]) (fun y => loopN (fun rr x => kingpintopTopDueled_b2 N b1 n2 rr x.1 x.2.1 x.2.2) y.1 y.2.1 = some r) (fun y => y.1) (N, (0, Int.tmod form1 2, []), (.slice none 0 0)) h (Sub.eq rfl ?_ ?_) ?_
     ·(repeat ((conv=>whnf);refine nr ?_));exact trivial
     ·(conv=>whnf);refine Need.mk (OLe.cells _ _ _ (by repeat (first | exact trivial | ((conv => whnf); refine Need.mk rfl ?_)))) ?_;(conv=>whnf);refine Need.mk (OLe.nil _ _ _ _) ?_;exact trivial
     ·rintro ⟨n4, ⟨k12, c15, l27⟩, hd391⟩ hl2;obtain ⟨n4, rfl, hl2⟩ := loopN_some hl2;replace hl2 : kingpintopTopDueled_b2 N b1 n2 (loopN (fun rr x => kingpintopTopDueled_b2 N b1 n2 rr x.1 x.2.1 x.2.2) n4) k12 c15 l27 = some r := hl2;rw [kingpintopTopDueled_b2] at hl2;(conv=>whnf);refine Br.mk (fun hc276 => ?_) (fun hc276 => ?_)
      ·replace hl2 := ite_t hc276 hl2;(conv=>whnf);refine sr ?_;obtain ⟨r84, hx297, hl2⟩ := obind hl2;(conv=>whnf);refine sr ?_;(conv=>whnf);refine CallG.pure _ (law09CupC hN hx297) ?_;obtain ⟨⟨ra70, rb70⟩, hx298, hl2⟩ := obind hl2;(conv=>whnf);refine CallG.pure _ (ladderNextC hN hx298) ?_;obtain ⟨v67, hx300, hl2⟩ := obind hl2;(conv=>whnf);refine SeqG.mk Unit (fun y => [(2, .d (.ref (.agg [I b1.fLaw.fBase, I b1.fLaw.fPercent, I b1.fLaw.fCap, I b1.fLaw.fLeast, I b1.fLaw.fBlind, .list 1 (List.map I b1.fBowlers), .list 6 (List.map Ref07Sheet.enc b1.fSheets), .list 1 (List.map I b1.fWithdrawn)]))), (5, .d (I n2)), (6, .ptr 6 b3 0), (7, .d (I k12)), (8, .d (.list 5 (List.map LadderMatch.enc ra70))), (61, .d (.bool v67))]) (fun y => [(6, .cells b3 [.d (.int .u8 c15), .d (I n2), .d (I 1), .sl 112 hd391]), (112, .arr hd391 52 3 true (List.map Ref09Result.enc l27))]) (fun _ => True) ?_ ?_
       ·(conv=>whnf);refine Br.mk (fun hc297 => ?_) (fun hc297 => ?_)
        ·replace hx300 := ite_f hc297 hx300;(conv=>whnf);refine LnA.mk _ (List.length_map _) ?_;cases hx300;(conv=>whnf);refine ⟨(), trivial, Sub.eq rfl ?_ ?_⟩
         ·(repeat ((conv=>whnf);refine nr ?_));exact trivial
         ·(conv=>whnf);refine no ?_;(conv=>whnf);refine no ?_;exact trivial
        ·replace hx300 := ite_t hc297 hx300;cases hx300;(conv=>whnf);refine ⟨(), trivial, Sub.eq rfl ?_ ?_⟩
         ·(repeat ((conv=>whnf);refine nr ?_));exact trivial
         ·(conv=>whnf);refine no ?_;(conv=>whnf);refine no ?_;exact trivial
       ·rintro _ _;(conv=>whnf);refine Br.mk (fun hc298 => ?_) (fun hc298 => ?_)
        ·replace hl2 := ite_t hc298 hl2;(conv=>whnf);cases hl2;exact rfl
        ·replace hl2 := ite_f hc298 hl2;obtain ⟨x36, hx302, hl2⟩ := obind hl2;(conv=>whnf);refine Side.mk rfl ⟨_, idx_0 hx302, idx_map _ hx302, ?_⟩;(conv=>whnf);intro b35;(conv=>whnf);refine sr ?_;obtain ⟨⟨p16, q16, f16⟩, hx305, hl2⟩ := obind hl2;(conv=>whnf)
         refine SeqG.mk Unit (fun y => [(2, .d (.ref (.agg [I b1.fLaw.fBase, I b1.fLaw.fPercent, I b1.fLaw.fCap, I b1.fLaw.fLeast, I b1.fLaw.fBlind, .list 1 (List.map I b1.fBowlers), .list 6 (List.map Ref07Sheet.enc b1.fSheets), .list 1 (List.map I b1.fWithdrawn)]))), (5, .d (I n2)), (6, .ptr 6 b3 0), (7, .d (I k12)), (10, .ptr 10 b35 0), (11, .d (I p16)), (12, .d (I q16)), (13, .d (I f16))]) (fun y => [(6, .cells b3 [.d (.int .u8 c15), .d (I n2), .d (I 1), .sl 112 hd391]), (10, .cells b35 [.d (I x36.fNumber), .d (I x36.fFirst), .d (I x36.fSecond), .d (I x36.fWon), .d (I x36.fLost)]), (112, .arr hd391 52 3 true (List.map Ref09Result.enc l27))]) (fun _ => True) ?_ ?_
         ·obtain ⟨r86, hx306, hx305⟩ := obind hx305;obtain ⟨⟨ra72, rb72, rc32⟩, hx307, hx305⟩ := obind hx305;(conv=>whnf)
          refine DrawG.mk (.take 0 (.take 2 (.take 3 (.take 4 (.take 5 (.take 6 (.take 8 (.take 9 (.alt 1 [9, 8, 6, 5, 4, 3, 2] (.alt 7 [9, 8, 5, 4, 3, 2] (.alt 10 [8, 5, 4, 3, 2] (.alt 11 [8, 5, 3, 2] (.take 12 (.take 13 (.take 14 (.take 15 (.take 16 (.take 17 (.take 18 .done))))))) .nil) .nil) (.alt 10 [8, 6, 5, 4, 3, 2] (.alt 7 [8, 5, 4, 3, 2] (.alt 11 [8, 5, 3, 2] (.take 12 (.take 13 (.take 14 (.take 15 (.take 16 (.take 17 (.take 18 .done))))))) .nil) .nil) .nil)) (.alt 7 [9, 8, 5, 4, 3, 2, 0] (.alt 1 [9, 8, 5, 4, 3, 2] (.alt 10 [8, 5, 4, 3, 2] (.alt 11 [8, 5, 3, 2] (.take 12 (.take 13 (.take 14 (.take 15 (.take 16 (.take 17 (.take 18 .done))))))) .nil) .nil) (.alt 10 [8, 5, 4, 3, 2, 0] (.alt 1 [8, 5, 4, 3, 2] (.alt 11 [8, 5, 3, 2] (.take 12 (.take 13 (.take 14 (.take 15 (.take 16 (.take 17 (.take 18 .done))))))) .nil) .nil) .nil)) (.alt 10 [8, 6, 5, 4, 3, 2, 0] (.alt 1 [8, 6, 5, 4, 3, 2] (.alt 7 [8, 5, 4, 3, 2] (.alt 11 [8, 5, 3, 2] (.take 12 (.take 13 (.take 14 (.take 15 (.take 16 (.take 17 (.take 18 .done))))))) .nil) .nil) (.alt 7 [8, 5, 4, 3, 2, 0] (.alt 1 [8, 5, 4, 3, 2] (.alt 11 [8, 5, 3, 2] (.take 12 (.take 13 (.take 14 (.take 15 (.take 16 (.take 17 (.take 18 .done))))))) .nil) .nil) .nil)) .nil))))))))))) (by kernel_rfl) ?_
          (conv=>whnf);refine sr ?_;(conv=>whnf);refine sr ?_;(conv=>whnf);refine sr ?_;(conv=>whnf);refine Both.mk ?_ ?_
          ·(conv=>whnf);refine CallG.pure _ (law07BookC hN hx306) ?_;(conv=>whnf);refine sr ?_;(conv=>whnf);refine nl ?_;(conv=>whnf);refine nl ?_;(conv=>whnf);refine sr ?_;(conv=>whnf);refine nl ?_;(conv=>whnf);refine nl ?_;(conv=>whnf);refine nl ?_;(conv=>whnf);refine sr ?_;(conv=>whnf);refine nl ?_;(conv=>whnf);refine nl ?_;(conv=>whnf);refine Both.mk ?_ ?_
           ·(conv=>whnf);intro hd433;(conv=>whnf);refine sr ?_;(conv=>whnf);refine nl ?_;(conv=>whnf);refine nl ?_;(conv=>whnf);refine nl ?_;(conv=>whnf);refine nl ?_;(conv=>whnf);refine sr ?_;(conv=>whnf);refine nl ?_;(conv=>whnf);refine nl ?_;(conv=>whnf);refine Both.mk ?_ trivial;(conv=>whnf);intro hd434;(conv=>whnf);refine nl ?_;(conv=>whnf);refine nl ?_;(conv=>whnf);refine nl ?_;(conv=>whnf);refine sr ?_;(conv=>whnf);refine nl ?_;(conv=>whnf);refine nl ?_;(conv=>whnf);refine Both.mk ?_ trivial;(conv=>whnf);refine sr ?_;(conv=>whnf);refine sr ?_;(conv=>whnf);refine CallG.pure _ (rateMatchC hN hx307) ?_;(conv=>whnf);refine nl ?_;(conv=>whnf);refine nl ?_;(conv=>whnf);refine sr ?_;(conv=>whnf);refine nl ?_;(conv=>whnf);refine nl ?_;cases hx305;(conv=>whnf);refine ⟨(), trivial, Sub.eq rfl ?_ ?_⟩
            ·(repeat ((conv=>whnf);refine nr ?_));exact trivial
            ·(conv=>whnf);refine no ?_;(conv=>whnf);refine no ?_;(conv=>whnf);refine no ?_;exact trivial
           ·(conv=>whnf);refine Both.mk ?_ trivial;(conv=>whnf);intro hd435;(conv=>whnf);refine nl ?_;(conv=>whnf);refine sr ?_;(conv=>whnf);refine nl ?_;(conv=>whnf);refine nl ?_;(conv=>whnf);refine nl ?_;(conv=>whnf);refine sr ?_;(conv=>whnf);refine nl ?_;(conv=>whnf);refine nl ?_;(conv=>whnf);refine Both.mk ?_ trivial;(conv=>whnf);intro hd436;(conv=>whnf);refine nl ?_;(conv=>whnf);refine nl ?_;(conv=>whnf);refine nl ?_;(conv=>whnf);refine sr ?_;(conv=>whnf);refine nl ?_;(conv=>whnf);refine nl ?_;(conv=>whnf);refine Both.mk ?_ trivial;(conv=>whnf);refine sr ?_;(conv=>whnf);refine sr ?_;(conv=>whnf);refine CallG.pure _ (rateMatchC hN hx307) ?_;(conv=>whnf);refine nl ?_;(conv=>whnf);refine nl ?_;(conv=>whnf);refine sr ?_;(conv=>whnf);refine nl ?_;(conv=>whnf);refine nl ?_;cases hx305;(conv=>whnf);refine ⟨(), trivial, Sub.eq rfl ?_ ?_⟩
            ·(repeat ((conv=>whnf);refine nr ?_));exact trivial
            ·(conv=>whnf);refine no ?_;(conv=>whnf);refine no ?_;(conv=>whnf);refine no ?_;exact trivial
          ·(conv=>whnf);refine Both.mk ?_ ?_
           ·(conv=>whnf);intro hd437;(conv=>whnf);refine sr ?_;(conv=>whnf);refine nl ?_;(conv=>whnf);refine nl ?_;(conv=>whnf);refine nl ?_;(conv=>whnf);refine nl ?_;(conv=>whnf);refine sr ?_;(conv=>whnf);refine nl ?_;(conv=>whnf);refine nl ?_;(conv=>whnf);refine nl ?_;(conv=>whnf);refine Both.mk ?_ ?_
            ·(conv=>whnf);refine CallG.pure _ (law07BookC hN hx306) ?_;(conv=>whnf);refine sr ?_;(conv=>whnf);refine nl ?_;(conv=>whnf);refine nl ?_;(conv=>whnf);refine nl ?_;(conv=>whnf);refine nl ?_;(conv=>whnf);refine sr ?_;(conv=>whnf);refine nl ?_;(conv=>whnf);refine nl ?_;(conv=>whnf);refine Both.mk ?_ trivial;(conv=>whnf);intro hd438;(conv=>whnf);refine nl ?_;(conv=>whnf);refine nl ?_;(conv=>whnf);refine nl ?_;(conv=>whnf);refine sr ?_;(conv=>whnf);refine nl ?_;(conv=>whnf);refine nl ?_;(conv=>whnf);refine Both.mk ?_ trivial;(conv=>whnf);refine sr ?_;(conv=>whnf);refine sr ?_;(conv=>whnf);refine CallG.pure _ (rateMatchC hN hx307) ?_;(conv=>whnf);refine nl ?_;(conv=>whnf);refine nl ?_;(conv=>whnf);refine sr ?_;(conv=>whnf);refine nl ?_;(conv=>whnf);refine nl ?_;cases hx305;(conv=>whnf);refine ⟨(), trivial, Sub.eq rfl ?_ ?_⟩
             ·(repeat ((conv=>whnf);refine nr ?_));exact trivial
             ·(conv=>whnf);refine no ?_;(conv=>whnf);refine no ?_;(conv=>whnf);refine no ?_;exact trivial
            ·(conv=>whnf);refine Both.mk ?_ trivial;(conv=>whnf);intro hd439;(conv=>whnf);refine nl ?_;(conv=>whnf);refine nl ?_;(conv=>whnf);refine nl ?_;(conv=>whnf);refine sr ?_;(conv=>whnf);refine nl ?_;(conv=>whnf);refine nl ?_;(conv=>whnf);refine nl ?_;(conv=>whnf);refine Both.mk ?_ trivial;(conv=>whnf);refine CallG.pure _ (law07BookC hN hx306) ?_;(conv=>whnf);refine nl ?_;(conv=>whnf);refine nl ?_;(conv=>whnf);refine nl ?_;(conv=>whnf);refine sr ?_;(conv=>whnf);refine nl ?_;(conv=>whnf);refine nl ?_;(conv=>whnf);refine Both.mk ?_ trivial;(conv=>whnf);refine sr ?_;(conv=>whnf);refine sr ?_;(conv=>whnf);refine CallG.pure _ (rateMatchC hN hx307) ?_;(conv=>whnf);refine nl ?_;(conv=>whnf);refine nl ?_;(conv=>whnf);refine sr ?_;(conv=>whnf);refine nl ?_;(conv=>whnf);refine nl ?_;cases hx305;(conv=>whnf);refine ⟨(), trivial, Sub.eq rfl ?_ ?_⟩
             ·(repeat ((conv=>whnf);refine nr ?_));exact trivial
             ·(conv=>whnf);refine no ?_;(conv=>whnf);refine no ?_;(conv=>whnf);refine no ?_;exact trivial
           ·(conv=>whnf);refine Both.mk ?_ trivial;(conv=>whnf);intro hd440;(conv=>whnf);refine nl ?_;(conv=>whnf);refine sr ?_;(conv=>whnf);refine nl ?_;(conv=>whnf);refine nl ?_;(conv=>whnf);refine nl ?_;(conv=>whnf);refine sr ?_;(conv=>whnf);refine nl ?_;(conv=>whnf);refine nl ?_;(conv=>whnf);refine nl ?_;(conv=>whnf);refine Both.mk ?_ ?_
            ·(conv=>whnf);refine CallG.pure _ (law07BookC hN hx306) ?_;(conv=>whnf);refine nl ?_;(conv=>whnf);refine sr ?_;(conv=>whnf);refine nl ?_;(conv=>whnf);refine nl ?_;(conv=>whnf);refine nl ?_;(conv=>whnf);refine sr ?_;(conv=>whnf);refine nl ?_;(conv=>whnf);refine nl ?_;(conv=>whnf);refine Both.mk ?_ trivial;(conv=>whnf);intro hd441;(conv=>whnf);refine nl ?_;(conv=>whnf);refine nl ?_;(conv=>whnf);refine nl ?_;(conv=>whnf);refine sr ?_;(conv=>whnf);refine nl ?_;(conv=>whnf);refine nl ?_;(conv=>whnf);refine Both.mk ?_ trivial;(conv=>whnf);refine sr ?_;(conv=>whnf);refine sr ?_;(conv=>whnf);refine CallG.pure _ (rateMatchC hN hx307) ?_;(conv=>whnf);refine nl ?_;(conv=>whnf);refine nl ?_;(conv=>whnf);refine sr ?_;(conv=>whnf);refine nl ?_;(conv=>whnf);refine nl ?_;cases hx305;(conv=>whnf);refine ⟨(), trivial, Sub.eq rfl ?_ ?_⟩
             ·(repeat ((conv=>whnf);refine nr ?_));exact trivial
             ·(conv=>whnf);refine no ?_;(conv=>whnf);refine no ?_;(conv=>whnf);refine no ?_;exact trivial
            ·(conv=>whnf);refine Both.mk ?_ trivial;(conv=>whnf);intro hd442;(conv=>whnf);refine nl ?_;(conv=>whnf);refine nl ?_;(conv=>whnf);refine nl ?_;(conv=>whnf);refine sr ?_;(conv=>whnf);refine nl ?_;(conv=>whnf);refine nl ?_;(conv=>whnf);refine nl ?_;(conv=>whnf);refine Both.mk ?_ trivial;(conv=>whnf);refine CallG.pure _ (law07BookC hN hx306) ?_;(conv=>whnf);refine nl ?_;(conv=>whnf);refine nl ?_;(conv=>whnf);refine nl ?_;(conv=>whnf);refine sr ?_;(conv=>whnf);refine nl ?_;(conv=>whnf);refine nl ?_;(conv=>whnf);refine Both.mk ?_ trivial;(conv=>whnf);refine sr ?_;(conv=>whnf);refine sr ?_;(conv=>whnf);refine CallG.pure _ (rateMatchC hN hx307) ?_;(conv=>whnf);refine nl ?_;(conv=>whnf);refine nl ?_;(conv=>whnf);refine sr ?_;(conv=>whnf);refine nl ?_;(conv=>whnf);refine nl ?_;cases hx305;(conv=>whnf);refine ⟨(), trivial, Sub.eq rfl ?_ ?_⟩
             ·(repeat ((conv=>whnf);refine nr ?_));exact trivial
             ·(conv=>whnf);refine no ?_;(conv=>whnf);refine no ?_;(conv=>whnf);refine no ?_;exact trivial
         ·rintro _ _;obtain ⟨v69, hx309, hl2⟩ := obind hl2;(conv=>whnf);refine SeqG.mk Unit (fun y => [(2, .d (.ref (.agg [I b1.fLaw.fBase, I b1.fLaw.fPercent, I b1.fLaw.fCap, I b1.fLaw.fLeast, I b1.fLaw.fBlind, .list 1 (List.map I b1.fBowlers), .list 6 (List.map Ref07Sheet.enc b1.fSheets), .list 1 (List.map I b1.fWithdrawn)]))), (5, .d (I n2)), (6, .ptr 6 b3 0), (7, .d (I k12)), (10, .ptr 10 b35 0), (11, .d (I p16)), (12, .d (I q16)), (88, .d (.bool v69))]) (fun y => [(6, .cells b3 [.d (.int .u8 c15), .d (I n2), .d (I 1), .sl 112 hd391]), (10, .cells b35 [.d (I x36.fNumber), .d (I x36.fFirst), .d (I x36.fSecond), .d (I x36.fWon), .d (I x36.fLost)]), (112, .arr hd391 52 3 true (List.map Ref09Result.enc l27))]) (fun _ => True) ?_ ?_
          ·(conv=>whnf);refine Br.mk (fun hc303 => ?_) (fun hc303 => ?_)
           ·replace hx309 := ite_f hc303 hx309;cases hx309;(conv=>whnf);refine ⟨(), trivial, Sub.eq rfl ?_ ?_⟩
            ·(repeat ((conv=>whnf);refine nr ?_));exact trivial
            ·(conv=>whnf);refine no ?_;(conv=>whnf);refine no ?_;(conv=>whnf);refine no ?_;exact trivial
           ·replace hx309 := ite_t hc303 hx309;cases hx309;(conv=>whnf);refine ⟨(), trivial, Sub.eq rfl ?_ ?_⟩
            ·(repeat ((conv=>whnf);refine nr ?_));exact trivial
            ·(conv=>whnf);refine no ?_;(conv=>whnf);refine no ?_;(conv=>whnf);refine no ?_;exact trivial
          ·rintro _ _;(conv=>whnf);refine Br.mk (fun hc304 => ?_) (fun hc304 => ?_)
           ·replace hl2 := ite_t hc304 hl2;(conv=>whnf);cases hl2;exact rfl
           ·replace hl2 := ite_f hc304 hl2;(conv=>whnf);refine sr ?_;(conv=>whnf);refine sr ?_;obtain ⟨w16, hx310, hl2⟩ := obind hl2;(conv=>whnf);refine SeqG.mk Unit (fun y => [(2, .d (.ref (.agg [I b1.fLaw.fBase, I b1.fLaw.fPercent, I b1.fLaw.fCap, I b1.fLaw.fLeast, I b1.fLaw.fBlind, .list 1 (List.map I b1.fBowlers), .list 6 (List.map Ref07Sheet.enc b1.fSheets), .list 1 (List.map I b1.fWithdrawn)]))), (5, .d (I n2)), (6, .ptr 6 b3 0), (7, .d (I k12)), (10, .ptr 10 b35 0), (14, .d (I w16))]) (fun y => [(6, .cells b3 [.d (.int .u8 c15), .d (I n2), .d (I 1), .sl 112 hd391]), (10, .cells b35 [.d (I x36.fNumber), .d (I x36.fFirst), .d (I x36.fSecond), .d (I x36.fWon), .d (I x36.fLost)]), (112, .arr hd391 52 3 true (List.map Ref09Result.enc l27))]) (fun _ => True) ?_ ?_
            ·(conv=>whnf);refine Br.mk (fun hc307 => ?_) (fun hc307 => ?_)
             ·replace hx310 := ite_t hc307 hx310;(conv=>whnf);refine sr ?_;cases hx310;(conv=>whnf);refine ⟨(), trivial, Sub.eq rfl ?_ ?_⟩
              ·(repeat ((conv=>whnf);refine nr ?_));exact trivial
              ·(conv=>whnf);refine no ?_;(conv=>whnf);refine no ?_;(conv=>whnf);refine no ?_;exact trivial
             ·replace hx310 := ite_f hc307 hx310;(conv=>whnf);refine Br.mk (fun hc308 => ?_) (fun hc308 => ?_)
              ·replace hx310 := ite_t hc308 hx310;(conv=>whnf);refine sr ?_;cases hx310;(conv=>whnf);refine ⟨(), trivial, Sub.eq rfl ?_ ?_⟩
               ·(repeat ((conv=>whnf);refine nr ?_));exact trivial
               ·(conv=>whnf);refine no ?_;(conv=>whnf);refine no ?_;(conv=>whnf);refine no ?_;exact trivial
              ·replace hx310 := ite_f hc308 hx310;cases hx310;(conv=>whnf);refine ⟨(), trivial, Sub.eq rfl ?_ ?_⟩
               ·(repeat ((conv=>whnf);refine nr ?_));exact trivial
               ·(conv=>whnf);refine no ?_;(conv=>whnf);refine no ?_;(conv=>whnf);refine no ?_;exact trivial
            ·rintro _ _;(conv=>whnf);refine sr ?_;(conv=>whnf);refine sr ?_;(conv=>whnf);intro hd443;(conv=>whnf);refine sr ?_;(conv=>whnf);intro hd444;obtain ⟨l29, hx311, hl2⟩ := obind hl2;(conv=>whnf);refine Side.mk ⟨rfl, rfl⟩ ?_;(conv=>whnf);refine Side.mk ⟨rfl, rfl, rfl⟩ (Need.mk (app_need hN hx311 (by decide)) (Eqv.mk (List.map Ref09Result.enc l29) (app_map _ hx311) ?_));(conv=>whnf);intro hd445;(conv=>whnf);refine sr ?_;(conv=>whnf);refine ⟨(n4, (w64 (k12 + 1), c15, l29), hd445), hl2, Sub.eq rfl ?_ ?_, Nat.lt_succ_self _⟩
             ·(repeat ((conv=>whnf);refine nr ?_));exact trivial
             ·(conv=>whnf);refine no ?_;(conv=>whnf);refine no ?_;exact trivial
      ·replace hl2 := ite_f hc276 hl2;(conv=>whnf);refine ⟨(c15, l27, hd391), hl2, Sub.eq rfl ?_ ?_⟩
       ·(repeat ((conv=>whnf);refine nr ?_));exact trivial
       ·(conv=>whnf);refine no ?_;(conv=>whnf);refine no ?_;exact trivial
    ·clear h;rintro ⟨c8, l15, hd223⟩ h;unfold kingpintopTopDueled_k1 at h;(conv=>whnf);refine sr ?_;obtain ⟨r46, hx153, h⟩ := obind h;(conv=>whnf);refine sr ?_;(conv=>whnf);refine CallG.pure _ (law09CupC hN hx153) ?_;obtain ⟨⟨ra34, rb34⟩, hx154, h⟩ := obind h;(conv=>whnf);refine CallG.pure _ (ladderNextC hN hx154) ?_;(conv=>whnf);refine sr ?_;obtain ⟨r48, hx157, h⟩ := obind h;(conv=>whnf);refine sr ?_;(conv=>whnf);refine CallG.pure _ (law09CupC hN hx157) ?_;obtain ⟨⟨ra36, rb36⟩, hx158, h⟩ := obind h;(conv=>whnf);refine CallG.pure _ (ladderWinnerC hN hx158) ?_;(conv=>whnf);refine sr ?_;obtain ⟨r50, hx161, h⟩ := obind h;(conv=>whnf);refine sr ?_;(conv=>whnf);refine CallG.pure _ (law09CupC hN hx161) ?_;obtain ⟨⟨ra38, rb38⟩, hx162, h⟩ := obind h;(conv=>whnf);refine CallG.pure _ (ladderMayWinC hN hx162) ?_;obtain ⟨v36, hx167, h⟩ := obind h;(conv=>whnf)
     refine SeqG.mk Unit (fun y => [(6, .ptr 6 b3 0), (17, .d (I ra36)), (158, .d (.bool v36))]) (fun y => [(6, .cells b3 [.d (.int .u8 c8), .d (I n2), .d (I 1), .sl 112 hd223]), (112, .arr hd223 52 3 true (List.map Ref09Result.enc l15))]) (fun _ => True) ?_ ?_
     ·(conv=>whnf);refine Br.mk (fun hc163 => ?_) (fun hc163 => ?_)
      ·replace hx167 := ite_f hc163 hx167;(conv=>whnf);refine LnA.mk _ (List.length_map _) ?_;(conv=>whnf);refine Br.mk (fun hc164 => ?_) (fun hc164 => ?_)
       ·replace hx167 := ite_f hc164 hx167;(conv=>whnf);refine Br.mk (fun hc165 => ?_) (fun hc165 => ?_)
        ·replace hx167 := ite_f hc165 hx167;(conv=>whnf);refine Br.mk (fun hc166 => ?_) (fun hc166 => ?_)
         ·replace hx167 := ite_f hc166 hx167;(conv=>whnf);refine LnA.mk _ (List.length_map _) ?_;(conv=>whnf);refine Br.mk (fun hc167 => ?_) (fun hc167 => ?_)
          ·replace hx167 := ite_f hc167 hx167;obtain ⟨x20, hx168, hx167⟩ := obind hx167;(conv=>whnf);refine Side.mk rfl ⟨_, idx_0 hx168, idx_map _ hx168, ?_⟩;cases hx167;(conv=>whnf);refine ⟨(), trivial, Sub.eq rfl ?_ ?_⟩
           ·(repeat ((conv=>whnf);refine nr ?_));exact trivial
           ·(conv=>whnf);refine no ?_;(conv=>whnf);refine no ?_;exact trivial
          ·replace hx167 := ite_t hc167 hx167;cases hx167;(conv=>whnf);refine ⟨(), trivial, Sub.eq rfl ?_ ?_⟩
           ·(repeat ((conv=>whnf);refine nr ?_));exact trivial
           ·(conv=>whnf);refine no ?_;(conv=>whnf);refine no ?_;exact trivial
         ·replace hx167 := ite_t hc166 hx167;cases hx167;(conv=>whnf);refine ⟨(), trivial, Sub.eq rfl ?_ ?_⟩
          ·(repeat ((conv=>whnf);refine nr ?_));exact trivial
          ·(conv=>whnf);refine no ?_;(conv=>whnf);refine no ?_;exact trivial
        ·replace hx167 := ite_t hc165 hx167;cases hx167;(conv=>whnf);refine ⟨(), trivial, Sub.eq rfl ?_ ?_⟩
         ·(repeat ((conv=>whnf);refine nr ?_));exact trivial
         ·(conv=>whnf);refine no ?_;(conv=>whnf);refine no ?_;exact trivial
       ·replace hx167 := ite_t hc164 hx167;cases hx167;(conv=>whnf);refine ⟨(), trivial, Sub.eq rfl ?_ ?_⟩
        ·(repeat ((conv=>whnf);refine nr ?_));exact trivial
        ·(conv=>whnf);refine no ?_;(conv=>whnf);refine no ?_;exact trivial
      ·replace hx167 := ite_t hc163 hx167;cases hx167;(conv=>whnf);refine ⟨(), trivial, Sub.eq rfl ?_ ?_⟩
       ·(repeat ((conv=>whnf);refine nr ?_));exact trivial
       ·(conv=>whnf);refine no ?_;(conv=>whnf);refine no ?_;exact trivial
     ·rintro _ _;(conv=>whnf);refine Br.mk (fun hc168 => ?_) (fun hc168 => ?_)
      ·replace h := ite_t hc168 h;(conv=>whnf);cases h;exact rfl
      ·replace h := ite_f hc168 h;(conv=>whnf);refine sr ?_;obtain ⟨r52, hx171, h⟩ := obind h;(conv=>whnf);refine sr ?_;(conv=>whnf);refine CallG.pure _ (law09CupC hN hx171) ?_;obtain ⟨⟨ra40, rb40⟩, hx172, h⟩ := obind h;(conv=>whnf);refine CallG.pure _ (ladderUpsetsC hN hx172) ?_;obtain ⟨v37, hx174, h⟩ := obind h;(conv=>whnf);refine SeqG.mk Unit (fun y => [(4, .d (.bool v37))]) (fun y => []) (fun _ => True) ?_ ?_
       ·(conv=>whnf);refine Br.mk (fun hc171 => ?_) (fun hc171 => ?_)
        ·replace hx174 := ite_t hc171 hx174;(conv=>whnf);refine Br.mk (fun hc172 => ?_) (fun hc172 => ?_)
         ·replace hx174 := ite_t hc172 hx174;obtain ⟨r54, hx175, hx174⟩ := obind hx174;(conv=>whnf);refine CallG.pure _ (kingpintopDueledC hN hx175) ?_;cases hx174;(conv=>whnf);refine ⟨(), trivial, Sub.eq rfl ?_ ?_⟩
          ·(repeat ((conv=>whnf);refine nr ?_));exact trivial
          ·exact trivial
         ·replace hx174 := ite_f hc172 hx174;cases hx174;(conv=>whnf);refine ⟨(), trivial, Sub.eq rfl ?_ ?_⟩
          ·(repeat ((conv=>whnf);refine nr ?_));exact trivial
          ·exact trivial
        ·replace hx174 := ite_f hc171 hx174;cases hx174;(conv=>whnf);refine ⟨(), trivial, Sub.eq rfl ?_ ?_⟩
         ·(repeat ((conv=>whnf);refine nr ?_));exact trivial
         ·exact trivial
       ·rintro _ _;(conv=>whnf);cases h;exact rfl
end Go.Proofs.YtignpdbcgjllkaaGreat
