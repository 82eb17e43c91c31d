/-
  Walks: what the typed functions compute, the program’s functions return.
-/
import Derived.Test.YtiaoloodgildeaaGreatDoorWe
import Derived.Test.YtiaoloodgildeaaGreatDoorVa
import Derived.Test.YtiaoloodgildeaaGreatDoorVb
import Derived.Test.YtiaoloodgildeaaGreatDoorVd
import Derived.Test.YtiaoloodgildeaaGreatDoorVe
import Derived.Test.YtiaoloodgildeaaGreatDoorVf
namespace Go.Proofs.YtiaoloodgildeaaGreatDoor
open Go Go.Abs Go.Kp
set_option maxRecDepth 100000
set_option maxHeartbeats 8000000
set_option linter.all false
theorem deskStateCopiedC {N : Nat} (hN : N ≤ 1073741824) {s1 : DeskState} {r : DeskState} (h : deskStateCopied N s1 = some r) :
    ACalls Tryz.prog 62 [.d (.agg [.list 1 (List.map I s1.fBowlers), .list 2 (List.map DeskLane.enc s1.fLanes), .list 1 (List.map eL s1.fKept), .list 6 (List.map RateSheet.enc s1.fSheets), .list 1 (List.map I s1.fWithdrawn), .list 3 (List.map LadderResult.enc s1.fResults)])] [] fun e os => e = .ret (.d (.agg [.list 1 (List.map I r.fBowlers), .list 2 (List.map DeskLane.enc r.fLanes), .list 1 (List.map eL r.fKept), .list 6 (List.map RateSheet.enc r.fSheets), .list 1 (List.map I r.fWithdrawn), .list 3 (List.map LadderResult.enc r.fResults)])) ∧ os = [] := by
  refine acalls_f (fresh := false) tt_ok dr_ok ⟨[1], [], [], [], [1, 1002, 1007, 1012], 0, []⟩ Tryz.func62 rfl Tryz.call62 rfl ?_
  unfold deskStateCopied at h
  (conv=>whnf);intro b2;obtain ⟨⟨c4, c5, c6⟩, hx4, h⟩ := obind h;(conv=>whnf);refine SeqG.mk Nat (fun y => [(1, .d (.ref (.agg [.list 1 (List.map I s1.fBowlers), .list 2 (List.map DeskLane.enc s1.fLanes), .list 1 (List.map eL s1.fKept), .list 6 (List.map RateSheet.enc s1.fSheets), .list 1 (List.map I s1.fWithdrawn), .list 3 (List.map LadderResult.enc s1.fResults)]))), (2, .ptr 2 b2 0), (3, .ptr 3 y 0)]) (fun y => [(2, .cells b2 [.nils 1, .nils 2, .nils 1, .nils 6, .nils 1, .nils 3]), (3, .cells y [.d (.list 1 (List.map I c4)), .nils 2, .nils 1, .d (.list 6 (List.map RateSheet.enc c5)), .d (.list 1 (List.map I c6)), .nils 3])]) (fun _ => True) ?_ ?_
  ·obtain ⟨r4, hx5, hx4⟩ := obind hx4;obtain ⟨r5, hx6, hx4⟩ := obind hx4;obtain ⟨r6, hx7, hx4⟩ := obind hx4;(conv=>whnf);refine DrawG.mk (.take 0 (.take 1 (.take 3 (.take 4 (.take 6 (.take 7 (.alt 2 [7, 6, 4, 3, 0] (.alt 5 [7, 6, 3, 0] (.alt 8 [6, 3, 0] (.alt 9 [6, 3, 0] (.alt 10 [6, 3, 0] (.alt 11 [] .done .nil) .nil) (.alt 10 [6, 3, 0] (.alt 9 [6, 3, 0] (.alt 11 [] .done .nil) .nil) .nil)) (.alt 10 [7, 6, 3, 0] (.alt 8 [6, 3, 0] (.alt 9 [6, 3, 0] (.alt 11 [] .done .nil) .nil) .nil) .nil)) (.alt 10 [7, 6, 4, 3, 0] (.alt 5 [7, 6, 3, 0] (.alt 8 [6, 3, 0] (.alt 9 [6, 3, 0] (.alt 11 [] .done .nil) .nil) .nil) .nil) .nil)) (.alt 10 [7, 6, 4, 3, 1, 0] (.alt 2 [7, 6, 4, 3, 0] (.alt 5 [7, 6, 3, 0] (.alt 8 [6, 3, 0] (.alt 9 [6, 3, 0] (.alt 11 [] .done .nil) .nil) .nil) .nil) .nil) .nil)))))))) (by kernel_rfl) ?_;(conv=>whnf);refine Both.mk ?_ ?_
   ·(conv=>whnf);refine CallG.fresh 12 (slicesCloneC hN hx5) ?_;intro hd16;(iterate 5 ((conv=>whnf);refine nl ?_));(conv=>whnf);refine Both.mk ?_ ?_
    ·(conv=>whnf);refine CallG.fresh 15 (slicesCloneXXXC hN hx6) ?_;intro hd17;(iterate 4 ((conv=>whnf);refine nl ?_));(conv=>whnf);refine Both.mk ?_ ?_
     ·(conv=>whnf);refine CallG.fresh 18 (slicesCloneC hN hx7) ?_;intro hd18;(iterate 3 ((conv=>whnf);refine nl ?_));(conv=>whnf);refine Both.mk ?_ ?_
      ·(iterate 3 ((conv=>whnf);refine sr ?_));(iterate 3 ((conv=>whnf);refine nl ?_));(conv=>whnf);refine Both.mk ?_ trivial;(conv=>whnf);intro b10;(iterate 3 ((conv=>whnf);refine nl ?_));(conv=>whnf);refine Both.mk ?_ trivial;(conv=>whnf);refine sr ?_;cases hx4;(conv=>whnf);refine ⟨b10, trivial, Sub.eq rfl ?_ ?_⟩
       ·(repeat ((conv=>whnf);refine nr ?_));exact trivial
       ·(iterate 2 ((conv=>whnf);refine no ?_));exact trivial
      ·(conv=>whnf);refine Both.mk ?_ trivial;(conv=>whnf);intro b11;(iterate 3 ((conv=>whnf);refine nl ?_));(conv=>whnf);refine Both.mk ?_ trivial;(iterate 3 ((conv=>whnf);refine sr ?_));(iterate 3 ((conv=>whnf);refine nl ?_));(conv=>whnf);refine Both.mk ?_ trivial;(conv=>whnf);refine sr ?_;cases hx4;(conv=>whnf);refine ⟨b11, trivial, Sub.eq rfl ?_ ?_⟩
       ·(repeat ((conv=>whnf);refine nr ?_));exact trivial
       ·(iterate 2 ((conv=>whnf);refine no ?_));exact trivial
     ·(conv=>whnf);refine Both.mk ?_ trivial;(conv=>whnf);intro b12;(iterate 4 ((conv=>whnf);refine nl ?_));(conv=>whnf);refine Both.mk ?_ trivial;(conv=>whnf);refine CallG.fresh 18 (slicesCloneC hN hx7) ?_;intro hd19;(iterate 3 ((conv=>whnf);refine nl ?_));(conv=>whnf);refine Both.mk ?_ trivial;(iterate 3 ((conv=>whnf);refine sr ?_));(iterate 3 ((conv=>whnf);refine nl ?_));(conv=>whnf);refine Both.mk ?_ trivial;(conv=>whnf);refine sr ?_;cases hx4;(conv=>whnf);refine ⟨b12, trivial, Sub.eq rfl ?_ ?_⟩
      ·(repeat ((conv=>whnf);refine nr ?_));exact trivial
      ·(iterate 2 ((conv=>whnf);refine no ?_));exact trivial
    ·(conv=>whnf);refine Both.mk ?_ trivial;(conv=>whnf);intro b13;(iterate 5 ((conv=>whnf);refine nl ?_));(conv=>whnf);refine Both.mk ?_ trivial;(conv=>whnf);refine CallG.fresh 15 (slicesCloneXXXC hN hx6) ?_;intro hd20;(iterate 4 ((conv=>whnf);refine nl ?_));(conv=>whnf);refine Both.mk ?_ trivial;(conv=>whnf);refine CallG.fresh 18 (slicesCloneC hN hx7) ?_;intro hd21;(iterate 3 ((conv=>whnf);refine nl ?_));(conv=>whnf);refine Both.mk ?_ trivial;(iterate 3 ((conv=>whnf);refine sr ?_));(iterate 3 ((conv=>whnf);refine nl ?_));(conv=>whnf);refine Both.mk ?_ trivial;(conv=>whnf);refine sr ?_;cases hx4;(conv=>whnf)
     refine ⟨b13, trivial, Sub.eq rfl ?_ ?_⟩
     ·(repeat ((conv=>whnf);refine nr ?_));exact trivial
     ·(iterate 2 ((conv=>whnf);refine no ?_));exact trivial
   ·(conv=>whnf);refine Both.mk ?_ trivial;(conv=>whnf);intro b14;(iterate 6 ((conv=>whnf);refine nl ?_));(conv=>whnf);refine Both.mk ?_ trivial;(conv=>whnf);refine CallG.fresh 12 (slicesCloneC hN hx5) ?_;intro hd22;(iterate 5 ((conv=>whnf);refine nl ?_));(conv=>whnf);refine Both.mk ?_ trivial;(conv=>whnf);refine CallG.fresh 15 (slicesCloneXXXC hN hx6) ?_;intro hd23;(iterate 4 ((conv=>whnf);refine nl ?_));(conv=>whnf);refine Both.mk ?_ trivial;(conv=>whnf);refine CallG.fresh 18 (slicesCloneC hN hx7) ?_;intro hd24;(iterate 3 ((conv=>whnf);refine nl ?_));(conv=>whnf)
    refine Both.mk ?_ trivial;(iterate 3 ((conv=>whnf);refine sr ?_));(iterate 3 ((conv=>whnf);refine nl ?_));(conv=>whnf);refine Both.mk ?_ trivial;(conv=>whnf);refine sr ?_;cases hx4;(conv=>whnf);refine ⟨b14, trivial, Sub.eq rfl ?_ ?_⟩
    ·(repeat ((conv=>whnf);refine nr ?_));exact trivial
    ·(iterate 2 ((conv=>whnf);refine no ?_));exact trivial
  ·rintro bb2 _;obtain ⟨l11, hx32, h⟩ := obind h;(conv=>whnf);refine SeqG.mk Value (fun y => [(1, .d (.ref (.agg [.list 1 (List.map I s1.fBowlers), .list 2 (List.map DeskLane.enc s1.fLanes), .list 1 (List.map eL s1.fKept), .list 6 (List.map RateSheet.enc s1.fSheets), .list 1 (List.map I s1.fWithdrawn), .list 3 (List.map LadderResult.enc s1.fResults)]))), (2, .ptr 2 b2 0), (3, .ptr 3 bb2 0)]) (fun y => [(2, .cells b2 [.nils 1, .nils 2, .nils 1, .nils 6, .nils 1, .nils 3]), (3, .cells bb2 [.d (.list 1 (List.map I c4)), .sl 36 y, .nils 1, .d (.list 6 (List.map RateSheet.enc c5)), .d (.list 1 (List.map I c6)), .nils 3]), (36, .arr y 81 2 false (List.map DeskLane.enc l11))]) (fun _ => True) ?_ ?_
   ·(conv=>whnf);refine LnA.mk _ (List.length_map _) ?_;(conv=>whnf)
    refine LoopG.mk (Nat × (Int × Int × (List DeskLane)) × Value) (fun y => [(1, .d (.ref (.agg [.list 1 (List.map I s1.fBowlers), .list 2 (List.map DeskLane.enc s1.fLanes), .list 1 (List.map eL s1.fKept), .list 6 (List.map RateSheet.enc s1.fSheets), .list 1 (List.map I s1.fWithdrawn), .list 3 (List.map LadderResult.enc s1.fResults)]))), (2, .ptr 2 b2 0), (3, .ptr 3 bb2 0), (21, .d (.list 2 (List.map DeskLane.enc s1.fLanes))), (22, .d (I y.2.1.1)), (23, .d (I y.2.1.2.1))]) (fun y => [(2, .cells b2 [.nils 1, .nils 2, .nils 1, .nils 6, .nils 1, .nils 3]), (3, .cells bb2 [.d (.list 1 (List.map I c4)), .sl 36 y.2.2, .nils 1, .d (.list 6 (List.map RateSheet.enc c5)), .d (.list 1 (List.map I c6)), .nils 3]), (36, .arr y.2.2 81 2 false (List.map DeskLane.enc y.2.1.2.2))]) (fun y => loopN (fun rr x => deskStateCopied_b1 N s1 rr x.1 x.2.1 x.2.2) y.1 y.2.1 = some l11) (fun y => y.1) (N, ((s1.fLanes.length : Int), 0, []), (.slice none 0 0)) hx32 (Sub.eq rfl ?_ ?_) ?_
    ·(repeat ((conv=>whnf);refine nr ?_));exact trivial
    ·(conv=>whnf);refine no ?_;(conv=>whnf);refine Need.mk (OLe.cells _ _ _ (by repeat (first | exact trivial | ((conv => whnf); refine Need.mk rfl ?_)))) ?_;(conv=>whnf);refine Need.mk (OLe.nil _ _ _ _) ?_;exact trivial
    ·rintro ⟨n2, ⟨v17, v18, l19⟩, hd83⟩ hl2;obtain ⟨n2, rfl, hl2⟩ := loopN_some hl2;replace hl2 : deskStateCopied_b1 N s1 (loopN (fun rr x => deskStateCopied_b1 N s1 rr x.1 x.2.1 x.2.2) n2) v17 v18 l19 = some l11 := hl2;rw [deskStateCopied_b1] at hl2;(conv=>whnf);refine Br.mk (fun hc12 => ?_) (fun hc12 => ?_)
     ·replace hl2 := ite_t hc12 hl2;obtain ⟨x24, hx54, hl2⟩ := obind hl2;(conv=>whnf);refine Side.mk rfl ⟨_, idx_0 hx54, idx_map _ hx54, ?_⟩;(conv=>whnf);intro b38;(conv=>whnf);refine sr ?_;(conv=>whnf);refine DrawG.mk (.take 0 (.take 1 (.take 2 (.take 3 (.take 4 (.take 5 (.alt 6 [4, 3, 2, 1, 0] (.alt 7 [4, 2, 1, 0] (.alt 8 [4, 2, 1, 0] (.alt 9 [4, 2, 0] (.take 10 (.alt 11 [] .done .nil)) .nil) .nil) .nil) .nil))))))) (by kernel_rfl) ?_;(iterate 3 ((conv=>whnf);refine sr ?_));(conv=>whnf);refine Both.mk ?_ trivial;obtain ⟨r18, hx55, hl2⟩ := obind hl2;(conv=>whnf);refine CallG.fresh 33 (slicesCloneC hN hx55) ?_;intro hd89;(conv=>whnf);refine nl ?_;(conv=>whnf);refine sr ?_;(iterate 2 ((conv=>whnf);refine nl ?_));(conv=>whnf);refine sr ?_;(iterate 2 ((conv=>whnf);refine nl ?_));obtain ⟨l21, hx56, hl2⟩ := obind hl2;(conv=>whnf)
      refine Both.mk ?_ trivial;(conv=>whnf);refine sr ?_;(iterate 2 ((conv=>whnf);refine nl ?_));(conv=>whnf);refine sr ?_;(iterate 2 ((conv=>whnf);refine nl ?_));(conv=>whnf);refine Both.mk ?_ trivial;(conv=>whnf);intro hd92;(iterate 2 ((conv=>whnf);refine nl ?_));(conv=>whnf);refine sr ?_;(iterate 2 ((conv=>whnf);refine nl ?_));(conv=>whnf);refine Both.mk ?_ trivial;(conv=>whnf);refine Side.mk ⟨rfl, rfl⟩ ?_;(conv=>whnf);refine Side.mk ⟨rfl, rfl, rfl⟩ (Need.mk (app_need hN hx56 (by decide)) (Eqv.mk (List.map DeskLane.enc l21) (app_map _ hx56) ?_));(conv=>whnf);intro hd93;(iterate 3 ((conv=>whnf);refine nl ?_));(conv=>whnf);refine Both.mk ?_ trivial;(conv=>whnf);refine sr ?_;(conv=>whnf);refine ⟨(n2, (v17, w64 (v18 + 1), l21), hd93), hl2, Sub.eq rfl ?_ ?_, Nat.lt_succ_self _⟩
      ·(repeat ((conv=>whnf);refine nr ?_));exact trivial
      ·(iterate 3 ((conv=>whnf);refine no ?_));exact trivial
     ·replace hl2 := ite_f hc12 hl2;cases hl2;(conv=>whnf);refine ⟨hd83, trivial, Sub.eq rfl ?_ ?_⟩
      ·(repeat ((conv=>whnf);refine nr ?_));exact trivial
      ·(iterate 3 ((conv=>whnf);refine no ?_));exact trivial
   ·rintro hd59 _;obtain ⟨l32, hx81, h⟩ := obind h;(conv=>whnf);refine SeqG.mk Value (fun y => [(1, .d (.ref (.agg [.list 1 (List.map I s1.fBowlers), .list 2 (List.map DeskLane.enc s1.fLanes), .list 1 (List.map eL s1.fKept), .list 6 (List.map RateSheet.enc s1.fSheets), .list 1 (List.map I s1.fWithdrawn), .list 3 (List.map LadderResult.enc s1.fResults)]))), (2, .ptr 2 b2 0), (3, .ptr 3 bb2 0)]) (fun y => [(2, .cells b2 [.nils 1, .nils 2, .nils 1, .nils 6, .nils 1, .nils 3]), (3, .cells bb2 [.d (.list 1 (List.map I c4)), .sl 36 hd59, .sl 51 y, .d (.list 6 (List.map RateSheet.enc c5)), .d (.list 1 (List.map I c6)), .nils 3]), (36, .arr hd59 81 2 false (List.map DeskLane.enc l11)), (51, .arr y 25 1 false (List.map eL l32))]) (fun _ => True) ?_ ?_
    ·(conv=>whnf);refine LnA.mk _ (List.length_map _) ?_;(conv=>whnf)
     refine LoopG.mk (Nat × (Int × Int × (List (List Int))) × Value) (fun y => [(1, .d (.ref (.agg [.list 1 (List.map I s1.fBowlers), .list 2 (List.map DeskLane.enc s1.fLanes), .list 1 (List.map eL s1.fKept), .list 6 (List.map RateSheet.enc s1.fSheets), .list 1 (List.map I s1.fWithdrawn), .list 3 (List.map LadderResult.enc s1.fResults)]))), (2, .ptr 2 b2 0), (3, .ptr 3 bb2 0), (40, .d (.list 1 (List.map eL s1.fKept))), (41, .d (I y.2.1.1)), (42, .d (I y.2.1.2.1))]) (fun y => [(2, .cells b2 [.nils 1, .nils 2, .nils 1, .nils 6, .nils 1, .nils 3]), (3, .cells bb2 [.d (.list 1 (List.map I c4)), .sl 36 hd59, .sl 51 y.2.2, .d (.list 6 (List.map RateSheet.enc c5)), .d (.list 1 (List.map I c6)), .nils 3]), (36, .arr hd59 81 2 false (List.map DeskLane.enc l11)), (51, .arr y.2.2 25 1 false (List.map eL y.2.1.2.2))]) (fun y => loopN (fun rr x => deskStateCopied_b2 N s1 rr x.1 x.2.1 x.2.2) y.1 y.2.1 = some l32) (fun y => y.1) (N, ((s1.fKept.length : Int), 0, []), (.slice none 0 0)) hx81 (Sub.eq rfl ?_ ?_) ?_
     ·(repeat ((conv=>whnf);refine nr ?_));exact trivial
     ·(conv=>whnf);refine no ?_;(conv=>whnf);refine Need.mk (OLe.cells _ _ _ (by repeat (first | exact trivial | ((conv => whnf); refine Need.mk rfl ?_)))) ?_;(conv=>whnf);refine no ?_;(conv=>whnf);refine Need.mk (OLe.nil _ _ _ _) ?_;exact trivial
     ·rintro ⟨n4, ⟨v35, v36, l40⟩, hd152⟩ hl4;obtain ⟨n4, rfl, hl4⟩ := loopN_some hl4;replace hl4 : deskStateCopied_b2 N s1 (loopN (fun rr x => deskStateCopied_b2 N s1 rr x.1 x.2.1 x.2.2) n4) v35 v36 l40 = some l32 := hl4;rw [deskStateCopied_b2] at hl4;(conv=>whnf);refine Br.mk (fun hc24 => ?_) (fun hc24 => ?_)
      ·replace hl4 := ite_t hc24 hl4;obtain ⟨x48, hx103, hl4⟩ := obind hl4;(conv=>whnf);refine Side.mk rfl ⟨_, idx_0 hx103, idx_map _ hx103, ?_⟩;(conv=>whnf);refine DrawG.mk (.take 0 (.take 1 (.take 2 (.alt 3 [1, 0] (.alt 4 [1, 0] (.alt 5 [0] (.take 6 (.alt 7 [] .done .nil)) .nil) .nil) .nil)))) (by kernel_rfl) ?_;(conv=>whnf);refine sr ?_;(conv=>whnf);refine Both.mk ?_ trivial;obtain ⟨r30, hx104, hl4⟩ := obind hl4;(conv=>whnf);refine CallG.fresh 49 (slicesCloneC hN hx104) ?_;intro hd158;(conv=>whnf);refine sr ?_;(iterate 2 ((conv=>whnf);refine nl ?_));obtain ⟨l42, hx105, hl4⟩ := obind hl4;(conv=>whnf);refine Both.mk ?_ trivial;(conv=>whnf);refine sr ?_;(conv=>whnf);intro hd161;(conv=>whnf);refine sr ?_;(iterate 2 ((conv=>whnf);refine nl ?_));(conv=>whnf);refine Both.mk ?_ trivial;(conv=>whnf);refine Side.mk ⟨rfl, rfl⟩ ?_;(conv=>whnf)
       refine Side.mk ⟨rfl, rfl, rfl⟩ (Need.mk (app_need hN hx105 (by decide)) (Eqv.mk (List.map eL l42) (app_map _ hx105) ?_));(conv=>whnf);intro hd162;(conv=>whnf);refine nl ?_;(conv=>whnf);refine Both.mk ?_ trivial;(conv=>whnf);refine sr ?_;(conv=>whnf);refine ⟨(n4, (v35, w64 (v36 + 1), l42), hd162), hl4, Sub.eq rfl ?_ ?_, Nat.lt_succ_self _⟩
       ·(repeat ((conv=>whnf);refine nr ?_));exact trivial
       ·(iterate 4 ((conv=>whnf);refine no ?_));exact trivial
      ·replace hl4 := ite_f hc24 hl4;cases hl4;(conv=>whnf);refine ⟨hd152, trivial, Sub.eq rfl ?_ ?_⟩
       ·(repeat ((conv=>whnf);refine nr ?_));exact trivial
       ·(iterate 4 ((conv=>whnf);refine no ?_));exact trivial
    ·rintro hd128 _;obtain ⟨l53, hx130, h⟩ := obind h;(conv=>whnf);refine SeqG.mk Value (fun y => [(2, .ptr 2 b2 0), (3, .ptr 3 bb2 0)]) (fun y => [(2, .cells b2 [.nils 1, .nils 2, .nils 1, .nils 6, .nils 1, .nils 3]), (3, .cells bb2 [.d (.list 1 (List.map I c4)), .sl 36 hd59, .sl 51 hd128, .d (.list 6 (List.map RateSheet.enc c5)), .d (.list 1 (List.map I c6)), .sl 72 y]), (36, .arr hd59 81 2 false (List.map DeskLane.enc l11)), (51, .arr hd128 25 1 false (List.map eL l32)), (72, .arr y 76 3 false (List.map LadderResult.enc l53))]) (fun _ => True) ?_ ?_
     ·(conv=>whnf);refine LnA.mk _ (List.length_map _) ?_;(conv=>whnf)
      refine LoopG.mk (Nat × (Int × Int × (List LadderResult)) × Value) (fun y => [(2, .ptr 2 b2 0), (3, .ptr 3 bb2 0), (55, .d (.list 3 (List.map LadderResult.enc s1.fResults))), (56, .d (I y.2.1.1)), (57, .d (I y.2.1.2.1))]) (fun y => [(2, .cells b2 [.nils 1, .nils 2, .nils 1, .nils 6, .nils 1, .nils 3]), (3, .cells bb2 [.d (.list 1 (List.map I c4)), .sl 36 hd59, .sl 51 hd128, .d (.list 6 (List.map RateSheet.enc c5)), .d (.list 1 (List.map I c6)), .sl 72 y.2.2]), (36, .arr hd59 81 2 false (List.map DeskLane.enc l11)), (51, .arr hd128 25 1 false (List.map eL l32)), (72, .arr y.2.2 76 3 false (List.map LadderResult.enc y.2.1.2.2))]) (fun y => loopN (fun rr x => deskStateCopied_b3 N s1 rr x.1 x.2.1 x.2.2) y.1 y.2.1 = some l53) (fun y => y.1) (N, ((s1.fResults.length : Int), 0, []), (.slice none 0 0)) hx130 (Sub.eq rfl ?_ ?_) ?_
      ·(repeat ((conv=>whnf);refine nr ?_));exact trivial
      ·(conv=>whnf);refine no ?_;(conv=>whnf);refine Need.mk (OLe.cells _ _ _ (by repeat (first | exact trivial | ((conv => whnf); refine Need.mk rfl ?_)))) ?_;(iterate 2 ((conv=>whnf);refine no ?_));(conv=>whnf);refine Need.mk (OLe.nil _ _ _ _) ?_;exact trivial
      ·rintro ⟨n6, ⟨v53, v54, l61⟩, hd221⟩ hl6;obtain ⟨n6, rfl, hl6⟩ := loopN_some hl6;replace hl6 : deskStateCopied_b3 N s1 (loopN (fun rr x => deskStateCopied_b3 N s1 rr x.1 x.2.1 x.2.2) n6) v53 v54 l61 = some l53 := hl6;rw [deskStateCopied_b3] at hl6;(conv=>whnf);refine Br.mk (fun hc36 => ?_) (fun hc36 => ?_)
       ·replace hl6 := ite_t hc36 hl6;obtain ⟨x72, hx152, hl6⟩ := obind hl6;(conv=>whnf);refine Side.mk rfl ⟨_, idx_0 hx152, idx_map _ hx152, ?_⟩;(conv=>whnf);intro b62;(conv=>whnf);refine sr ?_;(conv=>whnf);refine DrawG.mk (.take 0 (.take 1 (.take 2 (.take 3 (.take 4 (.take 5 (.take 7 (.take 8 (.alt 6 [8, 7, 4, 3, 2, 1, 0] (.alt 9 [7, 4, 2, 1, 0] (.alt 10 [7, 4, 2, 1, 0] (.alt 11 [7, 4, 2, 0] (.take 12 (.alt 13 [] .done .nil)) .nil) .nil) .nil) .nil))))))))) (by kernel_rfl) ?_;(iterate 4 ((conv=>whnf);refine sr ?_));(conv=>whnf);refine Both.mk ?_ trivial;obtain ⟨r42, hx153, hl6⟩ := obind hl6;(conv=>whnf);refine CallG.fresh 67 (slicesCloneC hN hx153) ?_;intro hd227;(conv=>whnf);refine sr ?_;(iterate 3 ((conv=>whnf);refine nl ?_));(conv=>whnf);refine sr ?_;(conv=>whnf);refine nl ?_
        (conv=>whnf);refine nl ?_;(conv=>whnf);refine sr ?_;(iterate 2 ((conv=>whnf);refine nl ?_));obtain ⟨l63, hx154, hl6⟩ := obind hl6;(conv=>whnf);refine Both.mk ?_ trivial;(conv=>whnf);refine sr ?_;(iterate 3 ((conv=>whnf);refine nl ?_));(conv=>whnf);refine sr ?_;(iterate 2 ((conv=>whnf);refine nl ?_));(conv=>whnf);refine Both.mk ?_ trivial;(conv=>whnf);intro hd230;(iterate 3 ((conv=>whnf);refine nl ?_));(conv=>whnf);refine sr ?_;(iterate 2 ((conv=>whnf);refine nl ?_));(conv=>whnf);refine Both.mk ?_ trivial;(conv=>whnf);refine Side.mk ⟨rfl, rfl⟩ ?_;(conv=>whnf);refine Side.mk ⟨rfl, rfl, rfl⟩ (Need.mk (app_need hN hx154 (by decide)) (Eqv.mk (List.map LadderResult.enc l63) (app_map _ hx154) ?_));(conv=>whnf);intro hd231;(conv=>whnf);refine nl ?_;(conv=>whnf);refine nl ?_
        (iterate 2 ((conv=>whnf);refine nl ?_));(conv=>whnf);refine Both.mk ?_ trivial;(conv=>whnf);refine sr ?_;(conv=>whnf);refine ⟨(n6, (v53, w64 (v54 + 1), l63), hd231), hl6, Sub.eq rfl ?_ ?_, Nat.lt_succ_self _⟩
        ·(repeat ((conv=>whnf);refine nr ?_));exact trivial
        ·(iterate 5 ((conv=>whnf);refine no ?_));exact trivial
       ·replace hl6 := ite_f hc36 hl6;cases hl6;(conv=>whnf);refine ⟨hd221, trivial, Sub.eq rfl ?_ ?_⟩
        ·(repeat ((conv=>whnf);refine nr ?_));exact trivial
        ·(iterate 5 ((conv=>whnf);refine no ?_));exact trivial
     ·rintro hd197 _;(iterate 6 ((conv=>whnf);refine sr ?_));(conv=>whnf);cases h;exact rfl
theorem deskPlayXC {N : Nat} (hN : N ≤ 1073741824) {lines1 : List (List UInt8)} {r : DeskState × (List Int) × Int} (h : deskPlayX N lines1 = some r) :
    ACalls Tryz.prog 22 [.d (.list 1 (List.map D.str lines1))] [] fun e os => e = .ret (.d (.tup [.agg [.list 1 (List.map I r.1.fBowlers), .list 2 (List.map DeskLane.enc r.1.fLanes), .list 1 (List.map eL r.1.fKept), .list 6 (List.map RateSheet.enc r.1.fSheets), .list 1 (List.map I r.1.fWithdrawn), .list 3 (List.map LadderResult.enc r.1.fResults)], .list 1 (List.map I r.2.1), I r.2.2])) ∧ os = [] := by
  refine acalls_f (fresh := false) tt_ok dr_ok ⟨[], [], [], [], [], 0, []⟩ Tryz.func22 rfl Tryz.call22 rfl ?_
  unfold deskPlayX at h
  (conv=>whnf);intro b2;obtain ⟨r4, hx4, h⟩ := obind h;(conv=>whnf);refine CallG.pure _ (deskCheckC hN hx4) ?_;(conv=>whnf);refine Br.mk (fun hc2 => ?_) (fun hc2 => ?_)
  ·replace h := ite_t hc2 h;cases h
  ·replace h := ite_f hc2 h;obtain ⟨⟨ra2, rb2⟩, hx6, h⟩ := obind h;(conv=>whnf);refine CallG.own (deskPlayC hN hx6) id [(2, .cells b2 [.nils 1, .nils 2, .nils 1, .nils 6, .nils 1, .nils 3])] _ (fun y => [kW y rb2, (2, .cells b2 [.nils 1, .nils 2, .nils 1, .nils 6, .nils 1, .nils 3])]) (all2_le_refl _) trivial rfl trivial (ai trivial) (fun _ => AV.le_refl _) (fun _ => rfl) ?_;rintro b4 _;(conv=>whnf);refine sr ?_;obtain ⟨r6, hx8, h⟩ := obind h;(conv=>whnf);refine CallG.pure _ (deskStateCopiedC hN hx8) ?_;(conv=>whnf)
   refine sr ?_;(conv=>whnf);refine sr ?_;(conv=>whnf);cases h;exact rfl
theorem law12IntsC {N : Nat} (hN : N ≤ 1073741824) {a1 : List Int} {b1 : List Int} {r : Bool} (h : law12Ints N a1 b1 = some r) :
    ACalls Tryz.prog 32 [.d (.list 1 (List.map I a1)), .d (.list 1 (List.map I b1))] [] fun e os => e = .ret (.d (.bool r)) ∧ os = [] := by
  refine acalls_f (fresh := false) tt_ok dr_ok ⟨[], [], [], [], [1003], 0, []⟩ Tryz.func32 rfl Tryz.call32 rfl ?_
  unfold law12Ints at h
  (conv=>whnf);refine LnA.mk _ (List.length_map _) ?_;(conv=>whnf);refine LnA.mk _ (List.length_map _) ?_;(conv=>whnf);refine Br.mk (fun hc2 => ?_) (fun hc2 => ?_)
  ·replace h := ite_t hc2 h;cases h
  ·replace h := ite_f hc2 h;obtain ⟨_, hx25, h⟩ := obind h;(conv=>whnf);refine SeqG.mk Unit (fun y => []) (fun y => []) (fun _ => True) ?_ ?_
   ·(conv=>whnf);refine LoopG.mk (Nat × Int) (fun y => [(0, .d (.list 1 (List.map I a1))), (1, .d (.list 1 (List.map I b1))), (5, .d (I y.2))]) (fun y => []) (fun y => loopN (fun rr x => law12Ints_b1 N a1 b1 rr x) y.1 y.2 = some ()) (fun y => y.1) (N, 0) hx25 (Sub.eq rfl ?_ ?_) ?_
    ·(repeat ((conv=>whnf);refine nr ?_));exact trivial
    ·exact trivial
    ·rintro ⟨n2, i8⟩ hl2;obtain ⟨n2, rfl, hl2⟩ := loopN_some hl2;replace hl2 : law12Ints_b1 N a1 b1 (loopN (fun rr x => law12Ints_b1 N a1 b1 rr x) n2) i8 = some () := hl2;rw [law12Ints_b1] at hl2;(conv=>whnf);refine LnA.mk _ (List.length_map _) ?_;(conv=>whnf);refine Br.mk (fun hc24 => ?_) (fun hc24 => ?_)
     ·replace hl2 := ite_t hc24 hl2;obtain ⟨x47, hx48, hl2⟩ := obind hl2;obtain ⟨x48, hx49, hl2⟩ := obind hl2;(conv=>whnf);refine DrawG.mk (.take 0 (.take 1 (.take 2 (.take 3 (.take 4 (.take 5 (.take 6 (.take 7 (.take 8 .done))))))))) (by kernel_rfl) ?_;(conv=>whnf);refine Side.mk rfl ⟨_, idx_0 hx48, idx_map _ hx48, ?_⟩;(conv=>whnf);refine Side.mk rfl ⟨_, idx_0 hx49, idx_map _ hx49, ?_⟩;(conv=>whnf);refine Br.mk (fun hc26 => ?_) (fun hc26 => ?_)
      ·replace hl2 := ite_t hc26 hl2;cases hl2
      ·replace hl2 := ite_f hc26 hl2;(conv=>whnf);refine ⟨(n2, w64 (i8 + 1)), hl2, Sub.eq rfl ?_ ?_, Nat.lt_succ_self _⟩
       ·(repeat ((conv=>whnf);refine nr ?_));exact trivial
       ·exact trivial
     ·replace hl2 := ite_f hc24 hl2;(conv=>whnf);refine ⟨(), trivial, Sub.eq rfl ?_ ?_⟩
      ·(repeat ((conv=>whnf);refine nr ?_));exact trivial
      ·exact trivial
   ·rintro _ _;(conv=>whnf);cases h;exact rfl
theorem law12ErrorOfC {N : Nat} (hN : N ≤ 1073741824) {line1 : List UInt8} {r : Int} (h : law12ErrorOf N line1 = some r) :
    ACalls Tryz.prog 41 [.d (.str line1)] [] fun e os => e = .ret (.d (I r)) ∧ os = [] := by
  refine acalls_f (fresh := false) tt_ok dr_ok ⟨[], [], [], [], [2], 0, []⟩ Tryz.func41 rfl Tryz.call41 rfl ?_
  unfold law12ErrorOf at h
  obtain ⟨r2, hx4, h⟩ := obind h;(conv=>whnf);refine CallG.fresh 7 (law12GameC hN hx4) ?_;intro hd4;(conv=>whnf);intro hd5;obtain ⟨l2, hx5, h⟩ := obind h;(conv=>whnf);refine Side.mk ⟨rfl, rfl⟩ ?_;(conv=>whnf);refine Side.mk ⟨rfl, rfl, rfl⟩ (Need.mk (app_need hN hx5 (by decide)) (Eqv.mk (List.map D.str l2) (app_map _ hx5) ?_));(conv=>whnf);intro hd6;obtain ⟨⟨ra2, rb2, rc2⟩, hx6, h⟩ := obind h;(conv=>whnf);refine sr ?_;(conv=>whnf);refine CallG.pure _ (deskPlayXC hN hx6) ?_;(conv=>whnf);intro b2;(conv=>whnf);refine sr ?_;obtain ⟨v4, hx8, h⟩ := obind h;(conv=>whnf);refine SeqG.mk Unit (fun y => [(4, .d (.list 1 (List.map I rb2))), (21, .d (.bool v4))]) (fun y => []) (fun _ => True) ?_ ?_
  ·(conv=>whnf);refine Br.mk (fun hc5 => ?_) (fun hc5 => ?_)
   ·replace hx8 := ite_f hc5 hx8;(conv=>whnf);refine LnA.mk _ (List.length_map _) ?_;cases hx8;(conv=>whnf);refine ⟨(), trivial, Sub.eq rfl ?_ ?_⟩
    ·(repeat ((conv=>whnf);refine nr ?_));exact trivial
    ·exact trivial
   ·replace hx8 := ite_t hc5 hx8;cases hx8;(conv=>whnf);refine ⟨(), trivial, Sub.eq rfl ?_ ?_⟩
    ·(repeat ((conv=>whnf);refine nr ?_));exact trivial
    ·exact trivial
  ·rintro _ _;(conv=>whnf);refine Br.mk (fun hc6 => ?_) (fun hc6 => ?_)
   ·replace h := ite_t hc6 h;cases h
   ·replace h := ite_f hc6 h;obtain ⟨x2, hx10, h⟩ := obind h;(conv=>whnf);refine Side.mk rfl ⟨_, idx_0 hx10, idx_map _ hx10, ?_⟩;(conv=>whnf);cases h;exact rfl
theorem deskHeadedC {N : Nat} (hN : N ≤ 1073741824) {s1 : List UInt8} {index1 : Int} {r : DeskHead} (h : deskHeaded N s1 index1 = some r) :
    ACalls Tryz.prog 145 [.d (.str s1), .d (I index1)] [] fun e os => e = .ret (.d (.agg [I r.fLong, I r.fCheck])) ∧ os = [] := by
  refine acalls_f (fresh := false) tt_ok dr_ok ⟨[], [], [], [], [1002], 0, []⟩ Tryz.func145 rfl Tryz.call145 rfl ?_
  unfold deskHeaded at h
  (conv=>whnf);intro b2;obtain ⟨check6, hx13, h⟩ := obind h;(conv=>whnf);refine SeqG.mk Unit (fun y => [(0, .d (.str s1)), (4, .ptr 4 b2 0), (5, .d (I check6))]) (fun y => [(4, .cells b2 [.d (I 0), .d (I 0)])]) (fun _ => True) ?_ ?_
  ·(conv=>whnf);refine Eqv.mk (List.map (fun x => .int .u8 x) (bytesI s1)) (bytes_D _) ?_;(conv=>whnf);refine LnA.mk _ (List.length_map _) ?_;(conv=>whnf);refine LoopG.mk (Nat × (Int × (List Int) × Int × Int)) (fun y => [(0, .d (.str s1)), (4, .ptr 4 b2 0), (5, .d (I y.2.1)), (12, .d (.list 1 (List.map (fun x => .int .u8 x) y.2.2.1))), (13, .d (I y.2.2.2.1)), (14, .d (I y.2.2.2.2))]) (fun y => [(4, .cells b2 [.d (I 0), .d (I 0)])]) (fun y => loopN (fun rr x => deskHeaded_b1 N rr x.1 x.2.1 x.2.2.1 x.2.2.2) y.1 y.2 = some check6) (fun y => y.1) (N, (w64 (13 * (w64 (index1 + 1))), bytesI s1, ((bytesI s1).length : Int), 0)) hx13 (Sub.eq rfl ?_ ?_) ?_
   ·(repeat ((conv=>whnf);refine nr ?_));exact trivial
   ·(conv=>whnf);refine no ?_;exact trivial
   ·rintro ⟨n2, ⟨check11, v26, v27, v28⟩⟩ hl2;obtain ⟨n2, rfl, hl2⟩ := loopN_some hl2;replace hl2 : deskHeaded_b1 N (loopN (fun rr x => deskHeaded_b1 N rr x.1 x.2.1 x.2.2.1 x.2.2.2) n2) check11 v26 v27 v28 = some check6 := hl2;rw [deskHeaded_b1] at hl2;(conv=>whnf);refine Br.mk (fun hc12 => ?_) (fun hc12 => ?_)
    ·replace hl2 := ite_t hc12 hl2;obtain ⟨x24, hx25, hl2⟩ := obind hl2;(conv=>whnf);refine Side.mk rfl ⟨_, idx_0 hx25, idx_map _ hx25, ?_⟩;(conv=>whnf);refine ⟨(n2, (w64 (check11 + (w64 ((w64 (v28 + 2)) * (w64 ((w64 x24) + 1))))), v26, v27, w64 (v28 + 1))), hl2, Sub.eq rfl ?_ ?_, Nat.lt_succ_self _⟩
     ·(repeat ((conv=>whnf);refine nr ?_));exact trivial
     ·(conv=>whnf);refine no ?_;exact trivial
    ·replace hl2 := ite_f hc12 hl2;cases hl2;(conv=>whnf);refine ⟨(), trivial, Sub.eq rfl ?_ ?_⟩
     ·(repeat ((conv=>whnf);refine nr ?_));exact trivial
     ·(conv=>whnf);refine no ?_;exact trivial
  ·rintro _ _;(conv=>whnf);refine Need.mk (by decide) ?_;(iterate 2 ((conv=>whnf);refine sr ?_));(conv=>whnf);cases h;exact rfl
theorem deskDigitsC {N : Nat} (hN : N ≤ 1073741824) {n1 : Int} {many1 : Int} {r : (List UInt8)} (h : deskDigits N n1 many1 = some r) :
    ACalls Tryz.prog 185 [.d (I n1), .d (I many1)] [] fun e os => e = .ret (.d (.str r)) ∧ os = [] := by
  refine acalls_f (fresh := false) tt_ok dr_ok ⟨[], [], [], [], [5, 1002], 0, [5]⟩ Tryz.func185 rfl Tryz.call185 rfl ?_
  unfold deskDigits at h
  (conv=>whnf);intro b2;obtain ⟨b19, hx7, h⟩ := obind h;(conv=>whnf);refine SeqG.mk Unit (fun y => [(1, .d (I many1)), (5, .ptr 5 b2 0)]) (fun y => [(5, .cells b2 [.d (.int .u8 b19.a0), .d (.int .u8 b19.a1), .d (.int .u8 b19.a2), .d (.int .u8 b19.a3), .d (.int .u8 b19.a4)])]) (fun _ => True) ?_ ?_
  ·(conv=>whnf);refine LoopG.mk (Nat × (Int × Int × (Ar5 Int))) (fun y => [(0, .d (I y.2.1)), (1, .d (I many1)), (5, .ptr 5 b2 0), (6, .d (I y.2.2.1))]) (fun y => [(5, .cells b2 [.d (.int .u8 y.2.2.2.a0), .d (.int .u8 y.2.2.2.a1), .d (.int .u8 y.2.2.2.a2), .d (.int .u8 y.2.2.2.a3), .d (.int .u8 y.2.2.2.a4)])]) (fun y => loopN (fun rr x => deskDigits_b1 N rr x.1 x.2.1 x.2.2) y.1 y.2 = some b19) (fun y => y.1) (N, (n1, w64 (many1 - 1), (Ar5.mk 0 0 0 0 0))) hx7 (Sub.eq rfl ?_ ?_) ?_
   ·(repeat ((conv=>whnf);refine nr ?_));exact trivial
   ·(conv=>whnf);refine no ?_;exact trivial
   ·rintro ⟨n11, ⟨n10, i10, b31⟩⟩ hl2;obtain ⟨n11, rfl, hl2⟩ := loopN_some hl2;replace hl2 : deskDigits_b1 N (loopN (fun rr x => deskDigits_b1 N rr x.1 x.2.1 x.2.2) n11) n10 i10 b31 = some b19 := hl2;rw [deskDigits_b1] at hl2;(conv=>whnf);refine Br.mk (fun hc112 => ?_) (fun hc112 => ?_)
    ·replace hl2 := ite_t hc112 hl2;obtain ⟨b35, hx13, hl2⟩ := obind hl2;(conv=>whnf);refine SeqG.mk Unit (fun y => [(0, .d (I n10)), (1, .d (I many1)), (5, .ptr 5 b2 0), (6, .d (I i10))]) (fun y => [(5, .cells b2 [.d (.int .u8 b35.a0), .d (.int .u8 b35.a1), .d (.int .u8 b35.a2), .d (.int .u8 b35.a3), .d (.int .u8 b35.a4)])]) (fun _ => True) ?_ ?_
     ·(conv=>whnf);refine Need.mk (by decide) ?_;rcases bcases (decide (i10 = 0)) with hc128 | hc128
      ·replace hx13 := ite_t hc128 hx13;(conv=>whnf);refine IxG.mk 0 (of_decide_eq_true hc128) (by decide) ?_;(conv=>whnf);refine sr ?_;cases hx13;(conv=>whnf);refine ⟨(), trivial, Sub.eq rfl ?_ ?_⟩
       ·(repeat ((conv=>whnf);refine nr ?_));exact trivial
       ·(conv=>whnf);refine no ?_;exact trivial
      ·replace hx13 := ite_f hc128 hx13;rcases bcases (decide (i10 = 1)) with hc129 | hc129
       ·replace hx13 := ite_t hc129 hx13;(conv=>whnf);refine IxG.mk 1 (of_decide_eq_true hc129) (by decide) ?_;(conv=>whnf);refine sr ?_;cases hx13;(conv=>whnf);refine ⟨(), trivial, Sub.eq rfl ?_ ?_⟩
        ·(repeat ((conv=>whnf);refine nr ?_));exact trivial
        ·(conv=>whnf);refine no ?_;exact trivial
       ·replace hx13 := ite_f hc129 hx13;rcases bcases (decide (i10 = 2)) with hc130 | hc130
        ·replace hx13 := ite_t hc130 hx13;(conv=>whnf);refine IxG.mk 2 (of_decide_eq_true hc130) (by decide) ?_;(conv=>whnf);refine sr ?_;cases hx13;(conv=>whnf);refine ⟨(), trivial, Sub.eq rfl ?_ ?_⟩
         ·(repeat ((conv=>whnf);refine nr ?_));exact trivial
         ·(conv=>whnf);refine no ?_;exact trivial
        ·replace hx13 := ite_f hc130 hx13;rcases bcases (decide (i10 = 3)) with hc131 | hc131
         ·replace hx13 := ite_t hc131 hx13;(conv=>whnf);refine IxG.mk 3 (of_decide_eq_true hc131) (by decide) ?_;(conv=>whnf);refine sr ?_;cases hx13;(conv=>whnf);refine ⟨(), trivial, Sub.eq rfl ?_ ?_⟩
          ·(repeat ((conv=>whnf);refine nr ?_));exact trivial
          ·(conv=>whnf);refine no ?_;exact trivial
         ·replace hx13 := ite_f hc131 hx13;rcases bcases (decide (i10 = 4)) with hc132 | hc132
          ·replace hx13 := ite_t hc132 hx13;(conv=>whnf);refine IxG.mk 4 (of_decide_eq_true hc132) (by decide) ?_;(conv=>whnf);refine sr ?_;cases hx13;(conv=>whnf);refine ⟨(), trivial, Sub.eq rfl ?_ ?_⟩
           ·(repeat ((conv=>whnf);refine nr ?_));exact trivial
           ·(conv=>whnf);refine no ?_;exact trivial
          ·replace hx13 := ite_f hc132 hx13;cases hx13
     ·rintro _ _;(conv=>whnf);refine Need.mk (by decide) ?_;(conv=>whnf);refine ⟨(n11, (w64 (Int.tdiv n10 10), w64 (i10 - 1), b35)), hl2, Sub.eq rfl ?_ ?_, Nat.lt_succ_self _⟩
      ·(repeat ((conv=>whnf);refine nr ?_));exact trivial
      ·(conv=>whnf);refine no ?_;exact trivial
    ·replace hl2 := ite_f hc112 hl2;cases hl2;(conv=>whnf);refine ⟨(), trivial, Sub.eq rfl ?_ ?_⟩
     ·(repeat ((conv=>whnf);refine nr ?_));exact trivial
     ·(conv=>whnf);refine no ?_;exact trivial
  ·rintro _ _;obtain ⟨l2, hx15, h⟩ := obind h;(conv=>whnf);refine sr ?_;(conv=>whnf);refine ArrS.mk (List.map (fun x => .int .u8 x) [b19.a0, b19.a1, b19.a2, b19.a3, b19.a4]) rfl rfl (map_cells _ fun _ => rfl) ?_;(conv=>whnf);refine Need.mk (slc_needA hx15 rfl) (Eqv.mk (List.map (fun x => .int .u8 x) l2) (slc_map0 _ hx15) ?_);(conv=>whnf);refine sr ?_;(conv=>whnf);refine StrG.mk l2 rfl ?_;(conv=>whnf);cases h;exact rfl
theorem deskHeadTextC {N : Nat} (hN : N ≤ 1073741824) {hv1 : DeskHead} {r : (List UInt8)} (h : deskHeadText N hv1 = some r) :
    ACalls Tryz.prog 146 [.d (.agg [I hv1.fLong, I hv1.fCheck])] [] fun e os => e = .ret (.d (.str r)) ∧ os = [] := by
  refine acalls_f (fresh := false) tt_ok dr_ok ⟨[1], [], [], [], [], 0, []⟩ Tryz.func146 rfl Tryz.call146 rfl ?_
  unfold deskHeadText at h
  (conv=>whnf);refine DrawG.mk (.take 0 (.take 1 (.take 5 (.take 6 (.alt 2 [6, 5, 0] (.take 3 (.take 4 (.alt 7 [4, 3, 5, 0] (.take 8 (.take 9 (.take 10 .done))) .nil))) .nil))))) (by kernel_rfl) ?_;(conv=>whnf);refine Both.mk ?_ trivial;obtain ⟨r3, hx7, h⟩ := obind h;(conv=>whnf);refine CallG.pure _ (deskDigitsC hN hx7) ?_;(iterate 3 ((conv=>whnf);refine nl ?_));obtain ⟨s5, hx8, h⟩ := obind h;obtain ⟨s6, hx9, h⟩ := obind h;(conv=>whnf);refine Need.mk (cat_need hN hx8) ?_;(conv=>whnf);refine Need.mk (cat_need hN hx9) ?_;(conv=>whnf);refine Both.mk ?_ trivial;obtain ⟨r4, hx10, h⟩ := obind h;(conv=>whnf);refine CallG.pure _ (deskDigitsC hN hx10) ?_;(conv=>whnf);refine Need.mk (cat_need hN hx9) ?_;(conv=>whnf);refine nl ?_;(conv=>whnf);refine Need.mk (cat_need hN hx8) ?_;(iterate 2 ((conv=>whnf);refine nl ?_));(conv=>whnf);refine nl ?_
  obtain ⟨s7, hx11, h⟩ := obind h;obtain ⟨s8, hx12, h⟩ := obind h;(conv=>whnf);refine Need.mk (cat_need hN hx11) ?_;(conv=>whnf);refine Need.mk (cat_need hN hx12) ?_;(conv=>whnf);cases h;exact rfl
theorem deskFileC {N : Nat} (hN : N ≤ 1073741824) {lines1 : List (List UInt8)} {r : (List Int)} (h : deskFile N lines1 = some r) :
    ACalls Tryz.prog 92 [.d (.list 1 (List.map D.str lines1))] [] fun e os => e = .ret (.d (.list 1 (List.map (fun x => .int .u8 x) r))) ∧ os = [] := by
  refine acalls_f (fresh := false) tt_ok dr_ok ⟨[], [], [], [], [1002], 0, []⟩ Tryz.func92 rfl Tryz.call92 rfl ?_
  unfold deskFile at h
  obtain ⟨l11, hx43, h⟩ := obind h;(conv=>whnf);refine SeqG.mk Value (fun y => [(3, .sl 21 y)]) (fun y => [(21, .arr y 5 1 false (List.map (fun x => .int .u8 x) l11))]) (fun _ => True) ?_ ?_
  ·(conv=>whnf);refine LnA.mk _ (List.length_map _) ?_;(conv=>whnf);refine LoopG.mk (Nat × (Int × Int × (List Int)) × Value) (fun y => [(3, .sl 21 y.2.2), (6, .d (.list 1 (List.map D.str lines1))), (7, .d (I y.2.1.1)), (8, .d (I y.2.1.2.1))]) (fun y => [(21, .arr y.2.2 5 1 false (List.map (fun x => .int .u8 x) y.2.1.2.2))]) (fun y => loopN (fun rr x => deskFile_b1 N lines1 rr x.1 x.2.1 x.2.2) y.1 y.2.1 = some l11) (fun y => y.1) (N, ((lines1.length : Int), 0, []), (.slice none 0 0)) hx43 (Sub.eq rfl ?_ ?_) ?_
   ·(repeat ((conv=>whnf);refine nr ?_));exact trivial
   ·(conv=>whnf);refine Need.mk (OLe.nil _ _ _ _) ?_;exact trivial
   ·rintro ⟨n2, ⟨v17, v18, l19⟩, hd19⟩ hl2;obtain ⟨n2, rfl, hl2⟩ := loopN_some hl2;replace hl2 : deskFile_b1 N lines1 (loopN (fun rr x => deskFile_b1 N lines1 rr x.1 x.2.1 x.2.2) n2) v17 v18 l19 = some l11 := hl2;rw [deskFile_b1] at hl2;(conv=>whnf);refine Br.mk (fun hc12 => ?_) (fun hc12 => ?_)
    ·replace hl2 := ite_t hc12 hl2;obtain ⟨x24, hx80, hl2⟩ := obind hl2;(conv=>whnf);refine Side.mk rfl ⟨_, idx_0 hx80, idx_map _ hx80, ?_⟩;obtain ⟨r23, hx81, hl2⟩ := obind hl2;(conv=>whnf);refine CallG.pure _ (deskHeadedC hN hx81) ?_;obtain ⟨r24, hx82, hl2⟩ := obind hl2;(conv=>whnf);refine CallG.pure _ (deskHeadTextC hN hx82) ?_;obtain ⟨s23, hx83, hl2⟩ := obind hl2;(conv=>whnf);refine Need.mk (cat_need hN hx83) ?_;obtain ⟨s24, hx84, hl2⟩ := obind hl2;(conv=>whnf);refine Need.mk (cat_need hN hx84) ?_;obtain ⟨l21, hx85, hl2⟩ := obind hl2;(conv=>whnf);refine Side.mk ⟨rfl, rfl, rfl⟩ (Eqv.mk (List.map (fun x => .int .u8 x) (bytesI (((r24 ++ x24) ++ ([10] : List UInt8))))) (bytes_D _) ?_);(conv=>whnf);refine Side.mk ⟨rfl, rfl, rfl⟩ (Need.mk (app_lenS hN hx85) (Eqv.mk (List.map (fun x => .int .u8 x) l21) (app_map _ hx85) ?_));(conv=>whnf);intro hd21;(conv=>whnf)
     refine ⟨(n2, (v17, w64 (v18 + 1), l21), hd21), hl2, Sub.eq rfl ?_ ?_, Nat.lt_succ_self _⟩
     ·(repeat ((conv=>whnf);refine nr ?_));exact trivial
     ·(conv=>whnf);refine no ?_;exact trivial
    ·replace hl2 := ite_f hc12 hl2;cases hl2;(conv=>whnf);refine ⟨hd19, trivial, Sub.eq rfl ?_ ?_⟩
     ·(repeat ((conv=>whnf);refine nr ?_));exact trivial
     ·(conv=>whnf);refine no ?_;exact trivial
  ·rintro hd11 _;(conv=>whnf);refine sr ?_;(conv=>whnf);cases h;exact rfl
theorem deskWriteC {N : Nat} (hN : N ≤ 1073741824) {lines1 : List (List UInt8)} {r : (List Int) × Int} (h : deskWrite N lines1 = some r) :
    ACalls Tryz.prog 53 [.d (.list 1 (List.map D.str lines1))] [] fun e os => e = .ret (.d (.tup [.list 1 (List.map (fun x => .int .u8 x) r.1), I r.2])) ∧ os = [] := by
  refine acalls_f (fresh := false) tt_ok dr_ok ⟨[], [], [], [], [], 0, []⟩ Tryz.func53 rfl Tryz.call53 rfl ?_
  unfold deskWrite at h
  obtain ⟨r4, hx4, h⟩ := obind h;(conv=>whnf);refine CallG.pure _ (deskCheckC hN hx4) ?_;(conv=>whnf);refine Br.mk (fun hc2 => ?_) (fun hc2 => ?_)
  ·replace h := ite_t hc2 h;cases h
  ·replace h := ite_f hc2 h;obtain ⟨r6, hx6, h⟩ := obind h;(conv=>whnf);refine CallG.pure _ (deskFileC hN hx6) ?_;(conv=>whnf);cases h;exact rfl
theorem law12WakesC {N : Nat} (hN : N ≤ 1073741824)  {r : Bool} (h : law12Wakes N = some r) :
    ACalls Tryz.prog 21 [] [] fun e os => e = .ret (.d (.bool r)) ∧ os = [] := by
  refine acalls_f (fresh := false) tt_ok dr_ok ⟨[], [], [], [], [6], 0, []⟩ Tryz.func21 rfl Tryz.call21 rfl ?_
  unfold law12Wakes at h
  obtain ⟨r2, hx4, h⟩ := obind h;(conv=>whnf);refine CallG.fresh 16 (law12GameC hN hx4) ?_;intro hd4;(conv=>whnf);intro hd5;obtain ⟨l2, hx5, h⟩ := obind h;(conv=>whnf);refine Side.mk ⟨rfl, rfl⟩ ?_;(conv=>whnf);refine Side.mk ⟨rfl, rfl, rfl⟩ (Need.mk (app_need hN hx5 (by decide)) (Eqv.mk (List.map D.str l2) (app_map _ hx5) ?_));(conv=>whnf);intro hd6;obtain ⟨⟨ra2, rb2, rc2⟩, hx6, h⟩ := obind h;(conv=>whnf);refine sr ?_;(conv=>whnf);refine CallG.pure _ (deskPlayXC hN hx6) ?_;(conv=>whnf);intro b2;(conv=>whnf);refine sr ?_;obtain ⟨r4, hx10, h⟩ := obind h;(conv=>whnf);refine CallG.fresh 24 (law12GameC hN hx10) ?_;intro hd8;obtain ⟨l4, hx11, h⟩ := obind h;(conv=>whnf);refine sr ?_;(conv=>whnf);refine Need.mk (slc_need _ hx11) (Eqv.mk (List.map D.str l4) (slc_map _ hx11) ?_);obtain ⟨⟨ra4, rb4, rc4, rd2⟩, hx12, h⟩ := obind h;(conv=>whnf);refine CallG.pure _ (deskBoardC hN hx12) ?_
  obtain ⟨r6, hx15, h⟩ := obind h;(conv=>whnf);refine CallG.fresh 32 (law12GameC hN hx15) ?_;intro hd10;obtain ⟨⟨ra6, rb6, rc6⟩, hx16, h⟩ := obind h;(conv=>whnf);refine sr ?_;(conv=>whnf);refine CallG.pure _ (deskWorthC hN hx16) ?_;obtain ⟨r8, hx20, h⟩ := obind h;(conv=>whnf);refine CallG.fresh 38 (law12GameC hN hx20) ?_;intro hd12;obtain ⟨l6, hx21, h⟩ := obind h;(conv=>whnf);refine sr ?_;(conv=>whnf);refine Need.mk (slc_need _ hx21) (Eqv.mk (List.map D.str l6) (slc_map _ hx21) ?_);obtain ⟨⟨ra8, rb8⟩, hx22, h⟩ := obind h;(conv=>whnf);refine CallG.pure _ (deskReportC hN hx22) ?_;(conv=>whnf);intro hd14;obtain ⟨⟨ra10, rb10⟩, hx24, h⟩ := obind h;(conv=>whnf);refine sr ?_;(conv=>whnf);refine CallG.pure _ (deskWriteC hN hx24) ?_;obtain ⟨v2, hx31, h⟩ := obind h;(conv=>whnf);refine SeqG.mk Unit (fun y => [(0, .d (.bool v2))]) (fun y => []) (fun _ => True) ?_ ?_
  ·(conv=>whnf);refine Br.mk (fun hc18 => ?_) (fun hc18 => ?_)
   ·replace hx31 := ite_t hc18 hx31;(conv=>whnf);refine LnA.mk _ (List.length_map _) ?_;(conv=>whnf);refine Br.mk (fun hc19 => ?_) (fun hc19 => ?_)
    ·replace hx31 := ite_t hc19 hx31;obtain ⟨x6, hx32, hx31⟩ := obind hx31;(conv=>whnf);refine Side.mk rfl ⟨_, idx_0 hx32, idx_map _ hx32, ?_⟩;(conv=>whnf);refine Br.mk (fun hc20 => ?_) (fun hc20 => ?_)
     ·replace hx31 := ite_t hc20 hx31;obtain ⟨x7, hx33, hx31⟩ := obind hx31;(conv=>whnf);refine Side.mk rfl ⟨_, idx_0 hx33, idx_map _ hx33, ?_⟩;(conv=>whnf);refine Br.mk (fun hc21 => ?_) (fun hc21 => ?_)
      ·replace hx31 := ite_t hc21 hx31;obtain ⟨x8, hx34, hx31⟩ := obind hx31;(conv=>whnf);refine Side.mk rfl ⟨_, idx_0 hx34, idx_map _ hx34, ?_⟩;(conv=>whnf);refine Br.mk (fun hc22 => ?_) (fun hc22 => ?_)
       ·replace hx31 := ite_t hc22 hx31;obtain ⟨x9, hx35, hx31⟩ := obind hx31;(conv=>whnf);refine Side.mk rfl ⟨_, idx_0 hx35, idx_map _ hx35, ?_⟩;(conv=>whnf);refine Br.mk (fun hc23 => ?_) (fun hc23 => ?_)
        ·replace hx31 := ite_t hc23 hx31;obtain ⟨x10, hx36, hx31⟩ := obind hx31;(conv=>whnf);refine Side.mk rfl ⟨_, idx_0 hx36, idx_map _ hx36, ?_⟩;(conv=>whnf);refine Br.mk (fun hc24 => ?_) (fun hc24 => ?_)
         ·replace hx31 := ite_t hc24 hx31;(conv=>whnf);refine Br.mk (fun hc25 => ?_) (fun hc25 => ?_)
          ·replace hx31 := ite_t hc25 hx31;(conv=>whnf);intro hd16;obtain ⟨r10, hx37, hx31⟩ := obind hx31;(conv=>whnf);refine sr ?_;(conv=>whnf);refine CallG.pure _ (law12IntsC hN hx37) ?_;(conv=>whnf);refine Br.mk (fun hc26 => ?_) (fun hc26 => ?_)
           ·replace hx31 := ite_t hc26 hx31;(conv=>whnf);refine Br.mk (fun hc27 => ?_) (fun hc27 => ?_)
            ·replace hx31 := ite_t hc27 hx31;(conv=>whnf);refine Br.mk (fun hc28 => ?_) (fun hc28 => ?_)
             ·replace hx31 := ite_t hc28 hx31;(conv=>whnf);refine Br.mk (fun hc29 => ?_) (fun hc29 => ?_)
              ·replace hx31 := ite_t hc29 hx31;(conv=>whnf);refine Br.mk (fun hc30 => ?_) (fun hc30 => ?_)
               ·replace hx31 := ite_t hc30 hx31;(conv=>whnf);refine Br.mk (fun hc31 => ?_) (fun hc31 => ?_)
                ·replace hx31 := ite_t hc31 hx31;(conv=>whnf);refine Br.mk (fun hc32 => ?_) (fun hc32 => ?_)
                 ·replace hx31 := ite_t hc32 hx31;(conv=>whnf);refine Br.mk (fun hc33 => ?_) (fun hc33 => ?_)
                  ·replace hx31 := ite_t hc33 hx31;(conv=>whnf);refine Br.mk (fun hc34 => ?_) (fun hc34 => ?_)
                   ·replace hx31 := ite_t hc34 hx31;(conv=>whnf);refine sr ?_;(conv=>whnf);refine StrG.mk ra10 rfl ?_;cases hx31;(conv=>whnf);refine ⟨(), trivial, Sub.eq rfl ?_ ?_⟩
                    ·(repeat ((conv=>whnf);refine nr ?_));exact trivial
                    ·exact trivial
                   ·replace hx31 := ite_f hc34 hx31;cases hx31;(conv=>whnf);refine ⟨(), trivial, Sub.eq rfl ?_ ?_⟩
                    ·(repeat ((conv=>whnf);refine nr ?_));exact trivial
                    ·exact trivial
                  ·replace hx31 := ite_f hc33 hx31;cases hx31;(conv=>whnf);refine ⟨(), trivial, Sub.eq rfl ?_ ?_⟩
                   ·(repeat ((conv=>whnf);refine nr ?_));exact trivial
                   ·exact trivial
                 ·replace hx31 := ite_f hc32 hx31;cases hx31;(conv=>whnf);refine ⟨(), trivial, Sub.eq rfl ?_ ?_⟩
                  ·(repeat ((conv=>whnf);refine nr ?_));exact trivial
                  ·exact trivial
                ·replace hx31 := ite_f hc31 hx31;cases hx31;(conv=>whnf);refine ⟨(), trivial, Sub.eq rfl ?_ ?_⟩
                 ·(repeat ((conv=>whnf);refine nr ?_));exact trivial
                 ·exact trivial
               ·replace hx31 := ite_f hc30 hx31;cases hx31;(conv=>whnf);refine ⟨(), trivial, Sub.eq rfl ?_ ?_⟩
                ·(repeat ((conv=>whnf);refine nr ?_));exact trivial
                ·exact trivial
              ·replace hx31 := ite_f hc29 hx31;cases hx31;(conv=>whnf);refine ⟨(), trivial, Sub.eq rfl ?_ ?_⟩
               ·(repeat ((conv=>whnf);refine nr ?_));exact trivial
               ·exact trivial
             ·replace hx31 := ite_f hc28 hx31;cases hx31;(conv=>whnf);refine ⟨(), trivial, Sub.eq rfl ?_ ?_⟩
              ·(repeat ((conv=>whnf);refine nr ?_));exact trivial
              ·exact trivial
            ·replace hx31 := ite_f hc27 hx31;cases hx31;(conv=>whnf);refine ⟨(), trivial, Sub.eq rfl ?_ ?_⟩
             ·(repeat ((conv=>whnf);refine nr ?_));exact trivial
             ·exact trivial
           ·replace hx31 := ite_f hc26 hx31;cases hx31;(conv=>whnf);refine ⟨(), trivial, Sub.eq rfl ?_ ?_⟩
            ·(repeat ((conv=>whnf);refine nr ?_));exact trivial
            ·exact trivial
          ·replace hx31 := ite_f hc25 hx31;cases hx31;(conv=>whnf);refine ⟨(), trivial, Sub.eq rfl ?_ ?_⟩
           ·(repeat ((conv=>whnf);refine nr ?_));exact trivial
           ·exact trivial
         ·replace hx31 := ite_f hc24 hx31;cases hx31;(conv=>whnf);refine ⟨(), trivial, Sub.eq rfl ?_ ?_⟩
          ·(repeat ((conv=>whnf);refine nr ?_));exact trivial
          ·exact trivial
        ·replace hx31 := ite_f hc23 hx31;cases hx31;(conv=>whnf);refine ⟨(), trivial, Sub.eq rfl ?_ ?_⟩
         ·(repeat ((conv=>whnf);refine nr ?_));exact trivial
         ·exact trivial
       ·replace hx31 := ite_f hc22 hx31;cases hx31;(conv=>whnf);refine ⟨(), trivial, Sub.eq rfl ?_ ?_⟩
        ·(repeat ((conv=>whnf);refine nr ?_));exact trivial
        ·exact trivial
      ·replace hx31 := ite_f hc21 hx31;cases hx31;(conv=>whnf);refine ⟨(), trivial, Sub.eq rfl ?_ ?_⟩
       ·(repeat ((conv=>whnf);refine nr ?_));exact trivial
       ·exact trivial
     ·replace hx31 := ite_f hc20 hx31;cases hx31;(conv=>whnf);refine ⟨(), trivial, Sub.eq rfl ?_ ?_⟩
      ·(repeat ((conv=>whnf);refine nr ?_));exact trivial
      ·exact trivial
    ·replace hx31 := ite_f hc19 hx31;cases hx31;(conv=>whnf);refine ⟨(), trivial, Sub.eq rfl ?_ ?_⟩
     ·(repeat ((conv=>whnf);refine nr ?_));exact trivial
     ·exact trivial
   ·replace hx31 := ite_f hc18 hx31;cases hx31;(conv=>whnf);refine ⟨(), trivial, Sub.eq rfl ?_ ?_⟩
    ·(repeat ((conv=>whnf);refine nr ?_));exact trivial
    ·exact trivial
  ·rintro _ _;(conv=>whnf);cases h;exact rfl
end Go.Proofs.YtiaoloodgildeaaGreatDoor
