/-
  Walks: what the typed functions compute, the program’s functions return.
-/
import Derived.Test.YthbifolpofillaaWe
import Derived.Test.YthbifolpofillaaWb
namespace Go.Proofs.Ythbifolpofillaa
open Go Go.Abs Go.Kp
set_option maxRecDepth 100000
set_option maxHeartbeats 8000000
set_option linter.all false

theorem frameLawCountsC {N : Nat} (hN : N ≤ 1073741824) {a1 : FrameLaw} {a2 : List Int} {r : (List Int)} (h : frameLawCounts N a1 a2 = some r) :
    ACalls Try.prog 18 [.d (.agg [I a1.fFrames, I a1.fPins, I a1.fBalls, I a1.fTap]), .d (.list 1 (List.map I a2))] [] fun e os => e = .ret (.d (.list 1 (List.map I r))) ∧ os = [] := by
  refine acalls_f (fresh := false) tt_ok dr_ok ⟨[2], [], [], [], [13, 1004, 1016, 1022], 0⟩ Try.func18 rfl Try.call18 rfl ?_
  unfold frameLawCounts at h
  conv => whnf
  intro b2
  conv => whnf
  intro b5
  conv => whnf
  intro b6
  obtain ⟨l2, hx2, h⟩ := obind h
  conv => whnf
  refine Need.mk (mkl_need hN hx2 (by decide)) (Eqv.mk (List.map I l2) (mkl_map _ hx2 rfl) ?_)
  conv => whnf
  intro hd2
  conv => whnf
  intro b8
  conv => whnf
  refine Side.mk rfl ?_
  obtain ⟨⟨l283, l284, l285⟩, hx475, h⟩ := obind h
  conv => whnf
  refine SeqG.mk (Value × Value × Value) (fun y => [(4, .nils 1), (5, .ptr 5 b2 0), (6, .ptr 6 b5 0), (7, .ptr 7 b6 0)]) (fun y => [(5, .cells b2 [.sl 28 y.1]), (6, .cells b5 [.sl 47 y.2.1]), (7, .cells b6 [.sl 50 y.2.2]), (28, .arr y.1 3 1 true (List.map I l283)), (47, .arr y.2.1 3 1 false (List.map I l284)), (50, .arr y.2.2 3 1 false (List.map I l285))]) (fun _ => True) ?_ ?_
  · obtain ⟨⟨ra16, rb16⟩, hx477, hx475⟩ := obind hx475
    conv => whnf
    refine CallG.pure _ (frameLawBallsC hN hx477) ?_
    conv => whnf
    intro lp2 rc14
    refine IterG.mk _ _ ⟨[], [], [], [], [7], 2000⟩ Try.func35 rfl Try.call35 rfl rfl ?_
    obtain ⟨r76, hx479, hx475⟩ := obind hx475
    conv => whnf
    refine CallG.pure _ (frameLawBeginC hN hx479) ?_
    conv => whnf
    intro b48
    conv => whnf
    refine Side.mk rfl ?_
    conv => whnf
    refine Ln.mk _ (List.length_map _) ?_
    conv => whnf
    refine LoopG.mk (Nat × (Int × Int × FramePlay × (List Int) × (List Int) × (List Int) × (List Int)) × Value × Value × Value) (fun y => [(0, .fn (.yield lp2) [] []), (4, .ptr 2004 b48 0), (13, .d (.list 1 (List.map I rb16))), (14, .d (I y.2.1.1)), (15, .d (I y.2.1.2.1))]) (fun y => [(2004, .cells b48 [.d (I y.2.1.2.2.1.fLaw.fFrames), .d (I y.2.1.2.2.1.fLaw.fPins), .d (I y.2.1.2.2.1.fLaw.fBalls), .d (I y.2.1.2.2.1.fLaw.fTap), .d (I y.2.1.2.2.1.fAt.fFrame), .d (I y.2.1.2.2.1.fAt.fThrown), .d (I y.2.1.2.2.1.fAt.fStanding), .d (.bool y.2.1.2.2.1.fAt.fFresh), .d (I y.2.1.2.2.1.fAt.fNeed), .d (I y.2.1.2.2.1.fAt.fAfter.a0), .d (I y.2.1.2.2.1.fAt.fAfter.a1)]), (5, .cells b2 [.sl 28 y.2.2.1]), (6, .cells b5 [.sl 47 y.2.2.2.1]), (7, .cells b6 [.sl 50 y.2.2.2.2]), (8, .cells b8 [.sl 18 hd2]), (1000, .loop lp2 rc14 none), (28, .arr y.2.2.1 3 1 true (List.map I y.2.1.2.2.2.1)), (47, .arr y.2.2.2.1 3 1 false (List.map I y.2.1.2.2.2.2.1)), (50, .arr y.2.2.2.2 3 1 false (List.map I y.2.1.2.2.2.2.2.1)), (18, .arr hd2 3 1 false (List.map I y.2.1.2.2.2.2.2.2))]) (fun y => loopN (fun rr x => frameLawCounts_b1 N a1 rb16 rr x.1 x.2.1 x.2.2.1 x.2.2.2.1 x.2.2.2.2.1 x.2.2.2.2.2.1 x.2.2.2.2.2.2) y.1 y.2.1 = some (l283, l284, l285)) (fun y => y.1) (N, ((rb16.length : Int), 0, r76, [], [], [], l2), (.slice none 0 0), (.slice none 0 0), (.slice none 0 0)) hx475 (Sub.eq rfl ?_ ?_) ?_
    · repeat ((conv => whnf); refine Need.mk rfl ?_)
      exact trivial
    · conv => whnf
      refine Need.mk (OLe.refl _) ?_
      conv => whnf
      refine Need.mk (OLe.cells _ _ _ (by repeat (first | exact trivial | ((conv => whnf); refine Need.mk rfl ?_)))) ?_
      conv => whnf
      refine Need.mk (OLe.cells _ _ _ (by repeat (first | exact trivial | ((conv => whnf); refine Need.mk rfl ?_)))) ?_
      conv => whnf
      refine Need.mk (OLe.cells _ _ _ (by repeat (first | exact trivial | ((conv => whnf); refine Need.mk rfl ?_)))) ?_
      conv => whnf
      refine Need.mk (OLe.refl _) ?_
      conv => whnf
      refine Need.mk (OLe.refl _) ?_
      conv => whnf
      refine Need.mk (OLe.nil _ _ _ _) ?_
      conv => whnf
      refine Need.mk (OLe.nil _ _ _ _) ?_
      conv => whnf
      refine Need.mk (OLe.nil _ _ _ _) ?_
      conv => whnf
      refine Need.mk (OLe.refl _) ?_
      exact trivial
    · rintro ⟨n2, ⟨v57, v58, c8, l474, l475, l476, l477⟩, hd567, hd568, hd569⟩ hl2
      obtain ⟨n2, rfl, hl2⟩ := loopN_some hl2
      replace hl2 : frameLawCounts_b1 N a1 rb16 (loopN (fun rr x => frameLawCounts_b1 N a1 rb16 rr x.1 x.2.1 x.2.2.1 x.2.2.2.1 x.2.2.2.2.1 x.2.2.2.2.2.1 x.2.2.2.2.2.2) n2) v57 v58 c8 l474 l475 l476 l477 = some (l283, l284, l285) := hl2
      rw [frameLawCounts_b1] at hl2
      conv => whnf
      refine Br.mk (fun hc272 => ?_) (fun hc272 => ?_)
      · replace hl2 := ite_t hc272 hl2
        obtain ⟨x288, hx871, hl2⟩ := obind hl2
        conv => whnf
        refine Side.mk rfl ⟨_, idx_0 hx871, idx_map _ hx871, ?_⟩
        conv => whnf
        refine Side.mk rfl ?_
        obtain ⟨r140, hx875, hl2⟩ := obind hl2
        conv => whnf
        refine CallG.pure _ (framePlayMayC hN hx875) ?_
        conv => whnf
        refine Br.mk (fun hc300 => ?_) (fun hc300 => ?_)
        · replace hl2 := ite_t hc300 hl2
          conv => whnf
          refine Side.mk ⟨rfl, rfl⟩ ?_
          cases hl2
          conv => whnf
          refine ⟨(hd567, hd568, hd569), trivial, Sub.eq rfl ?_ ?_⟩
          · repeat ((conv => whnf); refine Need.mk rfl ?_)
            exact trivial
          · conv => whnf
            refine Need.mk (OLe.refl _) ?_
            conv => whnf
            refine Need.mk (OLe.refl _) ?_
            conv => whnf
            refine Need.mk (OLe.refl _) ?_
            conv => whnf
            refine Need.mk (OLe.refl _) ?_
            conv => whnf
            refine Need.mk (OLe.refl _) ?_
            conv => whnf
            refine Need.mk (OLe.refl _) ?_
            exact trivial
        · replace hl2 := ite_f hc300 hl2
          conv => whnf
          refine Side.mk rfl ?_
          obtain ⟨⟨ra28, rb28, rc26⟩, hx877, hl2⟩ := obind hl2
          conv => whnf
          refine CallG.pure _ (framePlayNextC hN hx877) ?_
          conv => whnf
          intro b80
          conv => whnf
          refine Side.mk rfl ?_
          obtain ⟨⟨l553, l554, l555, l556⟩, hx930, hl2⟩ := obind hl2
          conv => whnf
          refine SeqG.mk (Value × Value × Value) (fun y => [(0, .fn (.yield lp2) [] []), (4, .ptr 2004 b48 0), (8, .ptr 2008 b80 0), (13, .d (.list 1 (List.map I rb16))), (14, .d (I v57)), (15, .d (I v58)), (43, .b false)]) (fun y => [(2004, .cells b48 [.d (I c8.fLaw.fFrames), .d (I c8.fLaw.fPins), .d (I c8.fLaw.fBalls), .d (I c8.fLaw.fTap), .d (I c8.fAt.fFrame), .d (I c8.fAt.fThrown), .d (I c8.fAt.fStanding), .d (.bool c8.fAt.fFresh), .d (I c8.fAt.fNeed), .d (I c8.fAt.fAfter.a0), .d (I c8.fAt.fAfter.a1)]), (2008, .cells b80 [.d (I ra28.fLaw.fFrames), .d (I ra28.fLaw.fPins), .d (I ra28.fLaw.fBalls), .d (I ra28.fLaw.fTap), .d (I ra28.fAt.fFrame), .d (I ra28.fAt.fThrown), .d (I ra28.fAt.fStanding), .d (.bool ra28.fAt.fFresh), .d (I ra28.fAt.fNeed), .d (I ra28.fAt.fAfter.a0), .d (I ra28.fAt.fAfter.a1)]), (5, .cells b2 [.sl 28 y.1]), (6, .cells b5 [.sl 47 y.2.1]), (7, .cells b6 [.sl 50 y.2.2]), (8, .cells b8 [.sl 18 hd2]), (1000, .loop lp2 rc14 none), (28, .arr y.1 3 1 true (List.map I l553)), (47, .arr y.2.1 3 1 false (List.map I l554)), (50, .arr y.2.2 3 1 false (List.map I l555)), (18, .arr hd2 3 1 false (List.map I l556))]) (fun _ => True) ?_ ?_
          · conv => whnf
            refine Side.mk rfl ?_
            conv => whnf
            refine Side.mk rfl ?_
            conv => whnf
            refine Side.mk ⟨rfl, rfl, rfl⟩ ?_
            conv => whnf
            intro b84
            conv => whnf
            refine Side.mk rfl ?_
            conv => whnf
            refine Side.mk rfl ?_
            conv => whnf
            refine Side.mk rfl ?_
            conv => whnf
            intro hd668
            obtain ⟨l558, hx932, hx930⟩ := obind hx930
            conv => whnf
            refine Side.mk ⟨rfl, rfl⟩ ?_
            conv => whnf
            refine Side.mk ⟨rfl, rfl, rfl⟩ (Need.mk (app_need hN hx932 (by decide)) (Eqv.mk (List.map I l558) (app_map _ hx932) ?_))
            conv => whnf
            intro hd669
            conv => whnf
            refine Side.mk rfl ?_
            conv => whnf
            refine Side.mk rfl ?_
            conv => whnf
            refine Side.mk rfl ?_
            obtain ⟨x308, hx934, hx930⟩ := obind hx930
            conv => whnf
            refine Side.mk ⟨rfl, rfl⟩ (Need.mk (idx_need _ hx934) ?_)
            conv => whnf
            refine Side.mk ⟨rfl, rfl⟩ ⟨_, Int.natCast_nonneg _, idx_el _ hx934, ?_⟩
            conv => whnf
            refine Side.mk ⟨rfl, rfl⟩ (Need.mk (idx_need _ hx934) ?_)
            conv => whnf
            refine Side.mk ⟨rfl, rfl⟩ ⟨_, Int.natCast_nonneg _, idx_el _ hx934, ?_⟩
            conv => whnf
            refine Eqv.mk (List.map I (List.set l477 (Int.toNat c8.fAt.fFrame) (w64 (x308 + 1)))) (set_map _ _ _ _ rfl) ?_
            conv => whnf
            refine Side.mk rfl ?_
            conv => whnf
            refine Side.mk rfl ?_
            conv => whnf
            refine Br.mk (fun hc319 => ?_) (fun hc319 => ?_)
            · replace hx930 := ite_t hc319 hx930
              conv => whnf
              refine Side.mk rfl ?_
              conv => whnf
              intro hd672
              obtain ⟨l560, hx936, hx930⟩ := obind hx930
              conv => whnf
              refine Side.mk ⟨rfl, rfl⟩ ?_
              conv => whnf
              refine Side.mk ⟨rfl, rfl, rfl⟩ (Need.mk (app_need hN hx936 (by decide)) (Eqv.mk (List.map I l560) (app_map _ hx936) ?_))
              conv => whnf
              intro hd673
              conv => whnf
              refine Side.mk rfl ?_
              conv => whnf
              refine Side.mk rfl ?_
              conv => whnf
              intro hd676
              obtain ⟨l562, hx938, hx930⟩ := obind hx930
              conv => whnf
              refine Side.mk ⟨rfl, rfl⟩ ?_
              conv => whnf
              refine Side.mk ⟨rfl, rfl, rfl⟩ (Need.mk (app_need hN hx938 (by decide)) (Eqv.mk (List.map I l562) (app_map _ hx938) ?_))
              conv => whnf
              intro hd677
              conv => whnf
              refine Side.mk rfl ?_
              obtain ⟨x310, hx942, hx930⟩ := obind hx930
              obtain ⟨l564, hx943, hx930⟩ := obind hx930
              obtain ⟨r148, hx944, hx930⟩ := obind hx930
              conv => whnf
              refine DrawG.mk (.take 0 (.take 1 (.take 2 (.take 3 (.take 4 (.take 5 (.take 6 (.take 7 (.take 8 (.alt 9 [7, 6, 5, 4, 3, 2, 1] (.alt 10 [7, 6, 5, 4, 3, 2, 1] (.take 11 .done) .nil) .nil)))))))))) (by kernel_rfl) ?_
              conv => whnf
              refine Side.mk rfl ?_
              conv => whnf
              refine Side.mk rfl ?_
              conv => whnf
              refine Side.mk rfl ?_
              conv => whnf
              refine Side.mk ⟨rfl, rfl⟩ (Need.mk (idx_need _ hx942) ?_)
              conv => whnf
              refine Side.mk ⟨rfl, rfl⟩ ⟨_, Int.natCast_nonneg _, idx_el _ hx942, ?_⟩
              conv => whnf
              refine Both.mk ?_ trivial
              conv => whnf
              refine Side.mk rfl ?_
              conv => whnf
              refine Need.mk (slc_needL _ hx943) (Eqv.mk (List.map I l564) (slc_mapL _ hx943) ?_)
              conv => whnf
              refine Side.mk ⟨rfl, rfl⟩ ⟨_, Int.natCast_nonneg _, idx_el _ hx942, ?_⟩
              conv => whnf
              refine Need.mk (AV.le_refl _) ?_
              conv => whnf
              refine Side.mk ⟨rfl, rfl⟩ (Need.mk (idx_need _ hx942) ?_)
              conv => whnf
              refine Need.mk (AV.le_refl _) ?_
              conv => whnf
              refine Side.mk rfl ?_
              conv => whnf
              refine Need.mk (AV.le_refl _) ?_
              conv => whnf
              refine Need.mk (AV.le_refl _) ?_
              conv => whnf
              refine Side.mk rfl ?_
              conv => whnf
              refine Need.mk (AV.le_refl _) ?_
              conv => whnf
              refine Need.mk (AV.le_refl _) ?_
              conv => whnf
              refine Need.mk (AV.le_refl _) ?_
              conv => whnf
              refine Both.mk ?_ trivial
              conv => whnf
              refine CallG.pure _ (frameSumC hN hx944) ?_
              conv => whnf
              refine Side.mk ⟨rfl, rfl⟩ ⟨_, Int.natCast_nonneg _, idx_el _ hx942, ?_⟩
              conv => whnf
              refine Need.mk (AV.le_refl _) ?_
              conv => whnf
              refine Side.mk ⟨rfl, rfl⟩ (Need.mk (idx_need _ hx942) ?_)
              conv => whnf
              refine Need.mk (AV.le_refl _) ?_
              conv => whnf
              refine Side.mk rfl ?_
              conv => whnf
              refine Need.mk (AV.le_refl _) ?_
              conv => whnf
              refine Need.mk (AV.le_refl _) ?_
              conv => whnf
              refine Side.mk rfl ?_
              conv => whnf
              refine Need.mk (AV.le_refl _) ?_
              conv => whnf
              refine Need.mk (AV.le_refl _) ?_
              conv => whnf
              refine Need.mk (AV.le_refl _) ?_
              obtain ⟨⟨v66, l565⟩, hx945, hx930⟩ := obind hx930
              conv => whnf
              refine SeqG.mk Unit (fun y => [(7, .ptr 7 b6 0), (8, .ptr 8 b8 0), (10, .ptr 10 b84 0), (81, .d (.bool v66))]) (fun y => [(7, .cells b6 [.sl 50 hd677]), (8, .cells b8 [.sl 18 hd2]), (10, .cells b84 [.d (I x288), .d (I c8.fAt.fFrame), .d (I rb28), .d (I ra28.fLaw.fFrames), .d (I ra28.fLaw.fPins), .d (I ra28.fLaw.fBalls), .d (I ra28.fLaw.fTap), .d (I ra28.fAt.fFrame), .d (I ra28.fAt.fThrown), .d (I ra28.fAt.fStanding), .d (.bool ra28.fAt.fFresh), .d (I ra28.fAt.fNeed), .d (I ra28.fAt.fAfter.a0), .d (I ra28.fAt.fAfter.a1)]), (5, .cells b2 [.sl 28 hd669]), (6, .cells b5 [.sl 47 hd673]), (2004, .cells b48 [.d (I c8.fLaw.fFrames), .d (I c8.fLaw.fPins), .d (I c8.fLaw.fBalls), .d (I c8.fLaw.fTap), .d (I c8.fAt.fFrame), .d (I c8.fAt.fThrown), .d (I c8.fAt.fStanding), .d (.bool c8.fAt.fFresh), .d (I c8.fAt.fNeed), .d (I c8.fAt.fAfter.a0), .d (I c8.fAt.fAfter.a1)]), (2008, .cells b80 [.d (I ra28.fLaw.fFrames), .d (I ra28.fLaw.fPins), .d (I ra28.fLaw.fBalls), .d (I ra28.fLaw.fTap), .d (I ra28.fAt.fFrame), .d (I ra28.fAt.fThrown), .d (I ra28.fAt.fStanding), .d (.bool ra28.fAt.fFresh), .d (I ra28.fAt.fNeed), .d (I ra28.fAt.fAfter.a0), .d (I ra28.fAt.fAfter.a1)]), (50, .arr hd677 3 1 false (List.map I l562)), (18, .arr hd2 3 1 false (List.map I l565)), (28, .arr hd669 3 1 true (List.map I l558)), (47, .arr hd673 3 1 false (List.map I l560))]) (fun _ => True) ?_ ?_
              · conv => whnf
                refine Side.mk rfl ?_
                conv => whnf
                refine Br.mk (fun hc322 => ?_) (fun hc322 => ?_)
                · replace hx945 := ite_t hc322 hx945
                  conv => whnf
                  refine Br.mk (fun hc323 => ?_) (fun hc323 => ?_)
                  · replace hx945 := ite_t hc323 hx945
                    conv => whnf
                    refine Side.mk rfl ?_
                    conv => whnf
                    refine Side.mk rfl ?_
                    conv => whnf
                    refine Side.mk ⟨rfl, rfl⟩ (Need.mk (idx_need _ hx942) ?_)
                    conv => whnf
                    refine Side.mk ⟨rfl, rfl⟩ ⟨_, Int.natCast_nonneg _, idx_el _ hx942, ?_⟩
                    cases hx945
                    conv => whnf
                    refine ⟨(), trivial, Sub.eq rfl ?_ ?_⟩
                    · repeat ((conv => whnf); refine Need.mk rfl ?_)
                      exact trivial
                    · conv => whnf
                      refine Need.mk (OLe.refl _) ?_
                      conv => whnf
                      refine Need.mk (OLe.refl _) ?_
                      conv => whnf
                      refine Need.mk (OLe.refl _) ?_
                      conv => whnf
                      refine Need.mk (OLe.refl _) ?_
                      conv => whnf
                      refine Need.mk (OLe.refl _) ?_
                      conv => whnf
                      refine Need.mk (OLe.refl _) ?_
                      conv => whnf
                      refine Need.mk (OLe.refl _) ?_
                      conv => whnf
                      refine Need.mk (OLe.refl _) ?_
                      conv => whnf
                      refine Need.mk (OLe.refl _) ?_
                      conv => whnf
                      refine Need.mk (OLe.refl _) ?_
                      conv => whnf
                      refine Need.mk (OLe.refl _) ?_
                      exact trivial
                  · replace hx945 := ite_f hc323 hx945
                    cases hx945
                    conv => whnf
                    refine ⟨(), trivial, Sub.eq rfl ?_ ?_⟩
                    · repeat ((conv => whnf); refine Need.mk rfl ?_)
                      exact trivial
                    · conv => whnf
                      refine Need.mk (OLe.refl _) ?_
                      conv => whnf
                      refine Need.mk (OLe.refl _) ?_
                      conv => whnf
                      refine Need.mk (OLe.refl _) ?_
                      conv => whnf
                      refine Need.mk (OLe.refl _) ?_
                      conv => whnf
                      refine Need.mk (OLe.refl _) ?_
                      conv => whnf
                      refine Need.mk (OLe.refl _) ?_
                      conv => whnf
                      refine Need.mk (OLe.refl _) ?_
                      conv => whnf
                      refine Need.mk (OLe.refl _) ?_
                      conv => whnf
                      refine Need.mk (OLe.refl _) ?_
                      conv => whnf
                      refine Need.mk (OLe.refl _) ?_
                      conv => whnf
                      refine Need.mk (OLe.refl _) ?_
                      exact trivial
                · replace hx945 := ite_f hc322 hx945
                  cases hx945
                  conv => whnf
                  refine ⟨(), trivial, Sub.eq rfl ?_ ?_⟩
                  · repeat ((conv => whnf); refine Need.mk rfl ?_)
                    exact trivial
                  · conv => whnf
                    refine Need.mk (OLe.refl _) ?_
                    conv => whnf
                    refine Need.mk (OLe.refl _) ?_
                    conv => whnf
                    refine Need.mk (OLe.refl _) ?_
                    conv => whnf
                    refine Need.mk (OLe.refl _) ?_
                    conv => whnf
                    refine Need.mk (OLe.refl _) ?_
                    conv => whnf
                    refine Need.mk (OLe.refl _) ?_
                    conv => whnf
                    refine Need.mk (OLe.refl _) ?_
                    conv => whnf
                    refine Need.mk (OLe.refl _) ?_
                    conv => whnf
                    refine Need.mk (OLe.refl _) ?_
                    conv => whnf
                    refine Need.mk (OLe.refl _) ?_
                    conv => whnf
                    refine Need.mk (OLe.refl _) ?_
                    exact trivial
              · rintro _ _
                conv => whnf
                refine Br.mk (fun hc324 => ?_) (fun hc324 => ?_)
                · replace hx930 := ite_t hc324 hx930
                  obtain ⟨x311, hx946, hx930⟩ := obind hx930
                  obtain ⟨x312, hx947, hx930⟩ := obind hx930
                  conv => whnf
                  refine DrawG.mk (.take 0 (.take 1 (.take 2 (.take 3 (.take 4 (.take 5 (.take 6 (.take 7 (.take 8 (.take 9 (.alt 10 [] .done .nil))))))))))) (by kernel_rfl) ?_
                  conv => whnf
                  refine Side.mk rfl ?_
                  conv => whnf
                  refine Side.mk rfl ?_
                  conv => whnf
                  refine Side.mk rfl ?_
                  conv => whnf
                  refine Side.mk rfl ?_
                  conv => whnf
                  refine Side.mk ⟨rfl, rfl⟩ (Need.mk (idx_need _ hx946) ?_)
                  conv => whnf
                  refine Side.mk ⟨rfl, rfl⟩ ⟨_, Int.natCast_nonneg _, idx_el _ hx946, ?_⟩
                  conv => whnf
                  refine Side.mk ⟨rfl, rfl⟩ (Need.mk (idx_need _ hx947) ?_)
                  conv => whnf
                  refine Both.mk ?_ trivial
                  conv => whnf
                  refine Side.mk ⟨rfl, rfl⟩ ⟨_, Int.natCast_nonneg _, idx_el _ hx947, ?_⟩
                  conv => whnf
                  refine Eqv.mk (List.map I (List.set l562 (Int.toNat c8.fAt.fFrame) (w64 (3 - x311)))) (set_map _ _ _ _ rfl) ?_
                  cases hx930
                  conv => whnf
                  refine ⟨(hd669, hd673, hd677), trivial, Sub.eq rfl ?_ ?_⟩
                  · repeat ((conv => whnf); refine Need.mk rfl ?_)
                    exact trivial
                  · conv => whnf
                    refine Need.mk (OLe.refl _) ?_
                    conv => whnf
                    refine Need.mk (OLe.refl _) ?_
                    conv => whnf
                    refine Need.mk (OLe.refl _) ?_
                    conv => whnf
                    refine Need.mk (OLe.refl _) ?_
                    conv => whnf
                    refine Need.mk (OLe.refl _) ?_
                    conv => whnf
                    refine Need.mk (OLe.refl _) ?_
                    conv => whnf
                    refine Need.mk (OLe.refl _) ?_
                    conv => whnf
                    refine Need.mk (OLe.refl _) ?_
                    conv => whnf
                    refine Need.mk (OLe.refl _) ?_
                    conv => whnf
                    refine Need.mk (OLe.refl _) ?_
                    conv => whnf
                    refine Need.mk (OLe.refl _) ?_
                    exact trivial
                · replace hx930 := ite_f hc324 hx930
                  cases hx930
                  conv => whnf
                  refine ⟨(hd669, hd673, hd677), trivial, Sub.eq rfl ?_ ?_⟩
                  · repeat ((conv => whnf); refine Need.mk rfl ?_)
                    exact trivial
                  · conv => whnf
                    refine Need.mk (OLe.refl _) ?_
                    conv => whnf
                    refine Need.mk (OLe.refl _) ?_
                    conv => whnf
                    refine Need.mk (OLe.refl _) ?_
                    conv => whnf
                    refine Need.mk (OLe.refl _) ?_
                    conv => whnf
                    refine Need.mk (OLe.refl _) ?_
                    conv => whnf
                    refine Need.mk (OLe.refl _) ?_
                    conv => whnf
                    refine Need.mk (OLe.refl _) ?_
                    conv => whnf
                    refine Need.mk (OLe.refl _) ?_
                    conv => whnf
                    refine Need.mk (OLe.refl _) ?_
                    conv => whnf
                    refine Need.mk (OLe.refl _) ?_
                    conv => whnf
                    refine Need.mk (OLe.refl _) ?_
                    exact trivial
            · replace hx930 := ite_f hc319 hx930
              cases hx930
              conv => whnf
              refine ⟨(hd669, hd568, hd569), trivial, Sub.eq rfl ?_ ?_⟩
              · repeat ((conv => whnf); refine Need.mk rfl ?_)
                exact trivial
              · conv => whnf
                refine Need.mk (OLe.refl _) ?_
                conv => whnf
                refine Need.mk (OLe.refl _) ?_
                conv => whnf
                refine Need.mk (OLe.refl _) ?_
                conv => whnf
                refine Need.mk (OLe.refl _) ?_
                conv => whnf
                refine Need.mk (OLe.refl _) ?_
                conv => whnf
                refine Need.mk (OLe.refl _) ?_
                conv => whnf
                refine Need.mk (OLe.refl _) ?_
                conv => whnf
                refine Need.mk (OLe.refl _) ?_
                conv => whnf
                refine Need.mk (OLe.refl _) ?_
                conv => whnf
                refine Need.mk (OLe.refl _) ?_
                conv => whnf
                refine Need.mk (OLe.refl _) ?_
                exact trivial
          · rintro ⟨hd663, hd664, hd665⟩ _
            conv => whnf
            refine Side.mk rfl ?_
            conv => whnf
            refine Side.mk rfl ?_
            conv => whnf
            refine ⟨(n2, (v57, w64 (v58 + 1), ra28, l553, l554, l555, l556), hd663, hd664, hd665), hl2, Sub.eq rfl ?_ ?_, Nat.lt_succ_self _⟩
            · repeat ((conv => whnf); refine Need.mk rfl ?_)
              exact trivial
            · conv => whnf
              refine Need.mk (OLe.refl _) ?_
              conv => whnf
              refine Need.mk (OLe.refl _) ?_
              conv => whnf
              refine Need.mk (OLe.refl _) ?_
              conv => whnf
              refine Need.mk (OLe.refl _) ?_
              conv => whnf
              refine Need.mk (OLe.refl _) ?_
              conv => whnf
              refine Need.mk (OLe.refl _) ?_
              conv => whnf
              refine Need.mk (OLe.refl _) ?_
              conv => whnf
              refine Need.mk (OLe.refl _) ?_
              conv => whnf
              refine Need.mk (OLe.refl _) ?_
              conv => whnf
              refine Need.mk (OLe.refl _) ?_
              exact trivial
      · replace hl2 := ite_f hc272 hl2
        conv => whnf
        refine Side.mk ⟨rfl, rfl⟩ ?_
        cases hl2
        conv => whnf
        refine ⟨(hd567, hd568, hd569), trivial, Sub.eq rfl ?_ ?_⟩
        · repeat ((conv => whnf); refine Need.mk rfl ?_)
          exact trivial
        · conv => whnf
          refine Need.mk (OLe.refl _) ?_
          conv => whnf
          refine Need.mk (OLe.refl _) ?_
          conv => whnf
          refine Need.mk (OLe.refl _) ?_
          conv => whnf
          refine Need.mk (OLe.refl _) ?_
          conv => whnf
          refine Need.mk (OLe.refl _) ?_
          conv => whnf
          refine Need.mk (OLe.refl _) ?_
          exact trivial
  · rintro ⟨hd339, hd340, hd341⟩ _
    conv => whnf
    refine SeqG.mk ((List Int) × Value) (fun y => [(4, .sl 132 y.2)]) (fun y => [(132, .arr y.2 3 1 false (List.map I y.1))]) (fun y => frameLawCounts_k2 N y.1 = some r) ?_ ?_
    · conv => whnf
      refine Side.mk rfl ?_
      conv => whnf
      refine Side.mk rfl (Ln.mk _ (List.length_map _) ?_)
      conv => whnf
      refine LoopG.mk (Nat × (Int × Int × Int × (List Int)) × Value) (fun y => [(4, .sl 132 y.2.2), (5, .ptr 5 b2 0), (7, .ptr 7 b6 0), (12, .d (I y.2.1.1)), (92, .sl 47 hd340), (93, .d (I y.2.1.2.1)), (94, .d (I y.2.1.2.2.1))]) (fun y => [(132, .arr y.2.2 3 1 false (List.map I y.2.1.2.2.2)), (5, .cells b2 [.sl 28 hd339]), (7, .cells b6 [.sl 50 hd341]), (47, .arr hd340 3 1 false (List.map I l284)), (28, .arr hd339 3 1 true (List.map I l283)), (50, .arr hd341 3 1 false (List.map I l285))]) (fun y => loopN (fun rr x => frameLawCounts_b3 N l283 l284 l285 rr x.1 x.2.1 x.2.2.1 x.2.2.2) y.1 y.2.1 = some r) (fun y => y.1) (N, (0, (l284.length : Int), 0, []), (.slice none 0 0)) h (Sub.eq rfl ?_ ?_) ?_
      · repeat ((conv => whnf); refine Need.mk rfl ?_)
        exact trivial
      · conv => whnf
        refine Need.mk (OLe.nil _ _ _ _) ?_
        conv => whnf
        refine Need.mk (OLe.refl _) ?_
        conv => whnf
        refine Need.mk (OLe.refl _) ?_
        conv => whnf
        refine Need.mk (OLe.refl _) ?_
        conv => whnf
        refine Need.mk (OLe.refl _) ?_
        conv => whnf
        refine Need.mk (OLe.refl _) ?_
        exact trivial
      · rintro ⟨n4, ⟨v96, v97, v98, l614⟩, hd738⟩ hl4
        obtain ⟨n4, rfl, hl4⟩ := loopN_some hl4
        replace hl4 : frameLawCounts_b3 N l283 l284 l285 (loopN (fun rr x => frameLawCounts_b3 N l283 l284 l285 rr x.1 x.2.1 x.2.2.1 x.2.2.2) n4) v96 v97 v98 l614 = some r := hl4
        rw [frameLawCounts_b3] at hl4
        conv => whnf
        refine Br.mk (fun hc368 => ?_) (fun hc368 => ?_)
        · replace hl4 := ite_t hc368 hl4
          obtain ⟨x394, hx1120, hl4⟩ := obind hl4
          conv => whnf
          refine Side.mk ⟨rfl, rfl⟩ (Need.mk (idx_need _ hx1120) ?_)
          conv => whnf
          refine Side.mk ⟨rfl, rfl⟩ ⟨_, Int.natCast_nonneg _, idx_el _ hx1120, ?_⟩
          obtain ⟨x398, hx1124, hl4⟩ := obind hl4
          conv => whnf
          refine DrawG.mk (.take 0 (.take 1 (.take 2 (.take 3 (.take 4 (.take 5 (.take 6 (.take 7 (.take 8 .done))))))))) (by kernel_rfl) ?_
          conv => whnf
          refine Side.mk rfl ?_
          conv => whnf
          refine Side.mk ⟨rfl, rfl⟩ (Need.mk (idx_need _ hx1124) ?_)
          conv => whnf
          refine Side.mk ⟨rfl, rfl⟩ ⟨_, Int.natCast_nonneg _, idx_el _ hx1124, ?_⟩
          conv => whnf
          refine Side.mk rfl ?_
          conv => whnf
          refine Side.mk rfl (Ln.mk _ (List.length_map _) ?_)
          conv => whnf
          refine Br.mk (fun hc374 => ?_) (fun hc374 => ?_)
          · replace hl4 := ite_t hc374 hl4
            conv => whnf
            refine Side.mk rfl ?_
            conv => whnf
            cases hl4
            exact rfl
          · replace hl4 := ite_f hc374 hl4
            obtain ⟨l620, hx1127, hl4⟩ := obind hl4
            obtain ⟨r186, hx1128, hl4⟩ := obind hl4
            conv => whnf
            refine DrawG.mk (.take 0 (.take 1 (.take 2 (.take 3 (.take 4 (.take 5 (.take 6 (.take 7 (.alt 8 [6, 5, 4, 3, 2] (.alt 9 [6, 5, 4, 3, 2] (.take 10 .done) .nil) .nil))))))))) (by kernel_rfl) ?_
            conv => whnf
            refine Side.mk rfl ?_
            conv => whnf
            refine Side.mk rfl ?_
            conv => whnf
            refine Side.mk ⟨rfl, rfl⟩ (Need.mk (idx_need _ hx1124) ?_)
            conv => whnf
            refine Side.mk ⟨rfl, rfl⟩ ⟨_, Int.natCast_nonneg _, idx_el _ hx1124, ?_⟩
            conv => whnf
            refine Both.mk ?_ trivial
            conv => whnf
            refine Side.mk rfl ?_
            conv => whnf
            refine Need.mk (slc_need _ hx1127) (Eqv.mk (List.map I l620) (slc_map _ hx1127) ?_)
            conv => whnf
            refine Side.mk ⟨rfl, rfl⟩ ⟨_, Int.natCast_nonneg _, idx_el _ hx1124, ?_⟩
            conv => whnf
            refine Need.mk (AV.le_refl _) ?_
            conv => whnf
            refine Side.mk ⟨rfl, rfl⟩ (Need.mk (idx_need _ hx1124) ?_)
            conv => whnf
            refine Need.mk (AV.le_refl _) ?_
            conv => whnf
            refine Need.mk (AV.le_refl _) ?_
            conv => whnf
            refine Side.mk rfl ?_
            conv => whnf
            refine Need.mk (AV.le_refl _) ?_
            conv => whnf
            refine Need.mk (AV.le_refl _) ?_
            conv => whnf
            refine Both.mk ?_ trivial
            conv => whnf
            refine CallG.pure _ (frameSumC hN hx1128) ?_
            conv => whnf
            refine Side.mk ⟨rfl, rfl⟩ ⟨_, Int.natCast_nonneg _, idx_el _ hx1124, ?_⟩
            conv => whnf
            refine Need.mk (AV.le_refl _) ?_
            conv => whnf
            refine Side.mk ⟨rfl, rfl⟩ (Need.mk (idx_need _ hx1124) ?_)
            conv => whnf
            refine Need.mk (AV.le_refl _) ?_
            conv => whnf
            refine Need.mk (AV.le_refl _) ?_
            conv => whnf
            refine Side.mk rfl ?_
            conv => whnf
            refine Need.mk (AV.le_refl _) ?_
            conv => whnf
            refine Need.mk (AV.le_refl _) ?_
            obtain ⟨v100, hx1131, hl4⟩ := obind hl4
            conv => whnf
            refine SeqG.mk Unit (fun y => [(4, .sl 132 hd738), (5, .ptr 5 b2 0), (7, .ptr 7 b6 0), (14, .d (I x394)), (15, .d (I v100)), (92, .sl 47 hd340), (93, .d (I v97)), (94, .d (I v98))]) (fun y => [(132, .arr hd738 3 1 false (List.map I l614)), (5, .cells b2 [.sl 28 hd339]), (7, .cells b6 [.sl 50 hd341]), (47, .arr hd340 3 1 false (List.map I l284)), (28, .arr hd339 3 1 true (List.map I l283)), (50, .arr hd341 3 1 false (List.map I l285))]) (fun _ => True) ?_ ?_
            · conv => whnf
              refine Br.mk (fun hc376 => ?_) (fun hc376 => ?_)
              · replace hx1131 := ite_t hc376 hx1131
                obtain ⟨x400, hx1132, hx1131⟩ := obind hx1131
                conv => whnf
                refine Side.mk ⟨rfl, rfl⟩ (Need.mk (idx_need _ hx1132) ?_)
                conv => whnf
                refine Side.mk ⟨rfl, rfl⟩ ⟨_, Int.natCast_nonneg _, idx_el _ hx1132, ?_⟩
                conv => whnf
                intro hd746
                obtain ⟨r188, hx1133, hx1131⟩ := obind hx1131
                conv => whnf
                refine Side.mk rfl ?_
                conv => whnf
                refine CallG.pure _ (frameSumC hN hx1133) ?_
                cases hx1131
                conv => whnf
                refine ⟨(), trivial, Sub.eq rfl ?_ ?_⟩
                · repeat ((conv => whnf); refine Need.mk rfl ?_)
                  exact trivial
                · conv => whnf
                  refine Need.mk (OLe.refl _) ?_
                  conv => whnf
                  refine Need.mk (OLe.refl _) ?_
                  conv => whnf
                  refine Need.mk (OLe.refl _) ?_
                  conv => whnf
                  refine Need.mk (OLe.refl _) ?_
                  conv => whnf
                  refine Need.mk (OLe.refl _) ?_
                  conv => whnf
                  refine Need.mk (OLe.refl _) ?_
                  exact trivial
              · replace hx1131 := ite_f hc376 hx1131
                cases hx1131
                conv => whnf
                refine ⟨(), trivial, Sub.eq rfl ?_ ?_⟩
                · repeat ((conv => whnf); refine Need.mk rfl ?_)
                  exact trivial
                · conv => whnf
                  refine Need.mk (OLe.refl _) ?_
                  conv => whnf
                  refine Need.mk (OLe.refl _) ?_
                  conv => whnf
                  refine Need.mk (OLe.refl _) ?_
                  conv => whnf
                  refine Need.mk (OLe.refl _) ?_
                  conv => whnf
                  refine Need.mk (OLe.refl _) ?_
                  conv => whnf
                  refine Need.mk (OLe.refl _) ?_
                  exact trivial
            · rintro _ _
              conv => whnf
              intro hd749
              obtain ⟨l622, hx1135, hl4⟩ := obind hl4
              conv => whnf
              refine Side.mk ⟨rfl, rfl⟩ ?_
              conv => whnf
              refine Side.mk ⟨rfl, rfl, rfl⟩ (Need.mk (app_need hN hx1135 (by decide)) (Eqv.mk (List.map I l622) (app_map _ hx1135) ?_))
              conv => whnf
              intro hd750
              conv => whnf
              refine ⟨(n4, (x394, v97, w64 (v98 + 1), l622), hd750), hl4, Sub.eq rfl ?_ ?_, Nat.lt_succ_self _⟩
              · repeat ((conv => whnf); refine Need.mk rfl ?_)
                exact trivial
              · conv => whnf
                refine Need.mk (OLe.refl _) ?_
                conv => whnf
                refine Need.mk (OLe.refl _) ?_
                conv => whnf
                refine Need.mk (OLe.refl _) ?_
                conv => whnf
                refine Need.mk (OLe.refl _) ?_
                conv => whnf
                refine Need.mk (OLe.refl _) ?_
                conv => whnf
                refine Need.mk (OLe.refl _) ?_
                exact trivial
        · replace hl4 := ite_f hc368 hl4
          conv => whnf
          refine ⟨(l614, hd738), hl4, Sub.eq rfl ?_ ?_⟩
          · repeat ((conv => whnf); refine Need.mk rfl ?_)
            exact trivial
          · conv => whnf
            refine Need.mk (OLe.refl _) ?_
            exact trivial
    · clear h
      rintro ⟨l594, hd714⟩ h
      unfold frameLawCounts_k2 at h
      conv => whnf
      refine Side.mk rfl ?_
      conv => whnf
      cases h
      exact rfl

theorem frameReadC {N : Nat} (hN : N ≤ 1073741824) {a1 : FrameLaw} {a2 : List Int} {r : FrameGame × Int} (h : frameRead N a1 a2 = some r) :
    ACalls Try.prog 9 [.d (.agg [I a1.fFrames, I a1.fPins, I a1.fBalls, I a1.fTap]), .d (.list 1 (List.map I a2))] [] fun e os => e = .ret (.d (.tup [.agg [.list 1 (List.map (fun x => .list 1 (List.map I x)) r.1.fFrames), .list 1 (List.map I r.1.fCounts), I r.1.fStanding, .bool r.1.fDone], I r.2])) ∧ os = [] := by
  refine acalls_f (fresh := false) tt_ok dr_ok ⟨[2], [35], [], [], [1005, 1007, 1011], 0⟩ Try.func9 rfl Try.call9 rfl ?_
  unfold frameRead at h
  conv => whnf
  intro b2
  obtain ⟨r4, hx4, h⟩ := obind h
  conv => whnf
  refine CallG.pure _ (frameLawCheckC hN hx4) ?_
  conv => whnf
  refine Br.mk (fun hc2 => ?_) (fun hc2 => ?_)
  · replace h := ite_t hc2 h
    conv => whnf
    refine Side.mk rfl ?_
    conv => whnf
    refine Side.mk rfl ?_
    conv => whnf
    cases h
    exact rfl
  · replace h := ite_f hc2 h
    obtain ⟨r6, hx6, h⟩ := obind h
    conv => whnf
    refine CallG.pure _ (frameLawCountsC hN hx6) ?_
    conv => whnf
    intro b4
    conv => whnf
    refine Side.mk rfl ?_
    obtain ⟨l85, hx163, h⟩ := obind h
    conv => whnf
    refine SeqG.mk (Value × (Nat → Value)) (fun y => [(1, .d (.list 1 (List.map I a2))), (2, .d (.ref (.agg [I a1.fFrames, I a1.fPins, I a1.fBalls, I a1.fTap]))), (4, .ptr 4 b2 0), (7, .ptr 7 b4 0)]) (fun y => [(4, .cells b2 [.nils 1, .nils 1, .d (I 0), .d (.bool false)]), (7, .cells b4 [.sl 36 y.1, .d (.list 1 (List.map I r6)), .d (I 0), .d (.bool false)]), (36, .rows y.1 29 3 1 y.2 none (List.map (List.map I) l85))]) (fun _ => True) ?_ ?_
    · obtain ⟨⟨ra16, rb16⟩, hx165, hx163⟩ := obind hx163
      conv => whnf
      refine CallG.pure _ (frameLawBallsC hN hx165) ?_
      conv => whnf
      intro lp2 rc14
      refine IterG.mk _ _ ⟨[], [], [], [], [], 2000⟩ Try.func35 rfl Try.call35 rfl rfl ?_
      obtain ⟨r34, hx167, hx163⟩ := obind hx163
      conv => whnf
      refine CallG.pure _ (frameLawBeginC hN hx167) ?_
      conv => whnf
      intro b44
      conv => whnf
      refine Side.mk rfl ?_
      conv => whnf
      refine Ln.mk _ (List.length_map _) ?_
      conv => whnf
      refine LoopG.mk (Nat × (Int × Int × FramePlay × (List (List Int))) × Value × (Nat → Value)) (fun y => [(0, .fn (.yield lp2) [] []), (4, .ptr 2004 b44 0), (13, .d (.list 1 (List.map I rb16))), (14, .d (I y.2.1.1)), (15, .d (I y.2.1.2.1))]) (fun y => [(2004, .cells b44 [.d (I y.2.1.2.2.1.fLaw.fFrames), .d (I y.2.1.2.2.1.fLaw.fPins), .d (I y.2.1.2.2.1.fLaw.fBalls), .d (I y.2.1.2.2.1.fLaw.fTap), .d (I y.2.1.2.2.1.fAt.fFrame), .d (I y.2.1.2.2.1.fAt.fThrown), .d (I y.2.1.2.2.1.fAt.fStanding), .d (.bool y.2.1.2.2.1.fAt.fFresh), .d (I y.2.1.2.2.1.fAt.fNeed), .d (I y.2.1.2.2.1.fAt.fAfter.a0), .d (I y.2.1.2.2.1.fAt.fAfter.a1)]), (4, .cells b2 [.nils 1, .nils 1, .d (I 0), .d (.bool false)]), (7, .cells b4 [.sl 36 y.2.2.1, .d (.list 1 (List.map I r6)), .d (I 0), .d (.bool false)]), (1000, .loop lp2 rc14 none), (36, .rows y.2.2.1 29 3 1 y.2.2.2 none (List.map (List.map I) y.2.1.2.2.2))]) (fun y => loopN (fun rr x => frameRead_b1 N rb16 rr x.1 x.2.1 x.2.2.1 x.2.2.2) y.1 y.2.1 = some l85) (fun y => y.1) (N, ((rb16.length : Int), 0, r34, []), (.slice none 0 0), (fun _ => .slice none 0 0)) hx163 (Sub.eq rfl ?_ ?_) ?_
      · repeat ((conv => whnf); refine Need.mk rfl ?_)
        exact trivial
      · conv => whnf
        refine Need.mk (OLe.refl _) ?_
        conv => whnf
        refine Need.mk (OLe.refl _) ?_
        conv => whnf
        refine Need.mk (OLe.cells _ _ _ (by repeat (first | exact trivial | ((conv => whnf); refine Need.mk rfl ?_)))) ?_
        conv => whnf
        refine Need.mk (OLe.refl _) ?_
        conv => whnf
        refine Need.mk (OLe.nilrows _ _ _ _ _) ?_
        exact trivial
      · rintro ⟨n2, ⟨v17, v18, c8, l137⟩, hd337, hs177⟩ hl2
        obtain ⟨n2, rfl, hl2⟩ := loopN_some hl2
        replace hl2 : frameRead_b1 N rb16 (loopN (fun rr x => frameRead_b1 N rb16 rr x.1 x.2.1 x.2.2.1 x.2.2.2) n2) v17 v18 c8 l137 = some l85 := hl2
        rw [frameRead_b1] at hl2
        conv => whnf
        refine Br.mk (fun hc114 => ?_) (fun hc114 => ?_)
        · replace hl2 := ite_t hc114 hl2
          obtain ⟨x68, hx293, hl2⟩ := obind hl2
          conv => whnf
          refine Side.mk rfl ⟨_, idx_0 hx293, idx_map _ hx293, ?_⟩
          conv => whnf
          refine Side.mk rfl ?_
          obtain ⟨r58, hx297, hl2⟩ := obind hl2
          conv => whnf
          refine CallG.pure _ (framePlayMayC hN hx297) ?_
          conv => whnf
          refine Br.mk (fun hc126 => ?_) (fun hc126 => ?_)
          · replace hl2 := ite_t hc126 hl2
            conv => whnf
            refine Side.mk ⟨rfl, rfl⟩ ?_
            cases hl2
            conv => whnf
            refine ⟨(hd337, hs177), trivial, Sub.eq rfl ?_ ?_⟩
            · repeat ((conv => whnf); refine Need.mk rfl ?_)
              exact trivial
            · conv => whnf
              refine Need.mk (OLe.refl _) ?_
              conv => whnf
              refine Need.mk (OLe.refl _) ?_
              conv => whnf
              refine Need.mk (OLe.refl _) ?_
              exact trivial
          · replace hl2 := ite_f hc126 hl2
            conv => whnf
            refine Side.mk rfl ?_
            obtain ⟨⟨ra28, rb28, rc26⟩, hx299, hl2⟩ := obind hl2
            conv => whnf
            refine CallG.pure _ (framePlayNextC hN hx299) ?_
            conv => whnf
            intro b76
            conv => whnf
            refine Side.mk rfl ?_
            conv => whnf
            refine Side.mk rfl ?_
            conv => whnf
            refine Side.mk rfl ?_
            conv => whnf
            refine Side.mk ⟨rfl, rfl, rfl⟩ ?_
            conv => whnf
            intro b80
            conv => whnf
            refine Side.mk rfl ?_
            obtain ⟨l167, hx316, hl2⟩ := obind hl2
            conv => whnf
            refine SeqG.mk (Value × (Nat → Value)) (fun y => [(7, .ptr 7 b4 0), (9, .ptr 9 b80 0)]) (fun y => [(7, .cells b4 [.sl 36 y.1, .d (.list 1 (List.map I r6)), .d (I 0), .d (.bool false)]), (9, .cells b80 [.d (I x68), .d (I c8.fAt.fFrame), .d (I rb28), .d (I ra28.fLaw.fFrames), .d (I ra28.fLaw.fPins), .d (I ra28.fLaw.fBalls), .d (I ra28.fLaw.fTap), .d (I ra28.fAt.fFrame), .d (I ra28.fAt.fThrown), .d (I ra28.fAt.fStanding), .d (.bool ra28.fAt.fFresh), .d (I ra28.fAt.fNeed), .d (I ra28.fAt.fAfter.a0), .d (I ra28.fAt.fAfter.a1)]), (4, .cells b2 [.nils 1, .nils 1, .d (I 0), .d (.bool false)]), (2004, .cells b44 [.d (I c8.fLaw.fFrames), .d (I c8.fLaw.fPins), .d (I c8.fLaw.fBalls), .d (I c8.fLaw.fTap), .d (I c8.fAt.fFrame), .d (I c8.fAt.fThrown), .d (I c8.fAt.fStanding), .d (.bool c8.fAt.fFresh), .d (I c8.fAt.fNeed), .d (I c8.fAt.fAfter.a0), .d (I c8.fAt.fAfter.a1)]), (2008, .cells b76 [.d (I ra28.fLaw.fFrames), .d (I ra28.fLaw.fPins), .d (I ra28.fLaw.fBalls), .d (I ra28.fLaw.fTap), .d (I ra28.fAt.fFrame), .d (I ra28.fAt.fThrown), .d (I ra28.fAt.fStanding), .d (.bool ra28.fAt.fFresh), .d (I ra28.fAt.fNeed), .d (I ra28.fAt.fAfter.a0), .d (I ra28.fAt.fAfter.a1)]), (36, .rows y.1 29 3 1 y.2 none (List.map (List.map I) l167))]) (fun _ => True) ?_ ?_
            · conv => whnf
              refine Side.mk rfl ?_
              conv => whnf
              refine Side.mk rfl ?_
              conv => whnf
              refine Side.mk rfl (LnN.mk _ (List.length_map _) ?_)
              conv => whnf
              refine Br.mk (fun hc134 => ?_) (fun hc134 => ?_)
              · replace hx316 := ite_t hc134 hx316
                conv => whnf
                refine Side.mk rfl ?_
                conv => whnf
                intro hd404
                obtain ⟨l168, hx317, hx316⟩ := obind hx316
                conv => whnf
                refine Side.mk ⟨rfl, rfl⟩ ?_
                conv => whnf
                refine Side.mk ⟨rfl, rfl, rfl⟩ (Need.mk (app_need (f := List.map I) hN hx317 (by decide)) (REqv.mk (List.map (List.map I) l168) (app_map (List.map I) hx317) ?_))
                conv => whnf
                intro hd405 hs215
                conv => whnf
                refine Side.mk rfl ?_
                cases hx316
                conv => whnf
                refine ⟨(hd405, hs215), trivial, Sub.eq rfl ?_ ?_⟩
                · repeat ((conv => whnf); refine Need.mk rfl ?_)
                  exact trivial
                · conv => whnf
                  refine Need.mk (OLe.refl _) ?_
                  conv => whnf
                  refine Need.mk (OLe.refl _) ?_
                  conv => whnf
                  refine Need.mk (OLe.refl _) ?_
                  conv => whnf
                  refine Need.mk (OLe.refl _) ?_
                  conv => whnf
                  refine Need.mk (OLe.refl _) ?_
                  conv => whnf
                  refine Need.mk (OLe.refl _) ?_
                  exact trivial
              · replace hx316 := ite_f hc134 hx316
                cases hx316
                conv => whnf
                refine ⟨(hd337, hs177), trivial, Sub.eq rfl ?_ ?_⟩
                · repeat ((conv => whnf); refine Need.mk rfl ?_)
                  exact trivial
                · conv => whnf
                  refine Need.mk (OLe.refl _) ?_
                  conv => whnf
                  refine Need.mk (OLe.refl _) ?_
                  conv => whnf
                  refine Need.mk (OLe.refl _) ?_
                  conv => whnf
                  refine Need.mk (OLe.refl _) ?_
                  conv => whnf
                  refine Need.mk (OLe.refl _) ?_
                  conv => whnf
                  refine Need.mk (OLe.refl _) ?_
                  exact trivial
            · rintro ⟨hd403, hs214⟩ _
              obtain ⟨x72, hx318, hl2⟩ := obind hl2
              obtain ⟨l169, hx319, hl2⟩ := obind hl2
              conv => whnf
              refine DrawG.mk (.take 0 (.take 1 (.take 2 (.take 3 (.take 4 (.take 5 (.take 6 (.take 7 (.take 8 (.take 9 (.take 10 (.take 11 (.alt 12 [10, 9, 8, 7, 6, 5, 4, 3, 2, 1, 0] (.alt 13 [10, 8, 7, 6, 5, 4, 3, 2, 1, 0] (.take 14 (.alt 15 [] .done .nil)) .nil) .nil))))))))))))) (by kernel_rfl) ?_
              conv => whnf
              refine Side.mk rfl ?_
              conv => whnf
              refine Side.mk rfl ?_
              conv => whnf
              refine Side.mk rfl ?_
              conv => whnf
              refine Side.mk rfl ?_
              conv => whnf
              refine Side.mk ⟨rfl, rfl⟩ (Need.mk (idx_need _ hx318) ?_)
              conv => whnf
              refine Side.mk ⟨rfl, rfl⟩ (Need.mk (idx_len _ hx318) ?_)
              conv => whnf
              refine Side.mk rfl ?_
              conv => whnf
              refine Both.mk ?_ trivial
              conv => whnf
              intro hd408
              conv => whnf
              refine Need.mk (AV.le_refl _) ?_
              conv => whnf
              refine Side.mk ⟨rfl, rfl⟩ (Need.mk (idx_len _ hx318) ?_)
              conv => whnf
              refine Need.mk (AV.le_refl _) ?_
              conv => whnf
              refine Side.mk ⟨rfl, rfl⟩ (Need.mk (idx_need _ hx318) ?_)
              conv => whnf
              refine Need.mk (AV.le_refl _) ?_
              conv => whnf
              refine Side.mk rfl ?_
              conv => whnf
              refine Need.mk (AV.le_refl _) ?_
              conv => whnf
              refine Need.mk (AV.le_refl _) ?_
              conv => whnf
              refine Side.mk rfl ?_
              conv => whnf
              refine Need.mk (AV.le_refl _) ?_
              conv => whnf
              refine Need.mk (AV.le_refl _) ?_
              conv => whnf
              refine Side.mk rfl ?_
              conv => whnf
              refine Need.mk (AV.le_refl _) ?_
              conv => whnf
              refine Need.mk (AV.le_refl _) ?_
              conv => whnf
              refine Side.mk rfl ?_
              conv => whnf
              refine Need.mk (AV.le_refl _) ?_
              conv => whnf
              refine Need.mk (AV.le_refl _) ?_
              conv => whnf
              refine Both.mk ?_ trivial
              conv => whnf
              refine Side.mk ⟨rfl, rfl⟩ ?_
              conv => whnf
              refine Side.mk ⟨rfl, rfl, rfl⟩ ⟨_, idx_map _ hx318, Need.mk (app_need hN hx319 (by decide)) (Eqv.mk (List.map I l169) (app_map _ hx319) ?_)⟩
              conv => whnf
              intro hd409
              conv => whnf
              refine Need.mk (AV.le_refl _) ?_
              conv => whnf
              refine Side.mk ⟨rfl, rfl⟩ (Need.mk (idx_need _ hx318) ?_)
              conv => whnf
              refine Need.mk (AV.le_refl _) ?_
              conv => whnf
              refine Side.mk rfl ?_
              conv => whnf
              refine Need.mk (AV.le_refl _) ?_
              conv => whnf
              refine Need.mk (AV.le_refl _) ?_
              conv => whnf
              refine Side.mk rfl ?_
              conv => whnf
              refine Need.mk (AV.le_refl _) ?_
              conv => whnf
              refine Need.mk (AV.le_refl _) ?_
              conv => whnf
              refine Side.mk rfl ?_
              conv => whnf
              refine Need.mk (AV.le_refl _) ?_
              conv => whnf
              refine Need.mk (AV.le_refl _) ?_
              conv => whnf
              refine Side.mk rfl ?_
              conv => whnf
              refine Need.mk (AV.le_refl _) ?_
              conv => whnf
              refine Need.mk (AV.le_refl _) ?_
              conv => whnf
              refine Side.mk ⟨rfl, rfl⟩ (Need.mk (idx_need _ hx318) ?_)
              conv => whnf
              refine Both.mk ?_ trivial
              conv => whnf
              refine Side.mk ⟨rfl, rfl, rfl, rfl, rfl, rfl⟩ (Need.mk (idx_len _ hx318) (REqv.mk (List.map (List.map I) (List.set l167 (Int.toNat c8.fAt.fFrame) l169)) (set_map _ _ _ _ rfl) ?_))
              conv => whnf
              intro hs217
              conv => whnf
              refine Side.mk rfl ?_
              conv => whnf
              refine Side.mk rfl ?_
              conv => whnf
              refine ⟨(n2, (v17, w64 (v18 + 1), ra28, (List.set l167 (Int.toNat c8.fAt.fFrame) l169)), hd403, hs217), hl2, Sub.eq rfl ?_ ?_, Nat.lt_succ_self _⟩
              · repeat ((conv => whnf); refine Need.mk rfl ?_)
                exact trivial
              · conv => whnf
                refine Need.mk (OLe.refl _) ?_
                conv => whnf
                refine Need.mk (OLe.refl _) ?_
                conv => whnf
                refine Need.mk (OLe.refl _) ?_
                conv => whnf
                refine Need.mk (OLe.refl _) ?_
                conv => whnf
                refine Need.mk (OLe.refl _) ?_
                exact trivial
        · replace hl2 := ite_f hc114 hl2
          conv => whnf
          refine Side.mk ⟨rfl, rfl⟩ ?_
          cases hl2
          conv => whnf
          refine ⟨(hd337, hs177), trivial, Sub.eq rfl ?_ ?_⟩
          · repeat ((conv => whnf); refine Need.mk rfl ?_)
            exact trivial
          · conv => whnf
            refine Need.mk (OLe.refl _) ?_
            conv => whnf
            refine Need.mk (OLe.refl _) ?_
            conv => whnf
            refine Need.mk (OLe.refl _) ?_
            exact trivial
    · rintro ⟨hd205, hs109⟩ _
      obtain ⟨r60, hx321, h⟩ := obind h
      conv => whnf
      refine CallG.pure _ (frameLawBehindC hN hx321) ?_
      conv => whnf
      intro b82
      conv => whnf
      refine Side.mk rfl ?_
      obtain ⟨⟨c9, c10⟩, hx324, h⟩ := obind h
      conv => whnf
      refine SeqG.mk Unit (fun y => [(4, .ptr 4 b2 0), (7, .ptr 7 b4 0)]) (fun y => [(4, .cells b2 [.nils 1, .nils 1, .d (I 0), .d (.bool false)]), (7, .cells b4 [.sl 36 hd205, .d (.list 1 (List.map I r6)), .d (I c9), .d (.bool c10)]), (36, .rows hd205 29 3 1 hs109 none (List.map (List.map I) l85))]) (fun _ => True) ?_ ?_
      · conv => whnf
        refine Side.mk rfl ?_
        obtain ⟨r64, hx326, hx324⟩ := obind hx324
        conv => whnf
        refine CallG.pure _ (framePlayDoneC hN hx326) ?_
        conv => whnf
        refine Side.mk rfl ?_
        conv => whnf
        refine Side.mk rfl ?_
        conv => whnf
        refine Br.mk (fun hc136 => ?_) (fun hc136 => ?_)
        · replace hx324 := ite_t hc136 hx324
          conv => whnf
          refine Side.mk rfl ?_
          conv => whnf
          refine Side.mk rfl ?_
          cases hx324
          conv => whnf
          refine ⟨(), trivial, Sub.eq rfl ?_ ?_⟩
          · repeat ((conv => whnf); refine Need.mk rfl ?_)
            exact trivial
          · conv => whnf
            refine Need.mk (OLe.refl _) ?_
            conv => whnf
            refine Need.mk (OLe.refl _) ?_
            conv => whnf
            refine Need.mk (OLe.refl _) ?_
            exact trivial
        · replace hx324 := ite_f hc136 hx324
          cases hx324
          conv => whnf
          refine ⟨(), trivial, Sub.eq rfl ?_ ?_⟩
          · repeat ((conv => whnf); refine Need.mk rfl ?_)
            exact trivial
          · conv => whnf
            refine Need.mk (OLe.refl _) ?_
            conv => whnf
            refine Need.mk (OLe.refl _) ?_
            conv => whnf
            refine Need.mk (OLe.refl _) ?_
            exact trivial
      · rintro _ _
        conv => whnf
        refine Side.mk rfl ?_
        conv => whnf
        refine Side.mk rfl ?_
        conv => whnf
        refine Side.mk rfl ?_
        conv => whnf
        refine Side.mk rfl (Eqv.mk (List.map (fun x => .list 1 (List.map I x)) l85) (rows_view I (D.list 1) _) ?_)
        conv => whnf
        cases h
        exact rfl

theorem kingpintopHouseC {N : Nat} (hN : N ≤ 1073741824) {games1 : Ar3 Int} {r : RateBook} (h : kingpintopHouse N games1 = some r) :
    ACalls Try.prog 12 [.d (.agg [I games1.a0, I games1.a1, I games1.a2])] [] fun e os => e = .ret (.d (.agg [I r.fLaw.fBase, I r.fLaw.fPercent, I r.fLaw.fCap, I r.fLaw.fLeast, I r.fLaw.fBlind, .list 1 (List.map I r.fBowlers), .list 6 (List.map RateSheet.enc r.fSheets), .list 1 (List.map I r.fWithdrawn)])) ∧ os = [] := by
  refine acalls_f (fresh := false) tt_ok dr_ok ⟨[1], [], [], [], [], 0⟩ Try.func12 rfl Try.call12 rfl ?_
  unfold kingpintopHouse at h
  conv => whnf
  intro b2
  conv => whnf
  intro hd3
  conv => whnf
  intro hd4
  conv => whnf
  refine Side.mk rfl ?_
  conv => whnf
  refine Side.mk rfl ?_
  conv => whnf
  refine Side.mk rfl ?_
  conv => whnf
  refine Side.mk rfl ?_
  conv => whnf
  cases h
  exact rfl

theorem rateReadHandicapC {N : Nat} (hN : N ≤ 1073741824) {bowler1 : Int} {before1 : Int} {c1 : Int} {c2 : Int} {c3 : Int} {c4 : Int} {c5 : Int} {c6 : List Int} {c7 : List RateSheet} {c8 : List Int} {m1 : List (RateTurn × RateSheet)} {bo1 : Nat} {bo2 : Nat} {r : Int} (h : rateReadHandicap N bowler1 before1 c1 c2 c3 c4 c5 c6 c7 c8 m1 = some r) :
    ACalls Try.prog 26 [.ptr 200019 bo1 0, .d (I bowler1), .d (I before1)] [(200019, .cells bo1 [.d (I c1), .d (I c2), .d (I c3), .d (I c4), .d (I c5), .d (.list 1 (List.map I c6)), .d (.list 6 (List.map RateSheet.enc c7)), .d (.list 1 (List.map I c8)), .mp 200017 bo2]), (200017, .map bo2 (List.map (fun p => (.agg [I p.1.fBowler, I p.1.fWeek], .agg [I p.2.fNumber, I p.2.fBowler, I p.2.fWeek, I p.2.fGames.a0, I p.2.fGames.a1, I p.2.fGames.a2])) m1))] fun ae os => ∃ y : Unit, True ∧ ae = .ret (.d (I r)) ∧ os = [(200019, .cells bo1 [.d (I c1), .d (I c2), .d (I c3), .d (I c4), .d (I c5), .d (.list 1 (List.map I c6)), .d (.list 6 (List.map RateSheet.enc c7)), .d (.list 1 (List.map I c8)), .mp 200017 bo2]), (200017, .map bo2 (List.map (fun p => (.agg [I p.1.fBowler, I p.1.fWeek], .agg [I p.2.fNumber, I p.2.fBowler, I p.2.fWeek, I p.2.fGames.a0, I p.2.fGames.a1, I p.2.fGames.a2])) m1))] := by
  refine acalls_own tt_ok dr_ok ⟨[], [], [], [], [], 210000⟩ Try.func26 rfl Try.call26 rfl ?_
  unfold rateReadHandicap at h
  obtain ⟨r2, hx2, h⟩ := obind h
  conv => whnf
  refine DrawG.mk (.take 0 (.take 1 (.take 2 (.take 3 (.take 4 (.take 5 (.take 6 (.take 7 (.take 8 (.take 11 (.take 12 (.take 13 (.take 14 (.take 15 (.take 16 (.alt 9 [16, 15, 14, 13, 12, 11, 5, 4, 3, 2, 1, 0] (.take 10 (.take 17 (.take 18 (.take 19 .done)))) .nil)))))))))))))))) (by kernel_rfl) ?_
  conv => whnf
  refine Side.mk rfl ?_
  conv => whnf
  refine Side.mk rfl ?_
  conv => whnf
  refine Both.mk ?_ trivial
  conv => whnf
  refine CallG.own (rateReadAverageC (bo1 := bo1) (bo2 := bo2) hN hx2) id [] _ (fun y => [(200019, .cells bo1 [.d (I c1), .d (I c2), .d (I c3), .d (I c4), .d (I c5), .d (.list 1 (List.map I c6)), .d (.list 6 (List.map RateSheet.enc c7)), .d (.list 1 (List.map I c8)), .mp 200017 bo2]), (200017, .map bo2 (List.map (fun p => (.agg [I p.1.fBowler, I p.1.fWeek], .agg [I p.2.fNumber, I p.2.fBowler, I p.2.fWeek, I p.2.fGames.a0, I p.2.fGames.a1, I p.2.fGames.a2])) m1))]) (all2_le_refl _) (And.intro rfl (And.intro rfl trivial)) rfl (And.intro rfl (And.intro rfl trivial)) trivial (fun _ => AV.le_refl _) (fun _ => rfl) ?_
  rintro _ _
  conv => whnf
  refine Side.mk rfl ?_
  conv => whnf
  refine Need.mk (AV.le_refl _) ?_
  conv => whnf
  refine Need.mk (AV.le_refl _) ?_
  conv => whnf
  refine Need.mk (AV.le_refl _) ?_
  conv => whnf
  refine Need.mk (AV.le_refl _) ?_
  conv => whnf
  refine Need.mk (AV.le_refl _) ?_
  conv => whnf
  refine Need.mk (AV.le_refl _) ?_
  conv => whnf
  refine Side.mk rfl ?_
  conv => whnf
  refine Need.mk (AV.le_refl _) ?_
  conv => whnf
  refine Need.mk (AV.le_refl _) ?_
  conv => whnf
  refine Need.mk (AV.le_refl _) ?_
  conv => whnf
  refine Need.mk (AV.le_refl _) ?_
  conv => whnf
  refine Need.mk (AV.le_refl _) ?_
  conv => whnf
  refine Need.mk (AV.le_refl _) ?_
  conv => whnf
  refine Need.mk (by decide) ?_
  conv => whnf
  refine Side.mk rfl ?_
  conv => whnf
  cases h
  exact ⟨(), trivial, rfl, inO_at (ren := id) (And.intro rfl (And.intro rfl trivial))⟩

theorem rateHandicapC {N : Nat} (hN : N ≤ 1073741824) {b1 : RateBook} {bowler1 : Int} {week1 : Int} {r : Int × Int} (h : rateHandicap N b1 bowler1 week1 = some r) :
    ACalls Try.prog 13 [.d (.agg [I b1.fLaw.fBase, I b1.fLaw.fPercent, I b1.fLaw.fCap, I b1.fLaw.fLeast, I b1.fLaw.fBlind, .list 1 (List.map I b1.fBowlers), .list 6 (List.map RateSheet.enc b1.fSheets), .list 1 (List.map I b1.fWithdrawn)]), .d (I bowler1), .d (I week1)] [] fun e os => e = .ret (.d (.tup [I r.1, I r.2])) ∧ os = [] := by
  refine acalls_f (fresh := false) tt_ok dr_ok ⟨[3], [], [], [], [], 0⟩ Try.func13 rfl Try.call13 rfl ?_
  unfold rateHandicap at h
  obtain ⟨z2, hx2, h⟩ := obind h
  rcases z2 with r2 | ⟨ra2, rb2, rc2, rd2, re2, rf2, rg2, rh2, ri2, rj2⟩
  · conv => whnf
    refine CallG.own (rateBookAskedC hN hx2) id [] _ (fun y => []) (all2_le_refl _) trivial rfl trivial trivial (fun _ => AV.le_refl _) (fun _ => rfl) ?_
    rintro _ _
    conv => whnf
    refine Br.mk (fun hc2 => ?_) (fun hc2 => ?_)
    · replace h := ite_t hc2 h
      conv => whnf
      cases h
      exact rfl
    · replace h := ite_f hc2 h
      cases h
  · conv => whnf
    refine CallG.own (rateBookAskedC hN hx2) id [] _ (fun y => [(200019, .cells y.1 [.d (I rb2), .d (I rc2), .d (I rd2), .d (I re2), .d (I rf2), .d (.list 1 (List.map I rg2)), .d (.list 6 (List.map RateSheet.enc rh2)), .d (.list 1 (List.map I ri2)), .mp 200017 y.2]), (200017, .map y.2 (List.map (fun p => (.agg [I p.1.fBowler, I p.1.fWeek], .agg [I p.2.fNumber, I p.2.fBowler, I p.2.fWeek, I p.2.fGames.a0, I p.2.fGames.a1, I p.2.fGames.a2])) rj2))]) (all2_le_refl _) trivial rfl trivial trivial (fun _ => AV.le_refl _) (fun _ => rfl) ?_
    rintro ⟨b4, b5⟩ _
    conv => whnf
    refine Br.mk (fun hc4 => ?_) (fun hc4 => ?_)
    · replace h := ite_t hc4 h
      conv => whnf
      cases h
      exact rfl
    · replace h := ite_f hc4 h
      obtain ⟨r4, hx4, h⟩ := obind h
      conv => whnf
      refine CallG.own (rateReadHandicapC (bo1 := b4) (bo2 := b5) hN hx4) id [] _ (fun y => [(200019, .cells b4 [.d (I rb2), .d (I rc2), .d (I rd2), .d (I re2), .d (I rf2), .d (.list 1 (List.map I rg2)), .d (.list 6 (List.map RateSheet.enc rh2)), .d (.list 1 (List.map I ri2)), .mp 200017 b5]), (200017, .map b5 (List.map (fun p => (.agg [I p.1.fBowler, I p.1.fWeek], .agg [I p.2.fNumber, I p.2.fBowler, I p.2.fWeek, I p.2.fGames.a0, I p.2.fGames.a1, I p.2.fGames.a2])) rj2))]) (all2_le_refl _) (And.intro rfl (And.intro rfl trivial)) rfl (And.intro rfl (And.intro rfl trivial)) trivial (fun _ => AV.le_refl _) (fun _ => rfl) ?_
      rintro _ _
      conv => whnf
      cases h
      exact rfl
end Go.Proofs.Ythbifolpofillaa
