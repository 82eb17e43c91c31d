/-
  Walks: what the typed functions compute, the program’s functions return.
-/
import Derived.Test.YthjafigloabfpaaWe
import Derived.Test.YthjafigloabfpaaWa
namespace Go.Proofs.Ythjafigloabfpaa
open Go Go.Abs Go.Kp
set_option maxRecDepth 100000
set_option maxHeartbeats 8000000
set_option linter.all false

theorem frameLawFinalXC {N : Nat} (hN : N ≤ 1073741824) {l1 : FrameLaw} {sheet1 : List Int} {r : Int} (h : frameLawFinalX N l1 sheet1 = some r) :
    ACalls Try.prog 68 [.d (.agg [I l1.fFrames, I l1.fPins, I l1.fBalls, I l1.fTap]), .d (.list 1 (List.map I sheet1)), .d (.agg [.fn (.func 70) [] []])] [] fun e os => e = .ret (.d (I r)) ∧ os = [] := by
  refine acalls_f (fresh := false) tt_ok dr_ok ⟨[3, 5], [], [], [], [4, 1002], 0⟩ Try.func68 rfl Try.call68 rfl ?_
  unfold frameLawFinalX at h
  obtain ⟨r2, hx2, h⟩ := obind h
  conv => whnf
  refine CallG.pure _ (frameLawTotalC hN hx2) ?_
  obtain ⟨n6, hx54, h⟩ := obind h
  conv => whnf
  refine SeqG.mk Unit (fun y => [(7, .d (I n6))]) (fun y => []) (fun _ => True) ?_ ?_
  · obtain ⟨r37, hx56, hx54⟩ := obind hx54
    conv => whnf
    refine CallG.pure _ (frameLawBehindC hN hx56) ?_
    conv => whnf
    intro b55
    conv => whnf
    refine Side.mk rfl ?_
    conv => whnf
    refine LoopG.mk (Nat × (Int × FramePlay) × Nat) (fun y => [(5, .d (.ref (.agg [.fn (.func 70) [] []]))), (7, .d (I y.2.1.1)), (8, .ptr 8 y.2.2 0)]) (fun y => [(8, .cells y.2.2 [.d (I y.2.1.2.fLaw.fFrames), .d (I y.2.1.2.fLaw.fPins), .d (I y.2.1.2.fLaw.fBalls), .d (I y.2.1.2.fLaw.fTap), .d (I y.2.1.2.fAt.fFrame), .d (I y.2.1.2.fAt.fThrown), .d (I y.2.1.2.fAt.fStanding), .d (.bool y.2.1.2.fAt.fFresh), .d (I y.2.1.2.fAt.fNeed), .d (I y.2.1.2.fAt.fAfter.a0), .d (I y.2.1.2.fAt.fAfter.a1)])]) (fun y => loopN (fun rr x => frameLawFinalX_b1 N rr x.1 x.2) y.1 y.2.1 = some n6) (fun y => y.1) (N, (r2, r37), b55) hx54 (Sub.eq rfl ?_ ?_) ?_
    · repeat ((conv => whnf); refine Need.mk rfl ?_)
      exact trivial
    · conv => whnf
      refine Need.mk (OLe.refl _) ?_
      exact trivial
    · rintro ⟨n11, ⟨n10, p8⟩, bb18⟩ hl2
      obtain ⟨n11, rfl, hl2⟩ := loopN_some hl2
      replace hl2 : frameLawFinalX_b1 N (loopN (fun rr x => frameLawFinalX_b1 N rr x.1 x.2) n11) n10 p8 = some n6 := hl2
      rw [frameLawFinalX_b1] at hl2
      conv => whnf
      refine Side.mk rfl ?_
      obtain ⟨r62, hx93, hl2⟩ := obind hl2
      conv => whnf
      refine CallG.pure _ (framePlayDoneC hN hx93) ?_
      conv => whnf
      refine Br.mk (fun hc12 => ?_) (fun hc12 => ?_)
      · replace hl2 := ite_t hc12 hl2
        obtain ⟨⟨worth12, now12⟩, hx102, hl2⟩ := obind hl2
        conv => whnf
        refine SeqG.mk Nat (fun y => [(5, .d (.ref (.agg [.fn (.func 70) [] []]))), (7, .d (I n10)), (8, .ptr 8 bb18 0), (9, .ptr 9 y 0), (11, .d (I worth12))]) (fun y => [(8, .cells bb18 [.d (I p8.fLaw.fFrames), .d (I p8.fLaw.fPins), .d (I p8.fLaw.fBalls), .d (I p8.fLaw.fTap), .d (I p8.fAt.fFrame), .d (I p8.fAt.fThrown), .d (I p8.fAt.fStanding), .d (.bool p8.fAt.fFresh), .d (I p8.fAt.fNeed), .d (I p8.fAt.fAfter.a0), .d (I p8.fAt.fAfter.a1)]), (9, .cells y [.d (I now12.fLaw.fFrames), .d (I now12.fLaw.fPins), .d (I now12.fLaw.fBalls), .d (I now12.fLaw.fTap), .d (I now12.fAt.fFrame), .d (I now12.fAt.fThrown), .d (I now12.fAt.fStanding), .d (.bool now12.fAt.fFresh), .d (I now12.fAt.fNeed), .d (I now12.fAt.fAfter.a0), .d (I now12.fAt.fAfter.a1)])]) (fun _ => True) ?_ ?_
        · obtain ⟨r67, hx103, hx102⟩ := obind hx102
          obtain ⟨⟨ra24, rb24, rc24⟩, hx104, hx102⟩ := obind hx102
          conv => whnf
          refine DrawG.mk (.take 0 (.take 1 (.take 2 (.take 3 (.alt 4 [1, 0] (.alt 5 [1] (.take 6 (.take 7 (.take 8 (.take 9 (.alt 10 [9, 8, 7, 6, 1] (.alt 11 [9, 8] (.take 12 (.take 13 .done)) .nil) .nil))))) (.alt 10 [1, 0] (.alt 5 [1] (.take 6 (.take 7 (.take 8 (.take 9 (.alt 11 [9, 8] (.take 12 (.take 13 .done)) .nil))))) .nil) .nil)) (.alt 10 [3, 2, 1, 0] (.alt 4 [1, 0] (.alt 5 [1] (.take 6 (.take 7 (.take 8 (.take 9 (.alt 11 [9, 8] (.take 12 (.take 13 .done)) .nil))))) .nil) .nil) .nil)))))) (by kernel_rfl) ?_
          conv => whnf
          refine Side.mk rfl ?_
          conv => whnf
          refine Side.mk rfl ?_
          conv => whnf
          refine Both.mk ?_ ?_
          · conv => whnf
            refine CallG.pure _ (framePlayMostC hN hx103) ?_
            conv => whnf
            refine Need.mk (AV.le_refl _) ?_
            conv => whnf
            refine Side.mk rfl ?_
            conv => whnf
            refine Need.mk (AV.le_refl _) ?_
            conv => whnf
            refine Both.mk ?_ ?_
            · conv => whnf
              refine CallG.pure _ (framePlayNextC hN hx104) ?_
              conv => whnf
              refine Need.mk (AV.le_refl _) ?_
              conv => whnf
              refine Both.mk ?_ trivial
              conv => whnf
              intro b103
              conv => whnf
              refine Need.mk (AV.le_refl _) ?_
              conv => whnf
              refine Need.mk (AV.le_refl _) ?_
              conv => whnf
              refine Need.mk (AV.le_refl _) ?_
              conv => whnf
              refine Need.mk (AV.le_refl _) ?_
              conv => whnf
              refine Need.mk (AV.le_refl _) ?_
              conv => whnf
              refine Both.mk ?_ trivial
              conv => whnf
              refine Side.mk rfl ?_
              conv => whnf
              refine Need.mk (AV.le_refl _) ?_
              conv => whnf
              refine Need.mk (AV.le_refl _) ?_
              cases hx102
              conv => whnf
              refine ⟨b103, trivial, Sub.eq rfl ?_ ?_⟩
              · repeat ((conv => whnf); refine Need.mk rfl ?_)
                exact trivial
              · conv => whnf
                refine Need.mk (OLe.refl _) ?_
                conv => whnf
                refine Need.mk (OLe.refl _) ?_
                exact trivial
            · conv => whnf
              refine Both.mk ?_ trivial
              conv => whnf
              intro b104
              conv => whnf
              refine Need.mk (AV.le_refl _) ?_
              conv => whnf
              refine Side.mk rfl ?_
              conv => whnf
              refine Need.mk (AV.le_refl _) ?_
              conv => whnf
              refine Both.mk ?_ trivial
              conv => whnf
              refine CallG.pure _ (framePlayNextC hN hx104) ?_
              conv => whnf
              refine Need.mk (AV.le_refl _) ?_
              conv => whnf
              refine Both.mk ?_ trivial
              conv => whnf
              refine Side.mk rfl ?_
              conv => whnf
              refine Need.mk (AV.le_refl _) ?_
              conv => whnf
              refine Need.mk (AV.le_refl _) ?_
              cases hx102
              conv => whnf
              refine ⟨b104, trivial, Sub.eq rfl ?_ ?_⟩
              · repeat ((conv => whnf); refine Need.mk rfl ?_)
                exact trivial
              · conv => whnf
                refine Need.mk (OLe.refl _) ?_
                conv => whnf
                refine Need.mk (OLe.refl _) ?_
                exact trivial
          · conv => whnf
            refine Both.mk ?_ trivial
            conv => whnf
            intro b105
            conv => whnf
            refine Side.mk rfl ?_
            conv => whnf
            refine Need.mk (AV.le_refl _) ?_
            conv => whnf
            refine Need.mk (AV.le_refl _) ?_
            conv => whnf
            refine Need.mk (AV.le_refl _) ?_
            conv => whnf
            refine Side.mk rfl ?_
            conv => whnf
            refine Need.mk (AV.le_refl _) ?_
            conv => whnf
            refine Both.mk ?_ trivial
            conv => whnf
            refine CallG.pure _ (framePlayMostC hN hx103) ?_
            conv => whnf
            refine Need.mk (AV.le_refl _) ?_
            conv => whnf
            refine Side.mk rfl ?_
            conv => whnf
            refine Need.mk (AV.le_refl _) ?_
            conv => whnf
            refine Both.mk ?_ trivial
            conv => whnf
            refine CallG.pure _ (framePlayNextC hN hx104) ?_
            conv => whnf
            refine Need.mk (AV.le_refl _) ?_
            conv => whnf
            refine Both.mk ?_ trivial
            conv => whnf
            refine Side.mk rfl ?_
            conv => whnf
            refine Need.mk (AV.le_refl _) ?_
            conv => whnf
            refine Need.mk (AV.le_refl _) ?_
            cases hx102
            conv => whnf
            refine ⟨b105, trivial, Sub.eq rfl ?_ ?_⟩
            · repeat ((conv => whnf); refine Need.mk rfl ?_)
              exact trivial
            · conv => whnf
              refine Need.mk (OLe.refl _) ?_
              conv => whnf
              refine Need.mk (OLe.refl _) ?_
              exact trivial
        · rintro bb20 _
          obtain ⟨r68, hx105, hl2⟩ := obind hl2
          conv => whnf
          refine DrawG.mk (.take 0 (.take 1 (.take 4 (.alt 2 [4] (.alt 3 [4] (.take 5 (.alt 6 [] .done .nil)) .nil) .nil)))) (by kernel_rfl) ?_
          conv => whnf
          refine Side.mk rfl ?_
          conv => whnf
          refine Both.mk ?_ trivial
          conv => whnf
          intro hd24
          conv => whnf
          refine Side.mk rfl ?_
          conv => whnf
          refine Need.mk (AV.le_refl _) ?_
          conv => whnf
          refine Both.mk ?_ trivial
          conv => whnf
          refine Side.mk rfl ?_
          conv => whnf
          refine CallG.pure _ (frameSumC hN hx105) ?_
          conv => whnf
          refine Side.mk rfl ?_
          conv => whnf
          refine Need.mk (AV.le_refl _) ?_
          conv => whnf
          refine Both.mk ?_ trivial
          conv => whnf
          refine Side.mk rfl ?_
          conv => whnf
          refine Side.mk rfl ?_
          conv => whnf
          intro b106
          conv => whnf
          refine Side.mk rfl ?_
          conv => whnf
          refine ⟨(n11, (r68, now12), b106), hl2, Sub.eq rfl ?_ ?_, Nat.lt_succ_self _⟩
          · repeat ((conv => whnf); refine Need.mk rfl ?_)
            exact trivial
          · conv => whnf
            refine Need.mk (OLe.refl _) ?_
            exact trivial
      · replace hl2 := ite_f hc12 hl2
        cases hl2
        conv => whnf
        refine ⟨(), trivial, Sub.eq rfl ?_ ?_⟩
        · repeat ((conv => whnf); refine Need.mk rfl ?_)
          exact trivial
        · exact trivial
  · rintro _ _
    conv => whnf
    cases h
    exact rfl

theorem frameLawSpanC {N : Nat} (hN : N ≤ 1073741824) {l1 : FrameLaw} {sheet1 : List Int} {r : FrameRange} (h : frameLawSpan N l1 sheet1 = some r) :
    ACalls Try.prog 53 [.d (.agg [I l1.fFrames, I l1.fPins, I l1.fBalls, I l1.fTap]), .d (.list 1 (List.map I sheet1))] [] fun e os => e = .ret (.d (.agg [I r.fLo, I r.fHi])) ∧ os = [] := by
  refine acalls_f (fresh := false) tt_ok dr_ok ⟨[2], [], [], [], [1], 0⟩ Try.func53 rfl Try.call53 rfl ?_
  unfold frameLawSpan at h
  conv => whnf
  intro b2
  obtain ⟨c1, hx3, h⟩ := obind h
  conv => whnf
  refine SeqG.mk Unit (fun y => [(4, .ptr 4 b2 0)]) (fun y => [(4, .cells b2 [.d (I c1.fLo), .d (I c1.fHi)])]) (fun _ => True) ?_ ?_
  · obtain ⟨r3, hx4, hx3⟩ := obind hx3
    obtain ⟨r4, hx5, hx3⟩ := obind hx3
    conv => whnf
    refine DrawG.mk (.take 0 (.take 1 (.take 4 (.take 5 (.alt 2 [5, 4, 1, 0] (.alt 3 [5, 4] (.alt 6 [5, 4] (.alt 7 [] (.alt 8 [] (.alt 9 [] .done .nil) .nil) .nil) .nil) (.alt 6 [5, 4, 1, 0] (.alt 3 [5, 4] (.alt 7 [] (.alt 8 [] (.alt 9 [] .done .nil) .nil) .nil) .nil) .nil)) (.alt 6 [5, 4, 1, 0] (.alt 2 [5, 4, 1, 0] (.alt 3 [5, 4] (.alt 7 [] (.alt 8 [] (.alt 9 [] .done .nil) .nil) .nil) .nil) .nil) .nil)))))) (by kernel_rfl) ?_
    conv => whnf
    refine Both.mk ?_ ?_
    · conv => whnf
      refine Need.mk (AV.le_refl _) ?_
      conv => whnf
      refine Need.mk (AV.le_refl _) ?_
      conv => whnf
      refine Need.mk (AV.le_refl _) ?_
      conv => whnf
      refine Need.mk (AV.le_refl _) ?_
      conv => whnf
      refine Both.mk ?_ ?_
      · conv => whnf
        refine CallG.pure _ (frameLawFinalC hN hx4) ?_
        conv => whnf
        refine Need.mk (AV.le_refl _) ?_
        conv => whnf
        refine Need.mk (AV.le_refl _) ?_
        conv => whnf
        refine Both.mk ?_ trivial
        conv => whnf
        refine Need.mk (AV.le_refl _) ?_
        conv => whnf
        refine Need.mk (AV.le_refl _) ?_
        conv => whnf
        refine Both.mk ?_ trivial
        conv => whnf
        refine CallG.pure _ (frameLawFinalXC hN hx5) ?_
        conv => whnf
        refine Both.mk ?_ trivial
        conv => whnf
        refine Both.mk ?_ trivial
        conv => whnf
        refine Side.mk rfl ?_
        cases hx3
        conv => whnf
        refine ⟨(), trivial, Sub.eq rfl ?_ ?_⟩
        · repeat ((conv => whnf); refine Need.mk rfl ?_)
          exact trivial
        · conv => whnf
          refine Need.mk (OLe.refl _) ?_
          exact trivial
      · conv => whnf
        refine Both.mk ?_ trivial
        conv => whnf
        refine Need.mk (AV.le_refl _) ?_
        conv => whnf
        refine Need.mk (AV.le_refl _) ?_
        conv => whnf
        refine Need.mk (AV.le_refl _) ?_
        conv => whnf
        refine Need.mk (AV.le_refl _) ?_
        conv => whnf
        refine Both.mk ?_ trivial
        conv => whnf
        refine CallG.pure _ (frameLawFinalC hN hx4) ?_
        conv => whnf
        refine Need.mk (AV.le_refl _) ?_
        conv => whnf
        refine Need.mk (AV.le_refl _) ?_
        conv => whnf
        refine Both.mk ?_ trivial
        conv => whnf
        refine CallG.pure _ (frameLawFinalXC hN hx5) ?_
        conv => whnf
        refine Both.mk ?_ trivial
        conv => whnf
        refine Both.mk ?_ trivial
        conv => whnf
        refine Side.mk rfl ?_
        cases hx3
        conv => whnf
        refine ⟨(), trivial, Sub.eq rfl ?_ ?_⟩
        · repeat ((conv => whnf); refine Need.mk rfl ?_)
          exact trivial
        · conv => whnf
          refine Need.mk (OLe.refl _) ?_
          exact trivial
    · conv => whnf
      refine Both.mk ?_ trivial
      conv => whnf
      refine Need.mk (AV.le_refl _) ?_
      conv => whnf
      refine Need.mk (AV.le_refl _) ?_
      conv => whnf
      refine Need.mk (AV.le_refl _) ?_
      conv => whnf
      refine Need.mk (AV.le_refl _) ?_
      conv => whnf
      refine Both.mk ?_ trivial
      conv => whnf
      refine Need.mk (AV.le_refl _) ?_
      conv => whnf
      refine Need.mk (AV.le_refl _) ?_
      conv => whnf
      refine Need.mk (AV.le_refl _) ?_
      conv => whnf
      refine Need.mk (AV.le_refl _) ?_
      conv => whnf
      refine Both.mk ?_ trivial
      conv => whnf
      refine CallG.pure _ (frameLawFinalC hN hx4) ?_
      conv => whnf
      refine Need.mk (AV.le_refl _) ?_
      conv => whnf
      refine Need.mk (AV.le_refl _) ?_
      conv => whnf
      refine Both.mk ?_ trivial
      conv => whnf
      refine CallG.pure _ (frameLawFinalXC hN hx5) ?_
      conv => whnf
      refine Both.mk ?_ trivial
      conv => whnf
      refine Both.mk ?_ trivial
      conv => whnf
      refine Side.mk rfl ?_
      cases hx3
      conv => whnf
      refine ⟨(), trivial, Sub.eq rfl ?_ ?_⟩
      · repeat ((conv => whnf); refine Need.mk rfl ?_)
        exact trivial
      · conv => whnf
        refine Need.mk (OLe.refl _) ?_
        exact trivial
  · rintro _ _
    conv => whnf
    refine Side.mk rfl ?_
    conv => whnf
    cases h
    exact rfl

theorem frameSpanC {N : Nat} (hN : N ≤ 1073741824) {l1 : FrameLaw} {balls1 : List Int} {r : FrameRange × Int} (h : frameSpan N l1 balls1 = some r) :
    ACalls Try.prog 28 [.d (.agg [I l1.fFrames, I l1.fPins, I l1.fBalls, I l1.fTap]), .d (.list 1 (List.map I balls1))] [] fun e os => e = .ret (.d (.tup [.agg [I r.1.fLo, I r.1.fHi], I r.2])) ∧ os = [] := by
  refine acalls_f (fresh := false) tt_ok dr_ok ⟨[2], [], [], [], [], 0⟩ Try.func28 rfl Try.call28 rfl ?_
  unfold frameSpan at h
  conv => whnf
  intro b2
  obtain ⟨r4, hx4, h⟩ := obind h
  conv => whnf
  refine CallG.pure _ (frameLawCheckC hN hx4) ?_
  conv => whnf
  refine Br.mk (fun hc2 => ?_) (fun hc2 => ?_)
  · replace h := ite_t hc2 h
    conv => whnf
    refine Side.mk rfl ?_
    conv => whnf
    refine Side.mk rfl ?_
    conv => whnf
    cases h
    exact rfl
  · replace h := ite_f hc2 h
    obtain ⟨r6, hx6, h⟩ := obind h
    conv => whnf
    refine CallG.pure _ (frameLawSpanC hN hx6) ?_
    conv => whnf
    refine Side.mk rfl ?_
    conv => whnf
    refine Side.mk rfl ?_
    conv => whnf
    cases h
    exact rfl

theorem law01ManyC {N : Nat} (hN : N ≤ 1073741824) {ball1 : Int} {times1 : Int} {more1 : List Int} {r : (List Int)} (h : law01Many N ball1 times1 more1 = some r) :
    ACalls Try.prog 40 [.d (I ball1), .d (I times1), .d (.list 1 (List.map I more1))] [] fun e os => e = .ret (.d (.list 1 (List.map I r))) ∧ os = [] := by
  refine acalls_f (fresh := false) tt_ok dr_ok ⟨[], [], [], [], [1002], 0⟩ Try.func40 rfl Try.call40 rfl ?_
  unfold law01Many at h
  obtain ⟨l11, hx7, h⟩ := obind h
  conv => whnf
  refine SeqG.mk Value (fun y => [(2, .d (.list 1 (List.map I more1))), (7, .sl 17 y)]) (fun y => [(17, .arr y 3 1 false (List.map I l11))]) (fun _ => True) ?_ ?_
  · conv => whnf
    refine LoopG.mk (Nat × (Int × (List Int)) × Value) (fun y => [(0, .d (I ball1)), (1, .d (I times1)), (2, .d (.list 1 (List.map I more1))), (7, .sl 17 y.2.2), (8, .d (I y.2.1.1))]) (fun y => [(17, .arr y.2.2 3 1 false (List.map I y.2.1.2))]) (fun y => loopN (fun rr x => law01Many_b1 N ball1 times1 rr x.1 x.2) y.1 y.2.1 = some l11) (fun y => y.1) (N, (0, []), (.slice none 0 0)) hx7 (Sub.eq rfl ?_ ?_) ?_
    · repeat ((conv => whnf); refine Need.mk rfl ?_)
      exact trivial
    · conv => whnf
      refine Need.mk (OLe.nil _ _ _ _) ?_
      exact trivial
    · rintro ⟨n2, ⟨i8, l19⟩, hd29⟩ hl2
      obtain ⟨n2, rfl, hl2⟩ := loopN_some hl2
      replace hl2 : law01Many_b1 N ball1 times1 (loopN (fun rr x => law01Many_b1 N ball1 times1 rr x.1 x.2) n2) i8 l19 = some l11 := hl2
      rw [law01Many_b1] at hl2
      conv => whnf
      refine Br.mk (fun hc12 => ?_) (fun hc12 => ?_)
      · replace hl2 := ite_t hc12 hl2
        conv => whnf
        intro hd32
        obtain ⟨l21, hx13, hl2⟩ := obind hl2
        conv => whnf
        refine Side.mk ⟨rfl, rfl⟩ ?_
        conv => whnf
        refine Side.mk ⟨rfl, rfl, rfl⟩ (Need.mk (app_need hN hx13 (by decide)) (Eqv.mk (List.map I l21) (app_map _ hx13) ?_))
        conv => whnf
        intro hd33
        conv => whnf
        refine ⟨(n2, (w64 (i8 + 1), l21), hd33), hl2, Sub.eq rfl ?_ ?_, Nat.lt_succ_self _⟩
        · repeat ((conv => whnf); refine Need.mk rfl ?_)
          exact trivial
        · conv => whnf
          refine Need.mk (OLe.refl _) ?_
          exact trivial
      · replace hl2 := ite_f hc12 hl2
        cases hl2
        conv => whnf
        refine ⟨hd29, trivial, Sub.eq rfl ?_ ?_⟩
        · repeat ((conv => whnf); refine Need.mk rfl ?_)
          exact trivial
        · conv => whnf
          refine Need.mk (OLe.refl _) ?_
          exact trivial
  · rintro hd17 _
    obtain ⟨l23, hx15, h⟩ := obind h
    conv => whnf
    refine Side.mk rfl ?_
    conv => whnf
    refine Side.mk ⟨rfl, rfl, rfl⟩ (Need.mk (app_need hN hx15 (by decide)) (Eqv.mk (List.map I l23) (app_map _ hx15) ?_))
    conv => whnf
    intro hd35
    conv => whnf
    refine Side.mk rfl ?_
    conv => whnf
    cases h
    exact rfl

theorem frameShows1C_n {N : Nat} (hN : N ≤ 1073741824) (nrec : Nat) : ∀ {p1 : FramePlay} {left1 : Int} {m1 : List (FrameGoal × Bool)} {l1 : List Int} {bo1 : Nat} {bo2 : Nat} {bo3 : Nat} {bo4 : Nat} {ho1 : Value} {r : Bool × (List (FrameGoal × Bool)) × (List Int)} (h : loopN (fun rr x => frameShows1_f N rr x.1 x.2.1 x.2.2.1 x.2.2.2) nrec (p1, left1, m1, l1) = some r),
    ACalls Try.prog 54 [.d (.agg [I p1.fLaw.fFrames, I p1.fLaw.fPins, I p1.fLaw.fBalls, I p1.fLaw.fTap, I p1.fAt.fFrame, I p1.fAt.fThrown, I p1.fAt.fStanding, .bool p1.fAt.fFresh, I p1.fAt.fNeed, I p1.fAt.fAfter.a0, I p1.fAt.fAfter.a1]), .d (I left1), .ptr 9 bo1 0, .ptr 10 bo2 0, .ptr 11 bo3 0] [(9, .cells bo1 [.mp 19 bo4]), (10, .cells bo2 [.sl 510 ho1]), (11, .cells bo3 [.fn (.func 54) [] [.ptr 9 bo1 0, .ptr 10 bo2 0, .ptr 11 bo3 0]]), (19, .map bo4 (List.map (fun p => (.agg [I p.1.fAt.fFrame, I p.1.fAt.fThrown, I p.1.fAt.fStanding, .bool p.1.fAt.fFresh, I p.1.fAt.fNeed, I p.1.fAt.fAfter.a0, I p.1.fAt.fAfter.a1, I p.1.fLeft], .bool p.2)) m1)), (510, .arr ho1 3 1 false (List.map I l1))] fun ae os => ∃ y : Value, True ∧ ae = .ret (.d (.bool r.1)) ∧ os = [(9, .cells bo1 [.mp 19 bo4]), (10, .cells bo2 [.sl 510 y]), (11, .cells bo3 [.fn (.func 54) [] [.ptr 9 bo1 0, .ptr 10 bo2 0, .ptr 11 bo3 0]]), (19, .map bo4 (List.map (fun p => (.agg [I p.1.fAt.fFrame, I p.1.fAt.fThrown, I p.1.fAt.fStanding, .bool p.1.fAt.fFresh, I p.1.fAt.fNeed, I p.1.fAt.fAfter.a0, I p.1.fAt.fAfter.a1, I p.1.fLeft], .bool p.2)) r.2.1)), (510, .arr y 3 1 false (List.map I r.2.2))] := by
  induction nrec with
  | zero => intro p1 left1 m1 l1 bo1 bo2 bo3 bo4 ho1 r h; cases h
  | succ nrec ih =>
  intro p1 left1 m1 l1 bo1 bo2 bo3 bo4 ho1 r h
  replace h : frameShows1_f N (loopN (fun rr x => frameShows1_f N rr x.1 x.2.1 x.2.2.1 x.2.2.2) nrec) p1 left1 m1 l1 = some r := h
  refine acalls_own tt_ok dr_ok ⟨[5], [], [], [56], [4, 1006], 10000⟩ Try.func54 rfl Try.call54 rfl ?_
  unfold frameShows1_f at h
  obtain ⟨r4, hx4, h⟩ := obind h
  conv => whnf
  refine CallG.pure _ (framePlayDoneC hN hx4) ?_
  conv => whnf
  refine Br.mk (fun hc2 => ?_) (fun hc2 => ?_)
  · replace h := ite_t hc2 h
    conv => whnf
    cases h
    exact ⟨ho1, trivial, rfl, inO_at (ren := id) (And.intro rfl (And.intro rfl (And.intro rfl (And.intro rfl (And.intro rfl trivial)))))⟩
  · replace h := ite_f hc2 h
    conv => whnf
    intro b2
    conv => whnf
    refine Side.mk rfl ?_
    obtain ⟨v5, hx9, h⟩ := obind h
    conv => whnf
    refine SeqG.mk Unit (fun y => [(1, .d (I left1)), (2, .ptr 9 bo1 0), (3, .ptr 10 bo2 0), (4, .ptr 11 bo3 0), (5, .d (.ref (.agg [I p1.fLaw.fFrames, I p1.fLaw.fPins, I p1.fLaw.fBalls, I p1.fLaw.fTap, I p1.fAt.fFrame, I p1.fAt.fThrown, I p1.fAt.fStanding, .bool p1.fAt.fFresh, I p1.fAt.fNeed, I p1.fAt.fAfter.a0, I p1.fAt.fAfter.a1]))), (8, .ptr 10008 b2 0), (27, .d (.bool v5))]) (fun y => [(9, .cells bo1 [.mp 19 bo4]), (10, .cells bo2 [.sl 510 ho1]), (11, .cells bo3 [.fn (.func 54) [] [.ptr 9 bo1 0, .ptr 10 bo2 0, .ptr 11 bo3 0]]), (10008, .cells b2 [.d (I p1.fAt.fFrame), .d (I p1.fAt.fThrown), .d (I p1.fAt.fStanding), .d (.bool p1.fAt.fFresh), .d (I p1.fAt.fNeed), .d (I p1.fAt.fAfter.a0), .d (I p1.fAt.fAfter.a1), .d (I left1)]), (19, .map bo4 (List.map (fun p => (.agg [I p.1.fAt.fFrame, I p.1.fAt.fThrown, I p.1.fAt.fStanding, .bool p.1.fAt.fFresh, I p.1.fAt.fNeed, I p.1.fAt.fAfter.a0, I p.1.fAt.fAfter.a1, I p.1.fLeft], .bool p.2)) m1)), (510, .arr ho1 3 1 false (List.map I l1))]) (fun _ => True) ?_ ?_
    · conv => whnf
      refine Br.mk (fun hc7 => ?_) (fun hc7 => ?_)
      · replace hx9 := ite_f hc7 hx9
        conv => whnf
        refine Side.mk rfl ?_
        conv => whnf
        refine Side.mk rfl ?_
        obtain ⟨⟨v6, is4⟩, hx10, hx9⟩ := obind hx9
        conv => whnf
        refine Side.mk rfl (Need.mk rfl (Need.mk (fit_all (fun x : FrameGoal => .agg [I x.fAt.fFrame, I x.fAt.fThrown, I x.fAt.fStanding, .bool x.fAt.fFresh, I x.fAt.fNeed, I x.fAt.fAfter.a0, I x.fAt.fAfter.a1, I x.fLeft]) (fun x : Bool => .bool x) fun _ => rfl) (LkG.mk (.bool v6) is4 (mgt_v (eK := (fun x : FrameGoal => .agg [I x.fAt.fFrame, I x.fAt.fThrown, I x.fAt.fStanding, .bool x.fAt.fFresh, I x.fAt.fNeed, I x.fAt.fAfter.a0, I x.fAt.fAfter.a1, I x.fLeft])) (eV := (fun x : Bool => .bool x)) FrameGoal.eqc hx10) (mgt_b (eK := (fun x : FrameGoal => .agg [I x.fAt.fFrame, I x.fAt.fThrown, I x.fAt.fStanding, .bool x.fAt.fFresh, I x.fAt.fNeed, I x.fAt.fAfter.a0, I x.fAt.fAfter.a1, I x.fLeft])) (eV := (fun x : Bool => .bool x)) FrameGoal.eqc hx10) ?_)))
        cases hx9
        conv => whnf
        refine ⟨(), trivial, Sub.eq rfl ?_ ?_⟩
        · repeat ((conv => whnf); refine Need.mk rfl ?_)
          exact trivial
        · conv => whnf
          refine Need.mk (OLe.refl _) ?_
          conv => whnf
          refine Need.mk (OLe.refl _) ?_
          conv => whnf
          refine Need.mk (OLe.refl _) ?_
          conv => whnf
          refine Need.mk (OLe.refl _) ?_
          conv => whnf
          refine Need.mk (OLe.refl _) ?_
          conv => whnf
          refine Need.mk (OLe.refl _) ?_
          exact trivial
      · replace hx9 := ite_t hc7 hx9
        cases hx9
        conv => whnf
        refine ⟨(), trivial, Sub.eq rfl ?_ ?_⟩
        · repeat ((conv => whnf); refine Need.mk rfl ?_)
          exact trivial
        · conv => whnf
          refine Need.mk (OLe.refl _) ?_
          conv => whnf
          refine Need.mk (OLe.refl _) ?_
          conv => whnf
          refine Need.mk (OLe.refl _) ?_
          conv => whnf
          refine Need.mk (OLe.refl _) ?_
          conv => whnf
          refine Need.mk (OLe.refl _) ?_
          conv => whnf
          refine Need.mk (OLe.refl _) ?_
          exact trivial
    · rintro _ _
      conv => whnf
      refine Br.mk (fun hc8 => ?_) (fun hc8 => ?_)
      · replace h := ite_t hc8 h
        conv => whnf
        cases h
        exact ⟨ho1, trivial, rfl, inO_at (ren := id) (And.intro rfl (And.intro rfl (And.intro rfl (And.intro rfl (And.intro rfl trivial)))))⟩
      · replace h := ite_f hc8 h
        conv => whnf
        refine SeqG.mk ((List (FrameGoal × Bool)) × (List Int) × Value) (fun y => [(2, .ptr 9 bo1 0), (8, .ptr 10008 b2 0)]) (fun y => [(9, .cells bo1 [.mp 19 bo4]), (10008, .cells b2 [.d (I p1.fAt.fFrame), .d (I p1.fAt.fThrown), .d (I p1.fAt.fStanding), .d (.bool p1.fAt.fFresh), .d (I p1.fAt.fNeed), .d (I p1.fAt.fAfter.a0), .d (I p1.fAt.fAfter.a1), .d (I left1)]), (10, .cells bo2 [.sl 510 y.2.2]), (11, .cells bo3 [.fn (.func 54) [] [.ptr 9 bo1 0, .ptr 10 bo2 0, .ptr 11 bo3 0]]), (19, .map bo4 (List.map (fun p => (.agg [I p.1.fAt.fFrame, I p.1.fAt.fThrown, I p.1.fAt.fStanding, .bool p.1.fAt.fFresh, I p.1.fAt.fNeed, I p.1.fAt.fAfter.a0, I p.1.fAt.fAfter.a1, I p.1.fLeft], .bool p.2)) y.1)), (510, .arr y.2.2 3 1 false (List.map I y.2.1))]) (fun y => frameShows1_k1 N p1 left1 y.1 y.2.1 = some r) ?_ ?_
        · conv => whnf
          refine LoopG.mk (Nat × (Int × Int × (List (FrameGoal × Bool)) × (List Int)) × Value) (fun y => [(1, .d (I left1)), (2, .ptr 9 bo1 0), (3, .ptr 10 bo2 0), (4, .ptr 11 bo3 0), (5, .d (.ref (.agg [I p1.fLaw.fFrames, I p1.fLaw.fPins, I p1.fLaw.fBalls, I p1.fLaw.fTap, I p1.fAt.fFrame, I p1.fAt.fThrown, I p1.fAt.fStanding, .bool p1.fAt.fFresh, I p1.fAt.fNeed, I p1.fAt.fAfter.a0, I p1.fAt.fAfter.a1]))), (8, .ptr 10008 b2 0), (31, .d (I y.2.1.1)), (32, .d (I y.2.1.2.1))]) (fun y => [(9, .cells bo1 [.mp 19 bo4]), (10, .cells bo2 [.sl 510 y.2.2]), (11, .cells bo3 [.fn (.func 54) [] [.ptr 9 bo1 0, .ptr 10 bo2 0, .ptr 11 bo3 0]]), (10008, .cells b2 [.d (I p1.fAt.fFrame), .d (I p1.fAt.fThrown), .d (I p1.fAt.fStanding), .d (.bool p1.fAt.fFresh), .d (I p1.fAt.fNeed), .d (I p1.fAt.fAfter.a0), .d (I p1.fAt.fAfter.a1), .d (I left1)]), (19, .map bo4 (List.map (fun p => (.agg [I p.1.fAt.fFrame, I p.1.fAt.fThrown, I p.1.fAt.fStanding, .bool p.1.fAt.fFresh, I p.1.fAt.fNeed, I p.1.fAt.fAfter.a0, I p.1.fAt.fAfter.a1, I p.1.fLeft], .bool p.2)) y.2.1.2.2.1)), (510, .arr y.2.2 3 1 false (List.map I y.2.1.2.2.2))]) (fun y => loopN (fun rr x => frameShows1_b2 N (loopN (fun rr x => frameShows1_f N rr x.1 x.2.1 x.2.2.1 x.2.2.2) nrec) p1 left1 rr x.1 x.2.1 x.2.2.1 x.2.2.2) y.1 y.2.1 = some r) (fun y => y.1) (N, (w64 (p1.fAt.fStanding + 1), 0, m1, l1), ho1) h (Sub.eq rfl ?_ ?_) ?_
          · repeat ((conv => whnf); refine Need.mk rfl ?_)
            exact trivial
          · conv => whnf
            refine Need.mk (OLe.refl _) ?_
            conv => whnf
            refine Need.mk (OLe.refl _) ?_
            conv => whnf
            refine Need.mk (OLe.refl _) ?_
            conv => whnf
            refine Need.mk (OLe.refl _) ?_
            conv => whnf
            refine Need.mk (OLe.refl _) ?_
            conv => whnf
            refine Need.mk (OLe.refl _) ?_
            exact trivial
          · rintro ⟨n2, ⟨v23, v24, m10, l40⟩, hd99⟩ hl2
            obtain ⟨n2, rfl, hl2⟩ := loopN_some hl2
            replace hl2 : frameShows1_b2 N (loopN (fun rr x => frameShows1_f N rr x.1 x.2.1 x.2.2.1 x.2.2.2) nrec) p1 left1 (loopN (fun rr x => frameShows1_b2 N (loopN (fun rr x => frameShows1_f N rr x.1 x.2.1 x.2.2.1 x.2.2.2) nrec) p1 left1 rr x.1 x.2.1 x.2.2.1 x.2.2.2) n2) v23 v24 m10 l40 = some r := hl2
            rw [frameShows1_b2] at hl2
            conv => whnf
            refine Br.mk (fun hc40 => ?_) (fun hc40 => ?_)
            · replace hl2 := ite_t hc40 hl2
              obtain ⟨⟨ra68, rb68, rc68⟩, hx111, hl2⟩ := obind hl2
              conv => whnf
              refine CallG.pure _ (framePlayNextC hN hx111) ?_
              conv => whnf
              intro b26
              conv => whnf
              refine Side.mk rfl ?_
              conv => whnf
              refine Side.mk rfl ?_
              conv => whnf
              intro hd111
              obtain ⟨l45, hx113, hl2⟩ := obind hl2
              conv => whnf
              refine Side.mk ⟨rfl, rfl⟩ ?_
              conv => whnf
              refine Side.mk ⟨rfl, rfl, rfl⟩ (Need.mk (app_need hN hx113 (by decide)) (Eqv.mk (List.map I l45) (app_map _ hx113) ?_))
              conv => whnf
              intro hd112
              conv => whnf
              refine Side.mk rfl ?_
              conv => whnf
              refine Side.mk rfl ?_
              conv => whnf
              refine Side.mk rfl ?_
              obtain ⟨⟨ra72, rb72, rc72⟩, hx117, hl2⟩ := obind hl2
              conv => whnf
              refine CallG.own (ih (bo1 := bo1) (bo2 := bo2) (bo3 := bo3) (bo4 := bo4) (ho1 := hd112) hx117) id [(10008, .cells b2 [.d (I p1.fAt.fFrame), .d (I p1.fAt.fThrown), .d (I p1.fAt.fStanding), .d (.bool p1.fAt.fFresh), .d (I p1.fAt.fNeed), .d (I p1.fAt.fAfter.a0), .d (I p1.fAt.fAfter.a1), .d (I left1)]), (10010, .cells b26 [.d (I ra68.fLaw.fFrames), .d (I ra68.fLaw.fPins), .d (I ra68.fLaw.fBalls), .d (I ra68.fLaw.fTap), .d (I ra68.fAt.fFrame), .d (I ra68.fAt.fThrown), .d (I ra68.fAt.fStanding), .d (.bool ra68.fAt.fFresh), .d (I ra68.fAt.fNeed), .d (I ra68.fAt.fAfter.a0), .d (I ra68.fAt.fAfter.a1)]), (10044, .arr hd111 3 1 false (List.map I ([v24])))] _ (fun y => [(9, .cells bo1 [.mp 19 bo4]), (10, .cells bo2 [.sl 510 y]), (11, .cells bo3 [.fn (.func 54) [] [.ptr 9 bo1 0, .ptr 10 bo2 0, .ptr 11 bo3 0]]), (19, .map bo4 (List.map (fun p => (.agg [I p.1.fAt.fFrame, I p.1.fAt.fThrown, I p.1.fAt.fStanding, .bool p.1.fAt.fFresh, I p.1.fAt.fNeed, I p.1.fAt.fAfter.a0, I p.1.fAt.fAfter.a1, I p.1.fLeft], .bool p.2)) rb72)), (510, .arr y 3 1 false (List.map I rc72)), (10008, .cells b2 [.d (I p1.fAt.fFrame), .d (I p1.fAt.fThrown), .d (I p1.fAt.fStanding), .d (.bool p1.fAt.fFresh), .d (I p1.fAt.fNeed), .d (I p1.fAt.fAfter.a0), .d (I p1.fAt.fAfter.a1), .d (I left1)]), (10010, .cells b26 [.d (I ra68.fLaw.fFrames), .d (I ra68.fLaw.fPins), .d (I ra68.fLaw.fBalls), .d (I ra68.fLaw.fTap), .d (I ra68.fAt.fFrame), .d (I ra68.fAt.fThrown), .d (I ra68.fAt.fStanding), .d (.bool ra68.fAt.fFresh), .d (I ra68.fAt.fNeed), .d (I ra68.fAt.fAfter.a0), .d (I ra68.fAt.fAfter.a1)]), (10044, .arr hd111 3 1 false (List.map I ([v24])))]) (all2_le_refl _) (And.intro rfl (And.intro rfl (And.intro rfl (And.intro rfl (And.intro rfl trivial))))) rfl (And.intro rfl (And.intro rfl (And.intro rfl (And.intro rfl (And.intro rfl trivial))))) (And.intro rfl (And.intro rfl (And.intro rfl trivial))) (fun _ => AV.le_refl _) (fun _ => rfl) ?_
              rintro hd116 _
              conv => whnf
              refine Br.mk (fun hc44 => ?_) (fun hc44 => ?_)
              · replace hl2 := ite_t hc44 hl2
                conv => whnf
                cases hl2
                exact ⟨hd116, trivial, rfl, inO_at (ren := id) (And.intro rfl (And.intro rfl (And.intro rfl (And.intro rfl (And.intro rfl trivial)))))⟩
              · replace hl2 := ite_f hc44 hl2
                conv => whnf
                refine Side.mk rfl ?_
                conv => whnf
                refine Side.mk rfl ?_
                conv => whnf
                refine Side.mk rfl (Ln.mk _ (List.length_map _) ?_)
                obtain ⟨l46, hx118, hl2⟩ := obind hl2
                conv => whnf
                refine Side.mk rfl (Need.mk (slc_need0 _ hx118) (Eqv.mk (List.map I l46) (slc_map0 _ hx118) ?_))
                conv => whnf
                intro hd117
                conv => whnf
                refine Side.mk rfl ?_
                conv => whnf
                refine ⟨(n2, (v23, w64 (v24 + 1), rb72, l46), hd117), hl2, Sub.eq rfl ?_ ?_, Nat.lt_succ_self _⟩
                · repeat ((conv => whnf); refine Need.mk rfl ?_)
                  exact trivial
                · conv => whnf
                  refine Need.mk (OLe.refl _) ?_
                  conv => whnf
                  refine Need.mk (OLe.refl _) ?_
                  conv => whnf
                  refine Need.mk (OLe.refl _) ?_
                  conv => whnf
                  refine Need.mk (OLe.refl _) ?_
                  conv => whnf
                  refine Need.mk (OLe.refl _) ?_
                  conv => whnf
                  refine Need.mk (OLe.refl _) ?_
                  exact trivial
            · replace hl2 := ite_f hc40 hl2
              conv => whnf
              refine ⟨(m10, l40, hd99), hl2, Sub.eq rfl ?_ ?_⟩
              · repeat ((conv => whnf); refine Need.mk rfl ?_)
                exact trivial
              · conv => whnf
                refine Need.mk (OLe.refl _) ?_
                conv => whnf
                refine Need.mk (OLe.refl _) ?_
                conv => whnf
                refine Need.mk (OLe.refl _) ?_
                conv => whnf
                refine Need.mk (OLe.refl _) ?_
                conv => whnf
                refine Need.mk (OLe.refl _) ?_
                conv => whnf
                refine Need.mk (OLe.refl _) ?_
                exact trivial
        · clear h
          rintro ⟨m6, l24, hd59⟩ h
          unfold frameShows1_k1 at h
          conv => whnf
          refine Side.mk rfl ?_
          conv => whnf
          refine Side.mk rfl ?_
          conv => whnf
          refine Side.mk rfl (Need.mk rfl (Need.mk (fit_all (fun x : FrameGoal => .agg [I x.fAt.fFrame, I x.fAt.fThrown, I x.fAt.fStanding, .bool x.fAt.fFresh, I x.fAt.fNeed, I x.fAt.fAfter.a0, I x.fAt.fAfter.a1, I x.fLeft]) (fun x : Bool => .bool x) fun _ => rfl) (MEqv.mk (List.map (fun p => (.agg [I p.1.fAt.fFrame, I p.1.fAt.fThrown, I p.1.fAt.fStanding, .bool p.1.fAt.fFresh, I p.1.fAt.fNeed, I p.1.fAt.fAfter.a0, I p.1.fAt.fAfter.a1, I p.1.fLeft], .bool p.2)) (mput m6 (FrameGoal.mk p1.fAt left1) true)) (mput_D (eK := (fun x : FrameGoal => .agg [I x.fAt.fFrame, I x.fAt.fThrown, I x.fAt.fStanding, .bool x.fAt.fFresh, I x.fAt.fNeed, I x.fAt.fAfter.a0, I x.fAt.fAfter.a1, I x.fLeft])) (eV := (fun x : Bool => .bool x)) FrameGoal.eqc m6 (FrameGoal.mk p1.fAt left1) true) ?_)))
          conv => whnf
          cases h
          exact ⟨hd59, trivial, rfl, inO_at (ren := id) (And.intro rfl (And.intro rfl (And.intro rfl (And.intro rfl (And.intro rfl trivial)))))⟩

theorem frameShows1C {N : Nat} (hN : N ≤ 1073741824) {p1 : FramePlay} {left1 : Int} {m1 : List (FrameGoal × Bool)} {l1 : List Int} {bo1 : Nat} {bo2 : Nat} {bo3 : Nat} {bo4 : Nat} {ho1 : Value} {r : Bool × (List (FrameGoal × Bool)) × (List Int)} (h : frameShows1 N p1 left1 m1 l1 = some r) :
    ACalls Try.prog 54 [.d (.agg [I p1.fLaw.fFrames, I p1.fLaw.fPins, I p1.fLaw.fBalls, I p1.fLaw.fTap, I p1.fAt.fFrame, I p1.fAt.fThrown, I p1.fAt.fStanding, .bool p1.fAt.fFresh, I p1.fAt.fNeed, I p1.fAt.fAfter.a0, I p1.fAt.fAfter.a1]), .d (I left1), .ptr 9 bo1 0, .ptr 10 bo2 0, .ptr 11 bo3 0] [(9, .cells bo1 [.mp 19 bo4]), (10, .cells bo2 [.sl 510 ho1]), (11, .cells bo3 [.fn (.func 54) [] [.ptr 9 bo1 0, .ptr 10 bo2 0, .ptr 11 bo3 0]]), (19, .map bo4 (List.map (fun p => (.agg [I p.1.fAt.fFrame, I p.1.fAt.fThrown, I p.1.fAt.fStanding, .bool p.1.fAt.fFresh, I p.1.fAt.fNeed, I p.1.fAt.fAfter.a0, I p.1.fAt.fAfter.a1, I p.1.fLeft], .bool p.2)) m1)), (510, .arr ho1 3 1 false (List.map I l1))] fun ae os => ∃ y : Value, True ∧ ae = .ret (.d (.bool r.1)) ∧ os = [(9, .cells bo1 [.mp 19 bo4]), (10, .cells bo2 [.sl 510 y]), (11, .cells bo3 [.fn (.func 54) [] [.ptr 9 bo1 0, .ptr 10 bo2 0, .ptr 11 bo3 0]]), (19, .map bo4 (List.map (fun p => (.agg [I p.1.fAt.fFrame, I p.1.fAt.fThrown, I p.1.fAt.fStanding, .bool p.1.fAt.fFresh, I p.1.fAt.fNeed, I p.1.fAt.fAfter.a0, I p.1.fAt.fAfter.a1, I p.1.fLeft], .bool p.2)) r.2.1)), (510, .arr y 3 1 false (List.map I r.2.2))] := frameShows1C_n hN N h

theorem slicesClone0C {N : Nat} (hN : N ≤ 1073741824)  {r : (List Int)} (h : slicesClone0 N = some r) :
    ACalls Try.prog 57 [.nils 1] [] fun e os => e = .ret (.d (.list 1 (List.map I r))) ∧ os = [] := by
  refine acalls_f (fresh := false) tt_ok dr_ok ⟨[], [], [], [], [], 0⟩ Try.func57 rfl Try.call57 rfl ?_
  unfold slicesClone0 at h
  conv => whnf
  cases h
  exact rfl

theorem slicesClone1C {N : Nat} (hN : N ≤ 1073741824) {s1 : List Int} {r : (List Int)} (h : slicesClone1 N s1 = some r) :
    ACalls Try.prog 57 [.nn 1 (List.map I s1)] [] fun e os => e = .ret (.d (.list 1 (List.map I r))) ∧ os = [] := by
  refine acalls_f (fresh := false) tt_ok dr_ok ⟨[], [], [], [], [], 0⟩ Try.func57 rfl Try.call57 rfl ?_
  unfold slicesClone1 at h
  conv => whnf
  intro hd3
  obtain ⟨l2, hx2, h⟩ := obind h
  conv => whnf
  refine Side.mk rfl ?_
  conv => whnf
  refine Side.mk ⟨rfl, rfl, rfl⟩ (Need.mk (app_need hN hx2 (by decide)) (Eqv.mk (List.map I l2) (app_map _ hx2) ?_))
  conv => whnf
  intro hd4
  conv => whnf
  refine Side.mk rfl ?_
  conv => whnf
  cases h
  exact rfl

theorem slicesCloneC {N : Nat} (hN : N ≤ 1073741824) {l : List Int} {r : (List Int)} (h : slicesClone N l = some r) :
    ACalls Try.prog 57 [.d (.list 1 (List.map I l))] [] fun e os => e = .ret (.d (.list 1 (List.map I r))) ∧ os = [] := by
  unfold slicesClone at h
  refine ACalls.nils_or (fun e => ?_) (slicesClone1C hN h)
  have e2 := List.map_eq_nil_iff.1 e
  subst e2
  refine slicesClone0C hN ?_
  rw [← h]
  simp [slicesClone0, slicesClone1, slc, app, idx]

theorem frameShowsC {N : Nat} (hN : N ≤ 1073741824) {l1 : FrameLaw} {balls1 : List Int} {final1 : Int} {r : (List Int) × Int} (h : frameShows N l1 balls1 final1 = some r) :
    ACalls Try.prog 30 [.d (.agg [I l1.fFrames, I l1.fPins, I l1.fBalls, I l1.fTap]), .d (.list 1 (List.map I balls1)), .d (I final1)] [] fun e os => e = .ret (.d (.tup [.list 1 (List.map I r.1), I r.2])) ∧ os = [] := by
  refine acalls_f (fresh := false) tt_ok dr_ok ⟨[3], [], [10], [], [9], 0⟩ Try.func30 rfl Try.call30 rfl ?_
  unfold frameShows at h
  obtain ⟨r4, hx4, h⟩ := obind h
  conv => whnf
  refine CallG.pure _ (frameLawCheckC hN hx4) ?_
  conv => whnf
  refine Br.mk (fun hc2 => ?_) (fun hc2 => ?_)
  · replace h := ite_t hc2 h
    conv => whnf
    cases h
    exact rfl
  · replace h := ite_f hc2 h
    conv => whnf
    intro b3
    conv => whnf
    intro b4
    conv => whnf
    refine Side.mk rfl ?_
    conv => whnf
    intro b6
    conv => whnf
    intro b8
    conv => whnf
    refine Side.mk rfl ?_
    obtain ⟨r14, hx17, h⟩ := obind h
    conv => whnf
    refine CallG.pure _ (frameLawSpanC hN hx17) ?_
    conv => whnf
    intro b12
    conv => whnf
    refine Side.mk rfl ?_
    obtain ⟨⟨v2, l3⟩, hx22, h⟩ := obind h
    conv => whnf
    refine SeqG.mk Value (fun y => [(10, .ptr 10 b6 0), (43, .d (.bool v2))]) (fun y => [(10, .cells b6 [.sl 510 y]), (510, .arr y 3 1 false (List.map I l3))]) (fun _ => True) ?_ ?_
    · obtain ⟨r18, hx23, hx22⟩ := obind hx22
      conv => whnf
      refine DrawG.mk (.take 0 (.take 1 (.take 2 (.take 3 (.take 4 (.alt 5 [3, 1] (.take 6 (.take 7 (.spl 31 (.take 8 (.take 9 (.take 10 (.take 12 (.take 13 (.take 14 (.alt 11 [14, 13, 12, 8, 6, 3, 1] (.alt 15 [12, 8, 6, 3, 1] (.take 16 (.alt 17 [12, 6, 3, 1] (.take 18 (.take 19 .done)) .nil)) .nil) .nil)))))))))) .nil)))))) (by kernel_rfl) ?_
      conv => whnf
      refine Side.mk rfl ?_
      conv => whnf
      refine Side.mk rfl ?_
      conv => whnf
      refine Both.mk ?_ trivial
      conv => whnf
      refine CallG.pure _ (frameWithinC hN hx23) ?_
      conv => whnf
      refine Need.mk (AV.le_refl _) ?_
      conv => whnf
      refine Need.mk (AV.le_refl _) ?_
      conv => whnf
      refine Br.mk (fun hc7 => ?_) (fun hc7 => ?_)
      · replace hx22 := ite_t hc7 hx22
        conv => whnf
        refine Both.mk ?_ trivial
        conv => whnf
        refine Need.mk rfl ?_
        conv => whnf
        refine Need.mk rfl ?_
        conv => whnf
        refine Need.mk rfl ?_
        conv => whnf
        refine Need.mk rfl ?_
        conv => whnf
        refine Need.mk (AV.le_refl _) ?_
        conv => whnf
        refine Need.mk (AV.le_refl _) ?_
        conv => whnf
        refine Need.mk (AV.le_refl _) ?_
        conv => whnf
        refine Both.mk ?_ trivial
        conv => whnf
        refine Need.mk rfl ?_
        conv => whnf
        refine Need.mk rfl ?_
        conv => whnf
        refine Need.mk (AV.le_refl _) ?_
        conv => whnf
        refine Need.mk (AV.le_refl _) ?_
        conv => whnf
        refine Need.mk (AV.le_refl _) ?_
        conv => whnf
        refine Both.mk ?_ trivial
        conv => whnf
        refine Need.mk rfl ?_
        conv => whnf
        refine Need.mk (AV.le_refl _) ?_
        conv => whnf
        refine Need.mk (AV.le_refl _) ?_
        conv => whnf
        refine Need.mk (AV.le_refl _) ?_
        cases hx22
        conv => whnf
        refine ⟨(.slice none 0 0), trivial, Sub.eq rfl ?_ ?_⟩
        · repeat ((conv => whnf); refine Need.mk rfl ?_)
          exact trivial
        · conv => whnf
          refine Need.mk (OLe.refl _) ?_
          conv => whnf
          refine Need.mk (OLe.refl _) ?_
          exact trivial
      · replace hx22 := ite_f hc7 hx22
        obtain ⟨r19, hx24, hx22⟩ := obind hx22
        obtain ⟨r20, hx25, hx22⟩ := obind hx22
        obtain ⟨⟨ra4, rb4, rc4⟩, hx26, hx22⟩ := obind hx22
        conv => whnf
        refine Side.mk rfl ?_
        conv => whnf
        refine Both.mk ?_ trivial
        conv => whnf
        refine CallG.pure _ (frameLawBehindC hN hx24) ?_
        conv => whnf
        refine Need.mk (AV.le_refl _) ?_
        conv => whnf
        refine Need.mk (AV.le_refl _) ?_
        conv => whnf
        refine Need.mk (AV.le_refl _) ?_
        conv => whnf
        refine Side.mk rfl ?_
        conv => whnf
        refine Need.mk (AV.le_refl _) ?_
        conv => whnf
        refine Need.mk (AV.le_refl _) ?_
        conv => whnf
        refine Need.mk (AV.le_refl _) ?_
        conv => whnf
        refine Need.mk (AV.le_refl _) ?_
        conv => whnf
        refine Both.mk ?_ trivial
        conv => whnf
        refine CallG.pure _ (frameLawTotalC hN hx25) ?_
        conv => whnf
        refine Need.mk (AV.le_refl _) ?_
        conv => whnf
        refine Side.mk rfl ?_
        conv => whnf
        refine Need.mk (AV.le_refl _) ?_
        conv => whnf
        refine Need.mk (AV.le_refl _) ?_
        conv => whnf
        refine Need.mk (AV.le_refl _) ?_
        conv => whnf
        refine Need.mk (AV.le_refl _) ?_
        conv => whnf
        refine Both.mk ?_ trivial
        conv => whnf
        refine CallG.own (frameShows1C (bo1 := b4) (bo2 := b6) (bo3 := b8) (bo4 := b3) (ho1 := (.slice none 0 0)) hN hx26) id [(12, .cells b12 [.d (I r14.fLo), .d (I r14.fHi)])] _ (fun y => [(9, .cells b4 [.mp 19 b3]), (10, .cells b6 [.sl 510 y]), (11, .cells b8 [.fn (.func 54) [] [.ptr 9 b4 0, .ptr 10 b6 0, .ptr 11 b8 0]]), (19, .map b3 (List.map (fun p => (.agg [I p.1.fAt.fFrame, I p.1.fAt.fThrown, I p.1.fAt.fStanding, .bool p.1.fAt.fFresh, I p.1.fAt.fNeed, I p.1.fAt.fAfter.a0, I p.1.fAt.fAfter.a1, I p.1.fLeft], .bool p.2)) rb4)), (510, .arr y 3 1 false (List.map I rc4)), (12, .cells b12 [.d (I r14.fLo), .d (I r14.fHi)])]) (all2_le_refl _) (And.intro rfl (And.intro rfl (And.intro rfl (And.intro rfl (And.intro rfl trivial))))) rfl (And.intro rfl (And.intro rfl (And.intro rfl (And.intro rfl (And.intro rfl trivial))))) (And.intro rfl trivial) (fun _ => AV.le_refl _) (fun _ => rfl) ?_
        rintro hd10 _
        conv => whnf
        refine Need.mk (AV.le_refl _) ?_
        conv => whnf
        refine Need.mk (AV.le_refl _) ?_
        conv => whnf
        refine Need.mk (AV.le_refl _) ?_
        conv => whnf
        refine Need.mk (AV.le_refl _) ?_
        cases hx22
        conv => whnf
        refine ⟨hd10, trivial, Sub.eq rfl ?_ ?_⟩
        · repeat ((conv => whnf); refine Need.mk rfl ?_)
          exact trivial
        · conv => whnf
          refine Need.mk (OLe.refl _) ?_
          conv => whnf
          refine Need.mk (OLe.refl _) ?_
          exact trivial
    · rintro hd8 _
      conv => whnf
      refine Br.mk (fun hc8 => ?_) (fun hc8 => ?_)
      · replace h := ite_t hc8 h
        conv => whnf
        cases h
        exact rfl
      · replace h := ite_f hc8 h
        conv => whnf
        refine Side.mk rfl ?_
        obtain ⟨r22, hx28, h⟩ := obind h
        conv => whnf
        refine Side.mk rfl ?_
        conv => whnf
        refine CallG.pure _ (slicesCloneC hN hx28) ?_
        conv => whnf
        cases h
        exact rfl

theorem law01IntsC {N : Nat} (hN : N ≤ 1073741824) {a1 : List Int} {b1 : List Int} {r : Bool} (h : law01Ints N a1 b1 = some r) :
    ACalls Try.prog 35 [.d (.list 1 (List.map I a1)), .d (.list 1 (List.map I b1))] [] fun e os => e = .ret (.d (.bool r)) ∧ os = [] := by
  refine acalls_f (fresh := false) tt_ok dr_ok ⟨[], [], [], [], [1003], 0⟩ Try.func35 rfl Try.call35 rfl ?_
  unfold law01Ints at h
  conv => whnf
  refine Ln.mk _ (List.length_map _) ?_
  conv => whnf
  refine Ln.mk _ (List.length_map _) ?_
  conv => whnf
  refine Br.mk (fun hc2 => ?_) (fun hc2 => ?_)
  · replace h := ite_t hc2 h
    conv => whnf
    cases h
    exact rfl
  · replace h := ite_f hc2 h
    conv => whnf
    refine SeqG.mk Unit (fun y => []) (fun y => []) (fun y => law01Ints_k1 N = some r) ?_ ?_
    · conv => whnf
      refine LoopG.mk (Nat × Int) (fun y => [(0, .d (.list 1 (List.map I a1))), (1, .d (.list 1 (List.map I b1))), (5, .d (I y.2))]) (fun y => []) (fun y => loopN (fun rr x => law01Ints_b2 N a1 b1 rr x) y.1 y.2 = some r) (fun y => y.1) (N, 0) h (Sub.eq rfl ?_ ?_) ?_
      · repeat ((conv => whnf); refine Need.mk rfl ?_)
        exact trivial
      · exact trivial
      · rintro ⟨n2, i8⟩ hl2
        obtain ⟨n2, rfl, hl2⟩ := loopN_some hl2
        replace hl2 : law01Ints_b2 N a1 b1 (loopN (fun rr x => law01Ints_b2 N a1 b1 rr x) n2) i8 = some r := hl2
        rw [law01Ints_b2] at hl2
        conv => whnf
        refine Ln.mk _ (List.length_map _) ?_
        conv => whnf
        refine Br.mk (fun hc24 => ?_) (fun hc24 => ?_)
        · replace hl2 := ite_t hc24 hl2
          obtain ⟨x47, hx47, hl2⟩ := obind hl2
          obtain ⟨x48, hx48, hl2⟩ := obind hl2
          conv => whnf
          refine DrawG.mk (.take 0 (.take 1 (.take 2 (.take 3 (.take 4 (.take 5 (.take 6 (.take 7 (.take 8 .done))))))))) (by kernel_rfl) ?_
          conv => whnf
          refine Side.mk rfl ⟨_, idx_0 hx47, idx_map _ hx47, ?_⟩
          conv => whnf
          refine Side.mk rfl ⟨_, idx_0 hx48, idx_map _ hx48, ?_⟩
          conv => whnf
          refine Br.mk (fun hc26 => ?_) (fun hc26 => ?_)
          · replace hl2 := ite_t hc26 hl2
            conv => whnf
            cases hl2
            exact rfl
          · replace hl2 := ite_f hc26 hl2
            conv => whnf
            refine ⟨(n2, w64 (i8 + 1)), hl2, Sub.eq rfl ?_ ?_, Nat.lt_succ_self _⟩
            · repeat ((conv => whnf); refine Need.mk rfl ?_)
              exact trivial
            · exact trivial
        · replace hl2 := ite_f hc24 hl2
          conv => whnf
          refine ⟨(), hl2, Sub.eq rfl ?_ ?_⟩
          · repeat ((conv => whnf); refine Need.mk rfl ?_)
            exact trivial
          · exact trivial
    · clear h
      rintro _ h
      unfold law01Ints_k1 at h
      conv => whnf
      cases h
      exact rfl

theorem law01WakesC {N : Nat} (hN : N ≤ 1073741824)  {r : Bool} (h : law01Wakes N = some r) :
    ACalls Try.prog 17 [] [] fun e os => e = .ret (.d (.bool r)) ∧ os = [] := by
  refine acalls_f (fresh := false) tt_ok dr_ok ⟨[], [], [], [], [5], 0⟩ Try.func17 rfl Try.call17 rfl ?_
  unfold law01Wakes at h
  obtain ⟨r3, hx4, h⟩ := obind h
  conv => whnf
  refine CallG.pure _ (law01TenC hN hx4) ?_
  obtain ⟨r4, hx5, h⟩ := obind h
  conv => whnf
  refine CallG.pure _ (law01EveningC hN hx5) ?_
  obtain ⟨⟨ra2, rb2⟩, hx6, h⟩ := obind h
  conv => whnf
  refine CallG.pure _ (frameReadC hN hx6) ?_
  conv => whnf
  intro b2
  conv => whnf
  refine Side.mk rfl ?_
  obtain ⟨r6, hx9, h⟩ := obind h
  conv => whnf
  refine CallG.pure _ (law01TenC hN hx9) ?_
  conv => whnf
  intro hd2
  obtain ⟨⟨ra4, rb4⟩, hx10, h⟩ := obind h
  conv => whnf
  refine Side.mk rfl ?_
  conv => whnf
  refine CallG.pure _ (frameBadC hN hx10) ?_
  obtain ⟨r9, hx14, h⟩ := obind h
  conv => whnf
  refine CallG.pure _ (law01TenC hN hx14) ?_
  obtain ⟨r10, hx15, h⟩ := obind h
  conv => whnf
  refine CallG.pure _ (law01EveningC hN hx15) ?_
  obtain ⟨⟨ra6, rb6⟩, hx16, h⟩ := obind h
  conv => whnf
  refine CallG.pure _ (frameSpanC hN hx16) ?_
  conv => whnf
  intro b4
  conv => whnf
  refine Side.mk rfl ?_
  obtain ⟨r13, hx20, h⟩ := obind h
  conv => whnf
  refine CallG.pure _ (law01TenC hN hx20) ?_
  conv => whnf
  intro hd4
  obtain ⟨r14, hx21, h⟩ := obind h
  conv => whnf
  refine Side.mk rfl ?_
  conv => whnf
  refine CallG.pure _ (law01ManyC hN hx21) ?_
  obtain ⟨⟨ra8, rb8⟩, hx22, h⟩ := obind h
  conv => whnf
  refine CallG.pure _ (frameShowsC hN hx22) ?_
  obtain ⟨v1, hx25, h⟩ := obind h
  conv => whnf
  refine SeqG.mk Unit (fun y => [(0, .d (.bool v1))]) (fun y => []) (fun _ => True) ?_ ?_
  · conv => whnf
    refine Br.mk (fun hc10 => ?_) (fun hc10 => ?_)
    · replace hx25 := ite_t hc10 hx25
      conv => whnf
      refine Side.mk rfl ?_
      conv => whnf
      intro hd7
      obtain ⟨r17, hx26, hx25⟩ := obind hx25
      conv => whnf
      refine Side.mk rfl ?_
      conv => whnf
      refine CallG.pure _ (law01IntsC hN hx26) ?_
      conv => whnf
      refine Br.mk (fun hc11 => ?_) (fun hc11 => ?_)
      · replace hx25 := ite_t hc11 hx25
        conv => whnf
        refine Side.mk rfl ?_
        conv => whnf
        refine Br.mk (fun hc12 => ?_) (fun hc12 => ?_)
        · replace hx25 := ite_t hc12 hx25
          conv => whnf
          refine Side.mk rfl ?_
          conv => whnf
          refine Br.mk (fun hc13 => ?_) (fun hc13 => ?_)
          · replace hx25 := ite_t hc13 hx25
            conv => whnf
            refine Br.mk (fun hc14 => ?_) (fun hc14 => ?_)
            · replace hx25 := ite_t hc14 hx25
              conv => whnf
              refine Br.mk (fun hc15 => ?_) (fun hc15 => ?_)
              · replace hx25 := ite_t hc15 hx25
                conv => whnf
                refine Br.mk (fun hc16 => ?_) (fun hc16 => ?_)
                · replace hx25 := ite_t hc16 hx25
                  conv => whnf
                  refine Side.mk rfl ?_
                  conv => whnf
                  refine Need.mk ⟨rfl, rfl⟩ (EqB.mk _ (FrameRange.eqc ra6 (FrameRange.mk 52 248)) ?_)
                  conv => whnf
                  refine Br.mk (fun hc17 => ?_) (fun hc17 => ?_)
                  · replace hx25 := ite_t hc17 hx25
                    conv => whnf
                    refine Br.mk (fun hc18 => ?_) (fun hc18 => ?_)
                    · replace hx25 := ite_t hc18 hx25
                      conv => whnf
                      intro hd8
                      obtain ⟨r18, hx27, hx25⟩ := obind hx25
                      conv => whnf
                      refine Side.mk rfl ?_
                      conv => whnf
                      refine CallG.pure _ (law01IntsC hN hx27) ?_
                      cases hx25
                      conv => whnf
                      refine ⟨(), trivial, Sub.eq rfl ?_ ?_⟩
                      · repeat ((conv => whnf); refine Need.mk rfl ?_)
                        exact trivial
                      · exact trivial
                    · replace hx25 := ite_f hc18 hx25
                      cases hx25
                      conv => whnf
                      refine ⟨(), trivial, Sub.eq rfl ?_ ?_⟩
                      · repeat ((conv => whnf); refine Need.mk rfl ?_)
                        exact trivial
                      · exact trivial
                  · replace hx25 := ite_f hc17 hx25
                    cases hx25
                    conv => whnf
                    refine ⟨(), trivial, Sub.eq rfl ?_ ?_⟩
                    · repeat ((conv => whnf); refine Need.mk rfl ?_)
                      exact trivial
                    · exact trivial
                · replace hx25 := ite_f hc16 hx25
                  cases hx25
                  conv => whnf
                  refine ⟨(), trivial, Sub.eq rfl ?_ ?_⟩
                  · repeat ((conv => whnf); refine Need.mk rfl ?_)
                    exact trivial
                  · exact trivial
              · replace hx25 := ite_f hc15 hx25
                cases hx25
                conv => whnf
                refine ⟨(), trivial, Sub.eq rfl ?_ ?_⟩
                · repeat ((conv => whnf); refine Need.mk rfl ?_)
                  exact trivial
                · exact trivial
            · replace hx25 := ite_f hc14 hx25
              cases hx25
              conv => whnf
              refine ⟨(), trivial, Sub.eq rfl ?_ ?_⟩
              · repeat ((conv => whnf); refine Need.mk rfl ?_)
                exact trivial
              · exact trivial
          · replace hx25 := ite_f hc13 hx25
            cases hx25
            conv => whnf
            refine ⟨(), trivial, Sub.eq rfl ?_ ?_⟩
            · repeat ((conv => whnf); refine Need.mk rfl ?_)
              exact trivial
            · exact trivial
        · replace hx25 := ite_f hc12 hx25
          cases hx25
          conv => whnf
          refine ⟨(), trivial, Sub.eq rfl ?_ ?_⟩
          · repeat ((conv => whnf); refine Need.mk rfl ?_)
            exact trivial
          · exact trivial
      · replace hx25 := ite_f hc11 hx25
        cases hx25
        conv => whnf
        refine ⟨(), trivial, Sub.eq rfl ?_ ?_⟩
        · repeat ((conv => whnf); refine Need.mk rfl ?_)
          exact trivial
        · exact trivial
    · replace hx25 := ite_f hc10 hx25
      cases hx25
      conv => whnf
      refine ⟨(), trivial, Sub.eq rfl ?_ ?_⟩
      · repeat ((conv => whnf); refine Need.mk rfl ?_)
        exact trivial
      · exact trivial
  · rintro _ _
    conv => whnf
    cases h
    exact rfl

theorem law01LawC {N : Nat} (hN : N ≤ 1073741824) {l1 : Ref01Law} {r : FrameLaw} (h : law01Law N l1 = some r) :
    ACalls Try.prog 19 [.d (.agg [I l1.fFrames, I l1.fPins, I l1.fBalls, I l1.fTap])] [] fun e os => e = .ret (.d (.agg [I r.fFrames, I r.fPins, I r.fBalls, I r.fTap])) ∧ os = [] := by
  refine acalls_f (fresh := false) tt_ok dr_ok ⟨[1], [], [], [], [], 0⟩ Try.func19 rfl Try.call19 rfl ?_
  unfold law01Law at h
  conv => whnf
  intro b2
  conv => whnf
  refine Side.mk rfl ?_
  conv => whnf
  refine Side.mk rfl ?_
  conv => whnf
  cases h
  exact rfl

theorem law01ListC {N : Nat} (hN : N ≤ 1073741824) {l1 : List Int} {r : (List Int)} (h : law01List N l1 = some r) :
    ACalls Try.prog 21 [.d (.list 1 (List.map I l1))] [] fun e os => ∃ hd, e = .ret (.sl 0 hd) ∧ os = [(0, .arr hd 3 1 false (List.map I r))] := by
  refine acalls_fr tt_ok dr_ok ⟨[], [], [], [], [], 0⟩ Try.func21 rfl Try.call21 rfl ?_
  unfold law01List at h
  conv => whnf
  intro hd3
  obtain ⟨l3, hx2, h⟩ := obind h
  conv => whnf
  refine Side.mk rfl ?_
  conv => whnf
  refine Side.mk ⟨rfl, rfl, rfl⟩ (Need.mk (app_need hN hx2 (by decide)) (Eqv.mk (List.map I l3) (app_map _ hx2) ?_))
  conv => whnf
  intro hd4
  conv => whnf
  cases h
  exact ⟨_, _, rfl, rfl⟩

theorem ref01InC {N : Nat} (hN : N ≤ 1073741824) {n1 : Int} {low1 : Int} {high1 : Int} {r : Bool} (h : ref01In N n1 low1 high1 = some r) :
    ACalls Try.prog 44 [.d (I n1), .d (I low1), .d (I high1)] [] fun e os => e = .ret (.d (.bool r)) ∧ os = [] := by
  refine acalls_f (fresh := false) tt_ok dr_ok ⟨[], [], [], [], [1], 0⟩ Try.func44 rfl Try.call44 rfl ?_
  unfold ref01In at h
  obtain ⟨v1, hx1, h⟩ := obind h
  conv => whnf
  refine SeqG.mk Unit (fun y => [(6, .d (.bool v1))]) (fun y => []) (fun _ => True) ?_ ?_
  · conv => whnf
    refine Br.mk (fun hc2 => ?_) (fun hc2 => ?_)
    · replace hx1 := ite_t hc2 hx1
      cases hx1
      conv => whnf
      refine ⟨(), trivial, Sub.eq rfl ?_ ?_⟩
      · repeat ((conv => whnf); refine Need.mk rfl ?_)
        exact trivial
      · exact trivial
    · replace hx1 := ite_f hc2 hx1
      cases hx1
      conv => whnf
      refine ⟨(), trivial, Sub.eq rfl ?_ ?_⟩
      · repeat ((conv => whnf); refine Need.mk rfl ?_)
        exact trivial
      · exact trivial
  · rintro _ _
    conv => whnf
    cases h
    exact rfl

theorem ref01IsLawC {N : Nat} (hN : N ≤ 1073741824) {l1 : Ref01Law} {r : Bool} (h : ref01IsLaw N l1 = some r) :
    ACalls Try.prog 22 [.d (.agg [I l1.fFrames, I l1.fPins, I l1.fBalls, I l1.fTap])] [] fun e os => e = .ret (.d (.bool r)) ∧ os = [] := by
  refine acalls_f (fresh := false) tt_ok dr_ok ⟨[1], [], [], [], [1], 0⟩ Try.func22 rfl Try.call22 rfl ?_
  unfold ref01IsLaw at h
  obtain ⟨v1, hx5, h⟩ := obind h
  conv => whnf
  refine SeqG.mk Unit (fun y => [(2, .d (.bool v1))]) (fun y => []) (fun _ => True) ?_ ?_
  · obtain ⟨r5, hx6, hx5⟩ := obind hx5
    conv => whnf
    refine CallG.pure _ (ref01InC hN hx6) ?_
    conv => whnf
    refine Br.mk (fun hc4 => ?_) (fun hc4 => ?_)
    · replace hx5 := ite_t hc4 hx5
      obtain ⟨r6, hx7, hx5⟩ := obind hx5
      conv => whnf
      refine CallG.pure _ (ref01InC hN hx7) ?_
      conv => whnf
      refine Br.mk (fun hc5 => ?_) (fun hc5 => ?_)
      · replace hx5 := ite_t hc5 hx5
        obtain ⟨r7, hx8, hx5⟩ := obind hx5
        conv => whnf
        refine CallG.pure _ (ref01InC hN hx8) ?_
        conv => whnf
        refine Br.mk (fun hc6 => ?_) (fun hc6 => ?_)
        · replace hx5 := ite_t hc6 hx5
          obtain ⟨r8, hx9, hx5⟩ := obind hx5
          conv => whnf
          refine CallG.pure _ (ref01InC hN hx9) ?_
          cases hx5
          conv => whnf
          refine ⟨(), trivial, Sub.eq rfl ?_ ?_⟩
          · repeat ((conv => whnf); refine Need.mk rfl ?_)
            exact trivial
          · exact trivial
        · replace hx5 := ite_f hc6 hx5
          cases hx5
          conv => whnf
          refine ⟨(), trivial, Sub.eq rfl ?_ ?_⟩
          · repeat ((conv => whnf); refine Need.mk rfl ?_)
            exact trivial
          · exact trivial
      · replace hx5 := ite_f hc5 hx5
        cases hx5
        conv => whnf
        refine ⟨(), trivial, Sub.eq rfl ?_ ?_⟩
        · repeat ((conv => whnf); refine Need.mk rfl ?_)
          exact trivial
        · exact trivial
    · replace hx5 := ite_f hc4 hx5
      cases hx5
      conv => whnf
      refine ⟨(), trivial, Sub.eq rfl ?_ ?_⟩
      · repeat ((conv => whnf); refine Need.mk rfl ?_)
        exact trivial
      · exact trivial
  · rintro _ _
    conv => whnf
    cases h
    exact rfl

theorem ref01BeginC {N : Nat} (hN : N ≤ 1073741824) {l1 : Ref01Law} {r : Ref01Stand} (h : ref01Begin N l1 = some r) :
    ACalls Try.prog 45 [.d (.agg [I l1.fFrames, I l1.fPins, I l1.fBalls, I l1.fTap])] [] fun e os => e = .ret (.d (.agg [I r.fFrame, I r.fThrown, I r.fStanding, .bool r.fSet, I r.fHas])) ∧ os = [] := by
  refine acalls_f (fresh := false) tt_ok dr_ok ⟨[1], [], [], [], [], 0⟩ Try.func45 rfl Try.call45 rfl ?_
  unfold ref01Begin at h
  conv => whnf
  intro b2
  conv => whnf
  refine Side.mk rfl ?_
  conv => whnf
  refine Side.mk rfl ?_
  conv => whnf
  cases h
  exact rfl

theorem ref01FitsC {N : Nat} (hN : N ≤ 1073741824) {l1 : Ref01Law} {s1 : Ref01Stand} {ball1 : Int} {r : Bool} (h : ref01Fits N l1 s1 ball1 = some r) :
    ACalls Try.prog 46 [.d (.agg [I l1.fFrames, I l1.fPins, I l1.fBalls, I l1.fTap]), .d (.agg [I s1.fFrame, I s1.fThrown, I s1.fStanding, .bool s1.fSet, I s1.fHas]), .d (I ball1)] [] fun e os => e = .ret (.d (.bool r)) ∧ os = [] := by
  refine acalls_f (fresh := false) tt_ok dr_ok ⟨[3, 4], [], [], [], [1], 0⟩ Try.func46 rfl Try.call46 rfl ?_
  unfold ref01Fits at h
  obtain ⟨v1, hx2, h⟩ := obind h
  conv => whnf
  refine SeqG.mk Unit (fun y => [(6, .d (.bool v1))]) (fun y => []) (fun _ => True) ?_ ?_
  · conv => whnf
    refine Br.mk (fun hc2 => ?_) (fun hc2 => ?_)
    · replace hx2 := ite_t hc2 hx2
      obtain ⟨r2, hx3, hx2⟩ := obind hx2
      conv => whnf
      refine CallG.pure _ (ref01InC hN hx3) ?_
      cases hx2
      conv => whnf
      refine ⟨(), trivial, Sub.eq rfl ?_ ?_⟩
      · repeat ((conv => whnf); refine Need.mk rfl ?_)
        exact trivial
      · exact trivial
    · replace hx2 := ite_f hc2 hx2
      cases hx2
      conv => whnf
      refine ⟨(), trivial, Sub.eq rfl ?_ ?_⟩
      · repeat ((conv => whnf); refine Need.mk rfl ?_)
        exact trivial
      · exact trivial
  · rintro _ _
    conv => whnf
    cases h
    exact rfl

theorem ref01ThrowC {N : Nat} (hN : N ≤ 1073741824) {a1 : Ref01Law} {a2 : Ref01Stand} {a3 : Int} {r : Ref01Stand × Int} (h : ref01Throw N a1 a2 a3 = some r) :
    ACalls Try.prog 47 [.d (.agg [I a1.fFrames, I a1.fPins, I a1.fBalls, I a1.fTap]), .d (.agg [I a2.fFrame, I a2.fThrown, I a2.fStanding, .bool a2.fSet, I a2.fHas]), .d (I a3)] [] fun e os => e = .ret (.d (.tup [.agg [I r.1.fFrame, I r.1.fThrown, I r.1.fStanding, .bool r.1.fSet, I r.1.fHas], I r.2])) ∧ os = [] := by
  refine acalls_f (fresh := false) tt_ok dr_ok ⟨[3, 4], [], [], [], [4, 11, 14, 1002, 1004, 1011, 1014, 1018], 0⟩ Try.func47 rfl Try.call47 rfl ?_
  unfold ref01Throw at h
  conv => whnf
  intro b2
  obtain ⟨v1, hx1, h⟩ := obind h
  conv => whnf
  refine SeqG.mk Unit (fun y => [(3, .d (.ref (.agg [I a1.fFrames, I a1.fPins, I a1.fBalls, I a1.fTap]))), (4, .d (.ref (.agg [I a2.fFrame, I a2.fThrown, I a2.fStanding, .bool a2.fSet, I a2.fHas]))), (6, .ptr 6 b2 0), (8, .d (I v1))]) (fun y => [(6, .cells b2 [.d (I 0), .d (I 0), .d (I 0), .d (.bool false), .d (I 0)])]) (fun _ => True) ?_ ?_
  · conv => whnf
    refine Br.mk (fun hc2 => ?_) (fun hc2 => ?_)
    · replace hx1 := ite_t hc2 hx1
      cases hx1
      conv => whnf
      refine ⟨(), trivial, Sub.eq rfl ?_ ?_⟩
      · repeat ((conv => whnf); refine Need.mk rfl ?_)
        exact trivial
      · conv => whnf
        refine Need.mk (OLe.refl _) ?_
        exact trivial
    · replace hx1 := ite_f hc2 hx1
      cases hx1
      conv => whnf
      refine ⟨(), trivial, Sub.eq rfl ?_ ?_⟩
      · repeat ((conv => whnf); refine Need.mk rfl ?_)
        exact trivial
      · conv => whnf
        refine Need.mk (OLe.refl _) ?_
        exact trivial
  · rintro _ _
    obtain ⟨v3, hx3, h⟩ := obind h
    conv => whnf
    refine SeqG.mk Unit (fun y => [(3, .d (.ref (.agg [I a1.fFrames, I a1.fPins, I a1.fBalls, I a1.fTap]))), (4, .d (.ref (.agg [I a2.fFrame, I a2.fThrown, I a2.fStanding, .bool a2.fSet, I a2.fHas]))), (6, .ptr 6 b2 0), (8, .d (I v3))]) (fun y => [(6, .cells b2 [.d (I 0), .d (I 0), .d (I 0), .d (.bool false), .d (I 0)])]) (fun _ => True) ?_ ?_
    · obtain ⟨v4, hx4, hx3⟩ := obind hx3
      conv => whnf
      refine SeqG.mk Unit (fun y => [(3, .d (.ref (.agg [I a1.fFrames, I a1.fPins, I a1.fBalls, I a1.fTap]))), (4, .d (.ref (.agg [I a2.fFrame, I a2.fThrown, I a2.fStanding, .bool a2.fSet, I a2.fHas]))), (6, .ptr 6 b2 0), (8, .d (I v1)), (20, .d (.bool v4))]) (fun y => [(6, .cells b2 [.d (I 0), .d (I 0), .d (I 0), .d (.bool false), .d (I 0)])]) (fun _ => True) ?_ ?_
      · conv => whnf
        refine Br.mk (fun hc7 => ?_) (fun hc7 => ?_)
        · replace hx4 := ite_t hc7 hx4
          cases hx4
          conv => whnf
          refine ⟨(), trivial, Sub.eq rfl ?_ ?_⟩
          · repeat ((conv => whnf); refine Need.mk rfl ?_)
            exact trivial
          · conv => whnf
            refine Need.mk (OLe.refl _) ?_
            exact trivial
        · replace hx4 := ite_f hc7 hx4
          cases hx4
          conv => whnf
          refine ⟨(), trivial, Sub.eq rfl ?_ ?_⟩
          · repeat ((conv => whnf); refine Need.mk rfl ?_)
            exact trivial
          · conv => whnf
            refine Need.mk (OLe.refl _) ?_
            exact trivial
      · rintro _ _
        conv => whnf
        refine Br.mk (fun hc8 => ?_) (fun hc8 => ?_)
        · replace hx3 := ite_t hc8 hx3
          cases hx3
          conv => whnf
          refine ⟨(), trivial, Sub.eq rfl ?_ ?_⟩
          · repeat ((conv => whnf); refine Need.mk rfl ?_)
            exact trivial
          · conv => whnf
            refine Need.mk (OLe.refl _) ?_
            exact trivial
        · replace hx3 := ite_f hc8 hx3
          cases hx3
          conv => whnf
          refine ⟨(), trivial, Sub.eq rfl ?_ ?_⟩
          · repeat ((conv => whnf); refine Need.mk rfl ?_)
            exact trivial
          · conv => whnf
            refine Need.mk (OLe.refl _) ?_
            exact trivial
    · rintro _ _
      conv => whnf
      intro b4
      conv => whnf
      refine Side.mk rfl ?_
      conv => whnf
      refine Side.mk rfl ?_
      conv => whnf
      refine Side.mk rfl ?_
      conv => whnf
      refine Side.mk rfl ?_
      conv => whnf
      refine Side.mk rfl ?_
      conv => whnf
      refine Side.mk rfl ?_
      conv => whnf
      refine Br.mk (fun hc16 => ?_) (fun hc16 => ?_)
      · replace h := ite_t hc16 h
        obtain ⟨c5, hx9, h⟩ := obind h
        conv => whnf
        refine SeqG.mk Unit (fun y => [(6, .ptr 6 b2 0), (8, .d (I v3)), (9, .ptr 9 b4 0)]) (fun y => [(6, .cells b2 [.d (I 0), .d (I 0), .d (I 0), .d (.bool false), .d (I 0)]), (9, .cells b4 [.d (I c5.fFrame), .d (I c5.fThrown), .d (I c5.fStanding), .d (.bool c5.fSet), .d (I c5.fHas)])]) (fun _ => True) ?_ ?_
        · obtain ⟨⟨v8, c6⟩, hx10, hx9⟩ := obind hx9
          conv => whnf
          refine SeqG.mk Unit (fun y => [(3, .d (.ref (.agg [I a1.fFrames, I a1.fPins, I a1.fBalls, I a1.fTap]))), (4, .d (.ref (.agg [I a2.fFrame, I a2.fThrown, I a2.fStanding, .bool a2.fSet, I a2.fHas]))), (6, .ptr 6 b2 0), (8, .d (I v3)), (9, .ptr 9 b4 0), (49, .d (.bool v8))]) (fun y => [(6, .cells b2 [.d (I 0), .d (I 0), .d (I 0), .d (.bool false), .d (I 0)]), (9, .cells b4 [.d (I c6.fFrame), .d (I c6.fThrown), .d (I c6.fStanding), .d (.bool c6.fSet), .d (I c6.fHas)])]) (fun _ => True) ?_ ?_
          · conv => whnf
            refine Side.mk rfl ?_
            conv => whnf
            refine Br.mk (fun hc21 => ?_) (fun hc21 => ?_)
            · replace hx10 := ite_f hc21 hx10
              conv => whnf
              refine Side.mk rfl ?_
              cases hx10
              conv => whnf
              refine ⟨(), trivial, Sub.eq rfl ?_ ?_⟩
              · repeat ((conv => whnf); refine Need.mk rfl ?_)
                exact trivial
              · conv => whnf
                refine Need.mk (OLe.refl _) ?_
                conv => whnf
                refine Need.mk (OLe.refl _) ?_
                exact trivial
            · replace hx10 := ite_t hc21 hx10
              cases hx10
              conv => whnf
              refine ⟨(), trivial, Sub.eq rfl ?_ ?_⟩
              · repeat ((conv => whnf); refine Need.mk rfl ?_)
                exact trivial
              · conv => whnf
                refine Need.mk (OLe.refl _) ?_
                conv => whnf
                refine Need.mk (OLe.refl _) ?_
                exact trivial
          · rintro _ _
            conv => whnf
            refine Br.mk (fun hc22 => ?_) (fun hc22 => ?_)
            · replace hx9 := ite_t hc22 hx9
              conv => whnf
              refine Side.mk rfl ?_
              cases hx9
              conv => whnf
              refine ⟨(), trivial, Sub.eq rfl ?_ ?_⟩
              · repeat ((conv => whnf); refine Need.mk rfl ?_)
                exact trivial
              · conv => whnf
                refine Need.mk (OLe.refl _) ?_
                conv => whnf
                refine Need.mk (OLe.refl _) ?_
                exact trivial
            · replace hx9 := ite_f hc22 hx9
              cases hx9
              conv => whnf
              refine ⟨(), trivial, Sub.eq rfl ?_ ?_⟩
              · repeat ((conv => whnf); refine Need.mk rfl ?_)
                exact trivial
              · conv => whnf
                refine Need.mk (OLe.refl _) ?_
                conv => whnf
                refine Need.mk (OLe.refl _) ?_
                exact trivial
        · rintro _ _
          conv => whnf
          refine Side.mk rfl ?_
          conv => whnf
          refine Side.mk rfl ?_
          conv => whnf
          refine Side.mk rfl ?_
          conv => whnf
          cases h
          exact rfl
      · replace h := ite_f hc16 h
        obtain ⟨c8, hx12, h⟩ := obind h
        conv => whnf
        refine SeqG.mk Unit (fun y => [(3, .d (.ref (.agg [I a1.fFrames, I a1.fPins, I a1.fBalls, I a1.fTap]))), (6, .ptr 6 b2 0), (8, .d (I v3)), (9, .ptr 9 b4 0)]) (fun y => [(6, .cells b2 [.d (I 0), .d (I 0), .d (I 0), .d (.bool false), .d (I 0)]), (9, .cells b4 [.d (I c8.fFrame), .d (I c8.fThrown), .d (I c8.fStanding), .d (.bool c8.fSet), .d (I c8.fHas)])]) (fun _ => True) ?_ ?_
        · obtain ⟨⟨v10, c9⟩, hx13, hx12⟩ := obind hx12
          conv => whnf
          refine SeqG.mk Unit (fun y => [(3, .d (.ref (.agg [I a1.fFrames, I a1.fPins, I a1.fBalls, I a1.fTap]))), (6, .ptr 6 b2 0), (8, .d (I v3)), (9, .ptr 9 b4 0), (67, .d (.bool v10))]) (fun y => [(6, .cells b2 [.d (I 0), .d (I 0), .d (I 0), .d (.bool false), .d (I 0)]), (9, .cells b4 [.d (I c9.fFrame), .d (I c9.fThrown), .d (I c9.fStanding), .d (.bool c9.fSet), .d (I c9.fHas)])]) (fun _ => True) ?_ ?_
          · conv => whnf
            refine Side.mk rfl ?_
            conv => whnf
            refine Br.mk (fun hc27 => ?_) (fun hc27 => ?_)
            · replace hx13 := ite_t hc27 hx13
              conv => whnf
              refine Side.mk rfl ?_
              cases hx13
              conv => whnf
              refine ⟨(), trivial, Sub.eq rfl ?_ ?_⟩
              · repeat ((conv => whnf); refine Need.mk rfl ?_)
                exact trivial
              · conv => whnf
                refine Need.mk (OLe.refl _) ?_
                conv => whnf
                refine Need.mk (OLe.refl _) ?_
                exact trivial
            · replace hx13 := ite_f hc27 hx13
              cases hx13
              conv => whnf
              refine ⟨(), trivial, Sub.eq rfl ?_ ?_⟩
              · repeat ((conv => whnf); refine Need.mk rfl ?_)
                exact trivial
              · conv => whnf
                refine Need.mk (OLe.refl _) ?_
                conv => whnf
                refine Need.mk (OLe.refl _) ?_
                exact trivial
          · rintro _ _
            conv => whnf
            refine Br.mk (fun hc28 => ?_) (fun hc28 => ?_)
            · replace hx12 := ite_t hc28 hx12
              conv => whnf
              refine Side.mk rfl ?_
              cases hx12
              conv => whnf
              refine ⟨(), trivial, Sub.eq rfl ?_ ?_⟩
              · repeat ((conv => whnf); refine Need.mk rfl ?_)
                exact trivial
              · conv => whnf
                refine Need.mk (OLe.refl _) ?_
                conv => whnf
                refine Need.mk (OLe.refl _) ?_
                exact trivial
            · replace hx12 := ite_f hc28 hx12
              cases hx12
              conv => whnf
              refine ⟨(), trivial, Sub.eq rfl ?_ ?_⟩
              · repeat ((conv => whnf); refine Need.mk rfl ?_)
                exact trivial
              · conv => whnf
                refine Need.mk (OLe.refl _) ?_
                conv => whnf
                refine Need.mk (OLe.refl _) ?_
                exact trivial
        · rintro _ _
          conv => whnf
          refine Side.mk rfl ?_
          conv => whnf
          refine Side.mk rfl ?_
          conv => whnf
          refine Br.mk (fun hc30 => ?_) (fun hc30 => ?_)
          · replace h := ite_t hc30 h
            conv => whnf
            refine Side.mk rfl ?_
            conv => whnf
            refine Side.mk rfl ?_
            conv => whnf
            cases h
            exact rfl
          · replace h := ite_f hc30 h
            obtain ⟨c10, hx14, h⟩ := obind h
            conv => whnf
            refine SeqG.mk Unit (fun y => [(6, .ptr 6 b2 0), (8, .d (I v3)), (9, .ptr 9 b4 0)]) (fun y => [(6, .cells b2 [.d (I 0), .d (I 0), .d (I 0), .d (.bool false), .d (I 0)]), (9, .cells b4 [.d (I c10.fFrame), .d (I c10.fThrown), .d (I c10.fStanding), .d (.bool c10.fSet), .d (I c10.fHas)])]) (fun _ => True) ?_ ?_
            · conv => whnf
              refine Side.mk rfl ?_
              conv => whnf
              refine Br.mk (fun hc32 => ?_) (fun hc32 => ?_)
              · replace hx14 := ite_t hc32 hx14
                conv => whnf
                refine Side.mk rfl ?_
                conv => whnf
                refine Side.mk rfl ?_
                cases hx14
                conv => whnf
                refine ⟨(), trivial, Sub.eq rfl ?_ ?_⟩
                · repeat ((conv => whnf); refine Need.mk rfl ?_)
                  exact trivial
                · conv => whnf
                  refine Need.mk (OLe.refl _) ?_
                  conv => whnf
                  refine Need.mk (OLe.refl _) ?_
                  exact trivial
              · replace hx14 := ite_f hc32 hx14
                cases hx14
                conv => whnf
                refine ⟨(), trivial, Sub.eq rfl ?_ ?_⟩
                · repeat ((conv => whnf); refine Need.mk rfl ?_)
                  exact trivial
                · conv => whnf
                  refine Need.mk (OLe.refl _) ?_
                  conv => whnf
                  refine Need.mk (OLe.refl _) ?_
                  exact trivial
            · rintro _ _
              conv => whnf
              refine Side.mk rfl ?_
              conv => whnf
              refine Side.mk rfl ?_
              conv => whnf
              refine Side.mk rfl ?_
              conv => whnf
              cases h
              exact rfl

theorem ref01PlayC {N : Nat} (hN : N ≤ 1073741824) {l1 : Ref01Law} {sheet1 : List Int} {r : Ref01Stand × (List Ref01Ball)} (h : ref01Play N l1 sheet1 = some r) :
    ACalls Try.prog 24 [.d (.agg [I l1.fFrames, I l1.fPins, I l1.fBalls, I l1.fTap]), .d (.list 1 (List.map I sheet1))] [] fun e os => e = .ret (.d (.tup [.agg [I r.1.fFrame, I r.1.fThrown, I r.1.fStanding, .bool r.1.fSet, I r.1.fHas], .list 2 (List.map Ref01Ball.enc r.2)])) ∧ os = [] := by
  refine acalls_f (fresh := false) tt_ok dr_ok ⟨[2], [], [], [], [4, 6, 1003], 0⟩ Try.func24 rfl Try.call24 rfl ?_
  unfold ref01Play at h
  conv => whnf
  intro b2
  obtain ⟨r2, hx2, h⟩ := obind h
  conv => whnf
  refine CallG.pure _ (ref01BeginC hN hx2) ?_
  conv => whnf
  intro b4
  conv => whnf
  refine Side.mk rfl ?_
  obtain ⟨⟨s5, l18⟩, hx75, h⟩ := obind h
  conv => whnf
  refine SeqG.mk Value (fun y => [(4, .ptr 4 b2 0), (6, .ptr 6 b4 0), (7, .sl 44 y)]) (fun y => [(4, .cells b2 [.d (I 0), .d (I 0), .d (I 0), .d (.bool false), .d (I 0)]), (6, .cells b4 [.d (I s5.fFrame), .d (I s5.fThrown), .d (I s5.fStanding), .d (.bool s5.fSet), .d (I s5.fHas)]), (44, .arr y 84 2 false (List.map Ref01Ball.enc l18))]) (fun _ => True) ?_ ?_
  · conv => whnf
    refine LoopG.mk (Nat × (Int × Ref01Stand × (List Ref01Ball)) × Value) (fun y => [(1, .d (.list 1 (List.map I sheet1))), (2, .d (.ref (.agg [I l1.fFrames, I l1.fPins, I l1.fBalls, I l1.fTap]))), (4, .ptr 4 b2 0), (6, .ptr 6 b4 0), (7, .sl 44 y.2.2), (8, .d (I y.2.1.1))]) (fun y => [(4, .cells b2 [.d (I 0), .d (I 0), .d (I 0), .d (.bool false), .d (I 0)]), (6, .cells b4 [.d (I y.2.1.2.1.fFrame), .d (I y.2.1.2.1.fThrown), .d (I y.2.1.2.1.fStanding), .d (.bool y.2.1.2.1.fSet), .d (I y.2.1.2.1.fHas)]), (44, .arr y.2.2 84 2 false (List.map Ref01Ball.enc y.2.1.2.2))]) (fun y => loopN (fun rr x => ref01Play_b1 N l1 sheet1 rr x.1 x.2.1 x.2.2) y.1 y.2.1 = some (s5, l18)) (fun y => y.1) (N, (0, r2, []), (.slice none 0 0)) hx75 (Sub.eq rfl ?_ ?_) ?_
    · repeat ((conv => whnf); refine Need.mk rfl ?_)
      exact trivial
    · conv => whnf
      refine Need.mk (OLe.refl _) ?_
      conv => whnf
      refine Need.mk (OLe.refl _) ?_
      conv => whnf
      refine Need.mk (OLe.nil _ _ _ _) ?_
      exact trivial
    · rintro ⟨n12, ⟨i8, s9, l30⟩, hd49⟩ hl2
      obtain ⟨n12, rfl, hl2⟩ := loopN_some hl2
      replace hl2 : ref01Play_b1 N l1 sheet1 (loopN (fun rr x => ref01Play_b1 N l1 sheet1 rr x.1 x.2.1 x.2.2) n12) i8 s9 l30 = some (s5, l18) := hl2
      rw [ref01Play_b1] at hl2
      obtain ⟨v12, hx131, hl2⟩ := obind hl2
      conv => whnf
      refine SeqG.mk Unit (fun y => [(1, .d (.list 1 (List.map I sheet1))), (2, .d (.ref (.agg [I l1.fFrames, I l1.fPins, I l1.fBalls, I l1.fTap]))), (4, .ptr 4 b2 0), (6, .ptr 6 b4 0), (7, .sl 44 hd49), (8, .d (I i8)), (25, .d (.bool v12))]) (fun y => [(4, .cells b2 [.d (I 0), .d (I 0), .d (I 0), .d (.bool false), .d (I 0)]), (6, .cells b4 [.d (I s9.fFrame), .d (I s9.fThrown), .d (I s9.fStanding), .d (.bool s9.fSet), .d (I s9.fHas)]), (44, .arr hd49 84 2 false (List.map Ref01Ball.enc l30))]) (fun _ => True) ?_ ?_
      · conv => whnf
        refine DrawG.mk (.take 0 (.take 1 (.take 2 (.take 3 (.take 4 (.spl 17 (.take 5 (.take 6 (.take 7 (.take 8 (.take 9 (.take 10 (.alt 11 [9, 8, 7, 3, 2, 1, 0] (.take 12 .done) .nil))))))))))))) (by kernel_rfl) ?_
        conv => whnf
        refine Ln.mk _ (List.length_map _) ?_
        conv => whnf
        refine Br.mk (fun hc35 => ?_) (fun hc35 => ?_)
        · replace hx131 := ite_t hc35 hx131
          obtain ⟨x44, hx132, hx131⟩ := obind hx131
          obtain ⟨r26, hx133, hx131⟩ := obind hx131
          conv => whnf
          refine Side.mk rfl ?_
          conv => whnf
          refine Side.mk rfl ⟨_, idx_0 hx132, idx_map _ hx132, ?_⟩
          conv => whnf
          refine Both.mk ?_ trivial
          conv => whnf
          refine CallG.pure _ (ref01FitsC hN hx133) ?_
          conv => whnf
          refine Side.mk rfl ⟨_, idx_0 hx132, idx_map _ hx132, ?_⟩
          conv => whnf
          refine Need.mk (AV.le_refl _) ?_
          conv => whnf
          refine Need.mk (AV.le_refl _) ?_
          conv => whnf
          refine Need.mk (AV.le_refl _) ?_
          conv => whnf
          refine Need.mk (AV.le_refl _) ?_
          conv => whnf
          refine Ln.mk _ (List.length_map _) ?_
          conv => whnf
          refine Need.mk (AV.le_refl _) ?_
          conv => whnf
          refine Need.mk (AV.le_refl _) ?_
          conv => whnf
          refine Need.mk (AV.le_refl _) ?_
          cases hx131
          conv => whnf
          refine ⟨(), trivial, Sub.eq rfl ?_ ?_⟩
          · repeat ((conv => whnf); refine Need.mk rfl ?_)
            exact trivial
          · conv => whnf
            refine Need.mk (OLe.refl _) ?_
            conv => whnf
            refine Need.mk (OLe.refl _) ?_
            conv => whnf
            refine Need.mk (OLe.refl _) ?_
            exact trivial
        · replace hx131 := ite_f hc35 hx131
          conv => whnf
          refine Both.mk ?_ trivial
          conv => whnf
          refine Need.mk rfl ?_
          conv => whnf
          refine Need.mk rfl ?_
          conv => whnf
          refine Need.mk rfl ?_
          conv => whnf
          refine Need.mk (AV.le_refl _) ?_
          conv => whnf
          refine Ln.mk _ (List.length_map _) ?_
          conv => whnf
          refine Need.mk (AV.le_refl _) ?_
          conv => whnf
          refine Need.mk (AV.le_refl _) ?_
          conv => whnf
          refine Need.mk (AV.le_refl _) ?_
          cases hx131
          conv => whnf
          refine ⟨(), trivial, Sub.eq rfl ?_ ?_⟩
          · repeat ((conv => whnf); refine Need.mk rfl ?_)
            exact trivial
          · conv => whnf
            refine Need.mk (OLe.refl _) ?_
            conv => whnf
            refine Need.mk (OLe.refl _) ?_
            conv => whnf
            refine Need.mk (OLe.refl _) ?_
            exact trivial
      · rintro _ _
        conv => whnf
        refine Br.mk (fun hc36 => ?_) (fun hc36 => ?_)
        · replace hl2 := ite_t hc36 hl2
          obtain ⟨⟨n14, next12⟩, hx143, hl2⟩ := obind hl2
          conv => whnf
          refine SeqG.mk Nat (fun y => [(1, .d (.list 1 (List.map I sheet1))), (2, .d (.ref (.agg [I l1.fFrames, I l1.fPins, I l1.fBalls, I l1.fTap]))), (4, .ptr 4 b2 0), (6, .ptr 6 b4 0), (7, .sl 44 hd49), (8, .d (I i8)), (9, .ptr 9 y 0), (10, .d (I n14))]) (fun y => [(4, .cells b2 [.d (I 0), .d (I 0), .d (I 0), .d (.bool false), .d (I 0)]), (6, .cells b4 [.d (I s9.fFrame), .d (I s9.fThrown), .d (I s9.fStanding), .d (.bool s9.fSet), .d (I s9.fHas)]), (44, .arr hd49 84 2 false (List.map Ref01Ball.enc l30)), (9, .cells y [.d (I next12.fFrame), .d (I next12.fThrown), .d (I next12.fStanding), .d (.bool next12.fSet), .d (I next12.fHas)])]) (fun _ => True) ?_ ?_
          · obtain ⟨x48, hx144, hx143⟩ := obind hx143
            obtain ⟨⟨ra24, rb24⟩, hx145, hx143⟩ := obind hx143
            conv => whnf
            refine DrawG.mk (.take 0 (.take 1 (.take 2 (.take 3 (.take 4 (.take 5 (.alt 6 [4, 3, 2] (.take 7 (.take 8 (.take 9 (.alt 10 [9, 8, 7, 4, 3, 2] (.alt 11 [9] (.take 12 .done) .nil) .nil)))) (.alt 10 [5, 4, 3, 2, 1, 0] (.alt 6 [4, 3, 2] (.take 7 (.take 8 (.take 9 (.alt 11 [9] (.take 12 .done) .nil)))) .nil) .nil)))))))) (by kernel_rfl) ?_
            conv => whnf
            refine Side.mk rfl ?_
            conv => whnf
            refine Side.mk rfl ⟨_, idx_0 hx144, idx_map _ hx144, ?_⟩
            conv => whnf
            refine Both.mk ?_ ?_
            · conv => whnf
              refine CallG.pure _ (ref01ThrowC hN hx145) ?_
              conv => whnf
              refine Side.mk rfl ⟨_, idx_0 hx144, idx_map _ hx144, ?_⟩
              conv => whnf
              refine Need.mk (AV.le_refl _) ?_
              conv => whnf
              refine Need.mk (AV.le_refl _) ?_
              conv => whnf
              refine Need.mk (AV.le_refl _) ?_
              conv => whnf
              refine Both.mk ?_ trivial
              conv => whnf
              intro b75
              conv => whnf
              refine Need.mk (AV.le_refl _) ?_
              conv => whnf
              refine Need.mk (AV.le_refl _) ?_
              conv => whnf
              refine Need.mk (AV.le_refl _) ?_
              conv => whnf
              refine Side.mk rfl ⟨_, idx_0 hx144, idx_map _ hx144, ?_⟩
              conv => whnf
              refine Need.mk (AV.le_refl _) ?_
              conv => whnf
              refine Need.mk (AV.le_refl _) ?_
              conv => whnf
              refine Need.mk (AV.le_refl _) ?_
              conv => whnf
              refine Both.mk ?_ trivial
              conv => whnf
              refine Side.mk rfl ?_
              conv => whnf
              refine Need.mk (AV.le_refl _) ?_
              cases hx143
              conv => whnf
              refine ⟨b75, trivial, Sub.eq rfl ?_ ?_⟩
              · repeat ((conv => whnf); refine Need.mk rfl ?_)
                exact trivial
              · conv => whnf
                refine Need.mk (OLe.refl _) ?_
                conv => whnf
                refine Need.mk (OLe.refl _) ?_
                conv => whnf
                refine Need.mk (OLe.refl _) ?_
                conv => whnf
                refine Need.mk (OLe.refl _) ?_
                exact trivial
            · conv => whnf
              refine Both.mk ?_ trivial
              conv => whnf
              intro b76
              conv => whnf
              refine Need.mk (AV.le_refl _) ?_
              conv => whnf
              refine Side.mk rfl ⟨_, idx_0 hx144, idx_map _ hx144, ?_⟩
              conv => whnf
              refine Need.mk (AV.le_refl _) ?_
              conv => whnf
              refine Need.mk (AV.le_refl _) ?_
              conv => whnf
              refine Need.mk (AV.le_refl _) ?_
              conv => whnf
              refine Side.mk rfl ?_
              conv => whnf
              refine Need.mk (AV.le_refl _) ?_
              conv => whnf
              refine Need.mk (AV.le_refl _) ?_
              conv => whnf
              refine Both.mk ?_ trivial
              conv => whnf
              refine CallG.pure _ (ref01ThrowC hN hx145) ?_
              conv => whnf
              refine Side.mk rfl ⟨_, idx_0 hx144, idx_map _ hx144, ?_⟩
              conv => whnf
              refine Need.mk (AV.le_refl _) ?_
              conv => whnf
              refine Need.mk (AV.le_refl _) ?_
              conv => whnf
              refine Need.mk (AV.le_refl _) ?_
              conv => whnf
              refine Both.mk ?_ trivial
              conv => whnf
              refine Side.mk rfl ?_
              conv => whnf
              refine Need.mk (AV.le_refl _) ?_
              cases hx143
              conv => whnf
              refine ⟨b76, trivial, Sub.eq rfl ?_ ?_⟩
              · repeat ((conv => whnf); refine Need.mk rfl ?_)
                exact trivial
              · conv => whnf
                refine Need.mk (OLe.refl _) ?_
                conv => whnf
                refine Need.mk (OLe.refl _) ?_
                conv => whnf
                refine Need.mk (OLe.refl _) ?_
                conv => whnf
                refine Need.mk (OLe.refl _) ?_
                exact trivial
          · rintro bb12 _
            conv => whnf
            refine Side.mk rfl ?_
            conv => whnf
            intro hd56
            obtain ⟨l34, hx147, hl2⟩ := obind hl2
            conv => whnf
            refine Side.mk ⟨rfl, rfl⟩ ?_
            conv => whnf
            refine Side.mk ⟨rfl, rfl, rfl⟩ (Need.mk (app_need hN hx147 (by decide)) (Eqv.mk (List.map Ref01Ball.enc l34) (app_map _ hx147) ?_))
            conv => whnf
            intro hd57
            conv => whnf
            refine Side.mk rfl ?_
            conv => whnf
            refine Side.mk rfl ?_
            conv => whnf
            refine ⟨(n12, (w64 (i8 + 1), next12, l34), hd57), hl2, Sub.eq rfl ?_ ?_, Nat.lt_succ_self _⟩
            · repeat ((conv => whnf); refine Need.mk rfl ?_)
              exact trivial
            · conv => whnf
              refine Need.mk (OLe.refl _) ?_
              conv => whnf
              refine Need.mk (OLe.refl _) ?_
              conv => whnf
              refine Need.mk (OLe.refl _) ?_
              exact trivial
        · replace hl2 := ite_f hc36 hl2
          cases hl2
          conv => whnf
          refine ⟨hd49, trivial, Sub.eq rfl ?_ ?_⟩
          · repeat ((conv => whnf); refine Need.mk rfl ?_)
            exact trivial
          · conv => whnf
            refine Need.mk (OLe.refl _) ?_
            conv => whnf
            refine Need.mk (OLe.refl _) ?_
            conv => whnf
            refine Need.mk (OLe.refl _) ?_
            exact trivial
  · rintro hd29 _
    conv => whnf
    refine Side.mk rfl ?_
    conv => whnf
    refine Side.mk rfl ?_
    conv => whnf
    refine Side.mk rfl ?_
    conv => whnf
    refine Side.mk rfl ?_
    conv => whnf
    cases h
    exact rfl

theorem ref01IsC {N : Nat} (hN : N ≤ 1073741824) {l1 : Ref01Law} {sheet1 : List Int} {r : Bool} (h : ref01Is N l1 sheet1 = some r) :
    ACalls Try.prog 37 [.d (.agg [I l1.fFrames, I l1.fPins, I l1.fBalls, I l1.fTap]), .d (.list 1 (List.map I sheet1))] [] fun e os => e = .ret (.d (.bool r)) ∧ os = [] := by
  refine acalls_f (fresh := false) tt_ok dr_ok ⟨[2], [], [], [], [], 0⟩ Try.func37 rfl Try.call37 rfl ?_
  unfold ref01Is at h
  obtain ⟨⟨ra2, rb2⟩, hx2, h⟩ := obind h
  conv => whnf
  refine CallG.pure _ (ref01PlayC hN hx2) ?_
  conv => whnf
  intro b2
  conv => whnf
  refine Side.mk rfl ?_
  conv => whnf
  refine Ln.mk _ (List.length_map _) ?_
  conv => whnf
  refine Ln.mk _ (List.length_map _) ?_
  conv => whnf
  cases h
  exact rfl

theorem law01FaultC {N : Nat} (hN : N ≤ 1073741824) {l1 : Ref01Law} {sheet1 : List Int} {r : Int} (h : law01Fault N l1 sheet1 = some r) :
    ACalls Try.prog 23 [.d (.agg [I l1.fFrames, I l1.fPins, I l1.fBalls, I l1.fTap]), .d (.list 1 (List.map I sheet1))] [] fun e os => e = .ret (.d (I r)) ∧ os = [] := by
  refine acalls_f (fresh := false) tt_ok dr_ok ⟨[2], [], [], [], [], 0⟩ Try.func23 rfl Try.call23 rfl ?_
  unfold law01Fault at h
  obtain ⟨r6, hx6, h⟩ := obind h
  conv => whnf
  refine CallG.pure _ (ref01IsLawC hN hx6) ?_
  conv => whnf
  refine Br.mk (fun hc4 => ?_) (fun hc4 => ?_)
  · replace h := ite_t hc4 h
    conv => whnf
    cases h
    exact rfl
  · replace h := ite_f hc4 h
    conv => whnf
    refine Ln.mk _ (List.length_map _) ?_
    conv => whnf
    refine Br.mk (fun hc5 => ?_) (fun hc5 => ?_)
    · replace h := ite_t hc5 h
      conv => whnf
      cases h
      exact rfl
    · replace h := ite_f hc5 h
      obtain ⟨r8, hx8, h⟩ := obind h
      conv => whnf
      refine CallG.pure _ (ref01IsC hN hx8) ?_
      conv => whnf
      refine Br.mk (fun hc6 => ?_) (fun hc6 => ?_)
      · replace h := ite_t hc6 h
        conv => whnf
        cases h
        exact rfl
      · replace h := ite_f hc6 h
        conv => whnf
        cases h
        exact rfl

theorem law01SameC {N : Nat} (hN : N ≤ 1073741824) {a1 : FrameGame} {b1 : Ref01Game} {r : Bool} (h : law01Same N a1 b1 = some r) :
    ACalls Try.prog 26 [.d (.agg [.list 1 (List.map (fun x => .list 1 (List.map I x)) a1.fFrames), .list 1 (List.map I a1.fCounts), I a1.fStanding, .bool a1.fDone]), .d (.agg [.list 1 (List.map (fun x => .list 1 (List.map I x)) b1.fFrames), .list 1 (List.map I b1.fCounts), I b1.fStanding, .bool b1.fDone])] [] fun e os => e = .ret (.d (.bool r)) ∧ os = [] := by
  refine acalls_f (fresh := false) tt_ok dr_ok ⟨[2, 3], [], [], [], [1, 1003], 0⟩ Try.func26 rfl Try.call26 rfl ?_
  unfold law01Same at h
  obtain ⟨v2, hx5, h⟩ := obind h
  conv => whnf
  refine SeqG.mk Unit (fun y => [(2, .d (.ref (.agg [.list 1 (List.map (fun x => .list 1 (List.map I x)) a1.fFrames), .list 1 (List.map I a1.fCounts), I a1.fStanding, .bool a1.fDone]))), (3, .d (.ref (.agg [.list 1 (List.map (fun x => .list 1 (List.map I x)) b1.fFrames), .list 1 (List.map I b1.fCounts), I b1.fStanding, .bool b1.fDone]))), (34, .d (.bool v2))]) (fun y => []) (fun _ => True) ?_ ?_
  · conv => whnf
    refine Ln.mk _ (List.length_map _) ?_
    conv => whnf
    refine Ln.mk _ (List.length_map _) ?_
    conv => whnf
    refine Br.mk (fun hc11 => ?_) (fun hc11 => ?_)
    · replace hx5 := ite_f hc11 hx5
      obtain ⟨r4, hx6, hx5⟩ := obind hx5
      conv => whnf
      refine CallG.pure _ (law01IntsC hN hx6) ?_
      conv => whnf
      refine Br.mk (fun hc12 => ?_) (fun hc12 => ?_)
      · replace hx5 := ite_f hc12 hx5
        conv => whnf
        refine Br.mk (fun hc13 => ?_) (fun hc13 => ?_)
        · replace hx5 := ite_f hc13 hx5
          cases hx5
          conv => whnf
          refine ⟨(), trivial, Sub.eq rfl ?_ ?_⟩
          · repeat ((conv => whnf); refine Need.mk rfl ?_)
            exact trivial
          · exact trivial
        · replace hx5 := ite_t hc13 hx5
          cases hx5
          conv => whnf
          refine ⟨(), trivial, Sub.eq rfl ?_ ?_⟩
          · repeat ((conv => whnf); refine Need.mk rfl ?_)
            exact trivial
          · exact trivial
      · replace hx5 := ite_t hc12 hx5
        cases hx5
        conv => whnf
        refine ⟨(), trivial, Sub.eq rfl ?_ ?_⟩
        · repeat ((conv => whnf); refine Need.mk rfl ?_)
          exact trivial
        · exact trivial
    · replace hx5 := ite_t hc11 hx5
      cases hx5
      conv => whnf
      refine ⟨(), trivial, Sub.eq rfl ?_ ?_⟩
      · repeat ((conv => whnf); refine Need.mk rfl ?_)
        exact trivial
      · exact trivial
  · rintro _ _
    conv => whnf
    refine Br.mk (fun hc14 => ?_) (fun hc14 => ?_)
    · replace h := ite_t hc14 h
      conv => whnf
      cases h
      exact rfl
    · replace h := ite_f hc14 h
      conv => whnf
      refine SeqG.mk Unit (fun y => []) (fun y => []) (fun y => law01Same_k1 N = some r) ?_ ?_
      · conv => whnf
        refine LoopG.mk (Nat × Int) (fun y => [(2, .d (.ref (.agg [.list 1 (List.map (fun x => .list 1 (List.map I x)) a1.fFrames), .list 1 (List.map I a1.fCounts), I a1.fStanding, .bool a1.fDone]))), (3, .d (.ref (.agg [.list 1 (List.map (fun x => .list 1 (List.map I x)) b1.fFrames), .list 1 (List.map I b1.fCounts), I b1.fStanding, .bool b1.fDone]))), (5, .d (I y.2))]) (fun y => []) (fun y => loopN (fun rr x => law01Same_b2 N a1 b1 rr x) y.1 y.2 = some r) (fun y => y.1) (N, 0) h (Sub.eq rfl ?_ ?_) ?_
        · repeat ((conv => whnf); refine Need.mk rfl ?_)
          exact trivial
        · exact trivial
        · rintro ⟨n2, i8⟩ hl2
          obtain ⟨n2, rfl, hl2⟩ := loopN_some hl2
          replace hl2 : law01Same_b2 N a1 b1 (loopN (fun rr x => law01Same_b2 N a1 b1 rr x) n2) i8 = some r := hl2
          rw [law01Same_b2] at hl2
          conv => whnf
          refine Ln.mk _ (List.length_map _) ?_
          conv => whnf
          refine Br.mk (fun hc36 => ?_) (fun hc36 => ?_)
          · replace hl2 := ite_t hc36 hl2
            obtain ⟨x47, hx76, hl2⟩ := obind hl2
            obtain ⟨x48, hx77, hl2⟩ := obind hl2
            obtain ⟨r28, hx78, hl2⟩ := obind hl2
            conv => whnf
            refine DrawG.mk (.take 0 (.take 1 (.take 2 (.take 3 (.take 4 (.take 5 (.take 6 (.take 7 (.take 8 (.take 9 (.alt 10 [8, 7, 6, 5, 3, 2, 1, 0] (.take 11 .done) .nil))))))))))) (by kernel_rfl) ?_
            conv => whnf
            refine Side.mk rfl ⟨_, idx_0 hx76, idx_map _ hx76, ?_⟩
            conv => whnf
            refine Side.mk rfl ⟨_, idx_0 hx77, idx_map _ hx77, ?_⟩
            conv => whnf
            refine Both.mk ?_ trivial
            conv => whnf
            refine CallG.pure _ (law01IntsC hN hx78) ?_
            conv => whnf
            refine Side.mk rfl ⟨_, idx_0 hx77, idx_map _ hx77, ?_⟩
            conv => whnf
            refine Need.mk (AV.le_refl _) ?_
            conv => whnf
            refine Need.mk (AV.le_refl _) ?_
            conv => whnf
            refine Need.mk (AV.le_refl _) ?_
            conv => whnf
            refine Need.mk (AV.le_refl _) ?_
            conv => whnf
            refine Side.mk rfl ⟨_, idx_0 hx76, idx_map _ hx76, ?_⟩
            conv => whnf
            refine Need.mk (AV.le_refl _) ?_
            conv => whnf
            refine Need.mk (AV.le_refl _) ?_
            conv => whnf
            refine Need.mk (AV.le_refl _) ?_
            conv => whnf
            refine Need.mk (AV.le_refl _) ?_
            conv => whnf
            refine Br.mk (fun hc38 => ?_) (fun hc38 => ?_)
            · replace hl2 := ite_t hc38 hl2
              conv => whnf
              cases hl2
              exact rfl
            · replace hl2 := ite_f hc38 hl2
              conv => whnf
              refine ⟨(n2, w64 (i8 + 1)), hl2, Sub.eq rfl ?_ ?_, Nat.lt_succ_self _⟩
              · repeat ((conv => whnf); refine Need.mk rfl ?_)
                exact trivial
              · exact trivial
          · replace hl2 := ite_f hc36 hl2
            conv => whnf
            refine ⟨(), hl2, Sub.eq rfl ?_ ?_⟩
            · repeat ((conv => whnf); refine Need.mk rfl ?_)
              exact trivial
            · exact trivial
      · clear h
        rintro _ h
        unfold law01Same_k1 at h
        conv => whnf
        cases h
        exact rfl

theorem ref01CountsC {N : Nat} (hN : N ≤ 1073741824) {a1 : Ref01Law} {a2 : List Int} {r : (List Int)} (h : ref01Counts N a1 a2 = some r) :
    ACalls Try.prog 52 [.d (.agg [I a1.fFrames, I a1.fPins, I a1.fBalls, I a1.fTap]), .d (.list 1 (List.map I a2))] [] fun e os => e = .ret (.d (.list 1 (List.map I r))) ∧ os = [] := by
  refine acalls_f (fresh := false) tt_ok dr_ok ⟨[2], [], [], [], [14, 16, 1004, 1007, 1008, 1011, 1014, 1016, 1020], 0⟩ Try.func52 rfl Try.call52 rfl ?_
  unfold ref01Counts at h
  obtain ⟨⟨ra2, rb2⟩, hx2, h⟩ := obind h
  conv => whnf
  refine CallG.pure _ (ref01PlayC hN hx2) ?_
  conv => whnf
  intro b2
  conv => whnf
  refine Side.mk rfl ?_
  conv => whnf
  refine SeqG.mk ((List Int) × Value) (fun y => [(7, .sl 110 y.2)]) (fun y => [(110, .arr y.2 3 1 false (List.map I y.1))]) (fun y => ref01Counts_k1 N y.1 = some r) ?_ ?_
  · conv => whnf
    refine LoopG.mk (Nat × (Int × Int × (List Int)) × Value) (fun y => [(2, .d (.ref (.agg [I a1.fFrames, I a1.fPins, I a1.fBalls, I a1.fTap]))), (5, .ptr 5 b2 0), (6, .d (.list 2 (List.map Ref01Ball.enc rb2))), (7, .sl 110 y.2.2), (8, .d (I y.2.1.1)), (9, .d (I y.2.1.2.1))]) (fun y => [(5, .cells b2 [.d (I ra2.fFrame), .d (I ra2.fThrown), .d (I ra2.fStanding), .d (.bool ra2.fSet), .d (I ra2.fHas)]), (110, .arr y.2.2 3 1 false (List.map I y.2.1.2.2))]) (fun y => loopN (fun rr x => ref01Counts_b5 N a1 ra2 rb2 rr x.1 x.2.1 x.2.2) y.1 y.2.1 = some r) (fun y => y.1) (N, (0, 0, []), (.slice none 0 0)) h (Sub.eq rfl ?_ ?_) ?_
    · repeat ((conv => whnf); refine Need.mk rfl ?_)
      exact trivial
    · conv => whnf
      refine Need.mk (OLe.refl _) ?_
      conv => whnf
      refine Need.mk (OLe.nil _ _ _ _) ?_
      exact trivial
    · rintro ⟨n42, ⟨v960, v961, l24⟩, hd34⟩ hl42
      obtain ⟨n42, rfl, hl42⟩ := loopN_some hl42
      replace hl42 : ref01Counts_b5 N a1 ra2 rb2 (loopN (fun rr x => ref01Counts_b5 N a1 ra2 rb2 rr x.1 x.2.1 x.2.2) n42) v960 v961 l24 = some r := hl42
      rw [ref01Counts_b5] at hl42
      conv => whnf
      refine Side.mk rfl ?_
      conv => whnf
      refine Br.mk (fun hc672 => ?_) (fun hc672 => ?_)
      · replace hl42 := ite_t hc672 hl42
        conv => whnf
        refine SeqG.mk (Int × (List Int) × Value) (fun y => [(2, .d (.ref (.agg [I a1.fFrames, I a1.fPins, I a1.fBalls, I a1.fTap]))), (5, .ptr 5 b2 0), (6, .d (.list 2 (List.map Ref01Ball.enc rb2))), (7, .sl 110 y.2.2), (8, .d (I y.1)), (9, .d (I v961))]) (fun y => [(5, .cells b2 [.d (I ra2.fFrame), .d (I ra2.fThrown), .d (I ra2.fStanding), .d (.bool ra2.fSet), .d (I ra2.fHas)]), (110, .arr y.2.2 3 1 false (List.map I y.2.1))]) (fun y => ref01Counts_k2 N v961 (loopN (fun rr x => ref01Counts_b5 N a1 ra2 rb2 rr x.1 x.2.1 x.2.2) n42) y.1 y.2.1 = some r) ?_ ?_
        · obtain ⟨⟨v1090, v1091, v1092⟩, hx694, hl42⟩ := obind hl42
          conv => whnf
          refine SeqG.mk Unit (fun y => [(2, .d (.ref (.agg [I a1.fFrames, I a1.fPins, I a1.fBalls, I a1.fTap]))), (5, .ptr 5 b2 0), (6, .d (.list 2 (List.map Ref01Ball.enc rb2))), (7, .sl 110 hd34), (8, .d (I v960)), (9, .d (I v961)), (10, .d (I v1090)), (11, .d (I v1091)), (12, .d (I v1092))]) (fun y => [(5, .cells b2 [.d (I ra2.fFrame), .d (I ra2.fThrown), .d (I ra2.fStanding), .d (.bool ra2.fSet), .d (I ra2.fHas)]), (110, .arr hd34 3 1 false (List.map I l24))]) (fun _ => True) ?_ ?_
          · conv => whnf
            refine LoopG.mk (Nat × (Int × Int × Int × Int)) (fun y => [(2, .d (.ref (.agg [I a1.fFrames, I a1.fPins, I a1.fBalls, I a1.fTap]))), (5, .ptr 5 b2 0), (6, .d (.list 2 (List.map Ref01Ball.enc rb2))), (7, .sl 110 hd34), (8, .d (I v960)), (9, .d (I v961)), (10, .d (I y.2.1)), (11, .d (I y.2.2.1)), (12, .d (I y.2.2.2.1)), (13, .d (I y.2.2.2.2))]) (fun y => [(5, .cells b2 [.d (I ra2.fFrame), .d (I ra2.fThrown), .d (I ra2.fStanding), .d (.bool ra2.fSet), .d (I ra2.fHas)]), (110, .arr hd34 3 1 false (List.map I l24))]) (fun y => loopN (fun rr x => ref01Counts_b3 N rb2 v961 rr x.1 x.2.1 x.2.2.1 x.2.2.2) y.1 y.2 = some (v1090, v1091, v1092)) (fun y => y.1) (N, (0, 0, 0, 0)) hx694 (Sub.eq rfl ?_ ?_) ?_
            · repeat ((conv => whnf); refine Need.mk rfl ?_)
              exact trivial
            · conv => whnf
              refine Need.mk (OLe.refl _) ?_
              conv => whnf
              refine Need.mk (OLe.refl _) ?_
              exact trivial
            · rintro ⟨n48, ⟨v1119, v1120, v1121, v1122⟩⟩ hl48
              obtain ⟨n48, rfl, hl48⟩ := loopN_some hl48
              replace hl48 : ref01Counts_b3 N rb2 v961 (loopN (fun rr x => ref01Counts_b3 N rb2 v961 rr x.1 x.2.1 x.2.2.1 x.2.2.2) n48) v1119 v1120 v1121 v1122 = some (v1090, v1091, v1092) := hl48
              rw [ref01Counts_b3] at hl48
              conv => whnf
              refine Ln.mk _ (List.length_map _) ?_
              conv => whnf
              refine Br.mk (fun hc768 => ?_) (fun hc768 => ?_)
              · replace hl48 := ite_t hc768 hl48
                obtain ⟨⟨v1123, v1124, v1125⟩, hx712, hl48⟩ := obind hl48
                conv => whnf
                refine SeqG.mk Unit (fun y => [(2, .d (.ref (.agg [I a1.fFrames, I a1.fPins, I a1.fBalls, I a1.fTap]))), (5, .ptr 5 b2 0), (6, .d (.list 2 (List.map Ref01Ball.enc rb2))), (7, .sl 110 hd34), (8, .d (I v960)), (9, .d (I v961)), (10, .d (I v1123)), (11, .d (I v1124)), (12, .d (I v1125)), (13, .d (I v1122))]) (fun y => [(5, .cells b2 [.d (I ra2.fFrame), .d (I ra2.fThrown), .d (I ra2.fStanding), .d (.bool ra2.fSet), .d (I ra2.fHas)]), (110, .arr hd34 3 1 false (List.map I l24))]) (fun _ => True) ?_ ?_
                · obtain ⟨x516, hx714, hx712⟩ := obind hx712
                  conv => whnf
                  refine Side.mk rfl ⟨_, idx_0 hx714, idx_map _ hx714, ?_⟩
                  conv => whnf
                  refine Br.mk (fun hc770 => ?_) (fun hc770 => ?_)
                  · replace hx712 := ite_t hc770 hx712
                    conv => whnf
                    refine Side.mk rfl ⟨_, idx_0 hx714, idx_map _ hx714, ?_⟩
                    cases hx712
                    conv => whnf
                    refine ⟨(), trivial, Sub.eq rfl ?_ ?_⟩
                    · repeat ((conv => whnf); refine Need.mk rfl ?_)
                      exact trivial
                    · conv => whnf
                      refine Need.mk (OLe.refl _) ?_
                      conv => whnf
                      refine Need.mk (OLe.refl _) ?_
                      exact trivial
                  · replace hx712 := ite_f hc770 hx712
                    cases hx712
                    conv => whnf
                    refine ⟨(), trivial, Sub.eq rfl ?_ ?_⟩
                    · repeat ((conv => whnf); refine Need.mk rfl ?_)
                      exact trivial
                    · conv => whnf
                      refine Need.mk (OLe.refl _) ?_
                      conv => whnf
                      refine Need.mk (OLe.refl _) ?_
                      exact trivial
                · rintro _ _
                  conv => whnf
                  refine ⟨(n48, (v1123, v1124, v1125, w64 (v1122 + 1))), hl48, Sub.eq rfl ?_ ?_, Nat.lt_succ_self _⟩
                  · repeat ((conv => whnf); refine Need.mk rfl ?_)
                    exact trivial
                  · conv => whnf
                    refine Need.mk (OLe.refl _) ?_
                    conv => whnf
                    refine Need.mk (OLe.refl _) ?_
                    exact trivial
              · replace hl48 := ite_f hc768 hl48
                cases hl48
                conv => whnf
                refine ⟨(), trivial, Sub.eq rfl ?_ ?_⟩
                · repeat ((conv => whnf); refine Need.mk rfl ?_)
                  exact trivial
                · conv => whnf
                  refine Need.mk (OLe.refl _) ?_
                  conv => whnf
                  refine Need.mk (OLe.refl _) ?_
                  exact trivial
          · rintro _ _
            obtain ⟨v1127, hx716, hl42⟩ := obind hl42
            conv => whnf
            refine SeqG.mk Unit (fun y => [(2, .d (.ref (.agg [I a1.fFrames, I a1.fPins, I a1.fBalls, I a1.fTap]))), (5, .ptr 5 b2 0), (6, .d (.list 2 (List.map Ref01Ball.enc rb2))), (7, .sl 110 hd34), (8, .d (I v960)), (9, .d (I v961)), (10, .d (I v1090)), (11, .d (I v1091)), (12, .d (I v1092)), (14, .d (I v1127))]) (fun y => [(5, .cells b2 [.d (I ra2.fFrame), .d (I ra2.fThrown), .d (I ra2.fStanding), .d (.bool ra2.fSet), .d (I ra2.fHas)]), (110, .arr hd34 3 1 false (List.map I l24))]) (fun _ => True) ?_ ?_
            · obtain ⟨v1128, hx717, hx716⟩ := obind hx716
              conv => whnf
              refine SeqG.mk Unit (fun y => [(2, .d (.ref (.agg [I a1.fFrames, I a1.fPins, I a1.fBalls, I a1.fTap]))), (5, .ptr 5 b2 0), (6, .d (.list 2 (List.map Ref01Ball.enc rb2))), (7, .sl 110 hd34), (8, .d (I v960)), (9, .d (I v961)), (10, .d (I v1090)), (11, .d (I v1091)), (12, .d (I v1092)), (14, .i .i64 0), (65, .d (.bool v1128))]) (fun y => [(5, .cells b2 [.d (I ra2.fFrame), .d (I ra2.fThrown), .d (I ra2.fStanding), .d (.bool ra2.fSet), .d (I ra2.fHas)]), (110, .arr hd34 3 1 false (List.map I l24))]) (fun _ => True) ?_ ?_
              · conv => whnf
                refine Br.mk (fun hc778 => ?_) (fun hc778 => ?_)
                · replace hx717 := ite_t hc778 hx717
                  conv => whnf
                  refine Br.mk (fun hc779 => ?_) (fun hc779 => ?_)
                  · replace hx717 := ite_t hc779 hx717
                    cases hx717
                    conv => whnf
                    refine ⟨(), trivial, Sub.eq rfl ?_ ?_⟩
                    · repeat ((conv => whnf); refine Need.mk rfl ?_)
                      exact trivial
                    · conv => whnf
                      refine Need.mk (OLe.refl _) ?_
                      conv => whnf
                      refine Need.mk (OLe.refl _) ?_
                      exact trivial
                  · replace hx717 := ite_f hc779 hx717
                    cases hx717
                    conv => whnf
                    refine ⟨(), trivial, Sub.eq rfl ?_ ?_⟩
                    · repeat ((conv => whnf); refine Need.mk rfl ?_)
                      exact trivial
                    · conv => whnf
                      refine Need.mk (OLe.refl _) ?_
                      conv => whnf
                      refine Need.mk (OLe.refl _) ?_
                      exact trivial
                · replace hx717 := ite_f hc778 hx717
                  cases hx717
                  conv => whnf
                  refine ⟨(), trivial, Sub.eq rfl ?_ ?_⟩
                  · repeat ((conv => whnf); refine Need.mk rfl ?_)
                    exact trivial
                  · conv => whnf
                    refine Need.mk (OLe.refl _) ?_
                    conv => whnf
                    refine Need.mk (OLe.refl _) ?_
                    exact trivial
              · rintro _ _
                conv => whnf
                refine Br.mk (fun hc780 => ?_) (fun hc780 => ?_)
                · replace hx716 := ite_t hc780 hx716
                  cases hx716
                  conv => whnf
                  refine ⟨(), trivial, Sub.eq rfl ?_ ?_⟩
                  · repeat ((conv => whnf); refine Need.mk rfl ?_)
                    exact trivial
                  · conv => whnf
                    refine Need.mk (OLe.refl _) ?_
                    conv => whnf
                    refine Need.mk (OLe.refl _) ?_
                    exact trivial
                · replace hx716 := ite_f hc780 hx716
                  cases hx716
                  conv => whnf
                  refine ⟨(), trivial, Sub.eq rfl ?_ ?_⟩
                  · repeat ((conv => whnf); refine Need.mk rfl ?_)
                    exact trivial
                  · conv => whnf
                    refine Need.mk (OLe.refl _) ?_
                    conv => whnf
                    refine Need.mk (OLe.refl _) ?_
                    exact trivial
            · rintro _ _
              obtain ⟨v1130, hx719, hl42⟩ := obind hl42
              conv => whnf
              refine SeqG.mk Unit (fun y => [(2, .d (.ref (.agg [I a1.fFrames, I a1.fPins, I a1.fBalls, I a1.fTap]))), (5, .ptr 5 b2 0), (6, .d (.list 2 (List.map Ref01Ball.enc rb2))), (7, .sl 110 hd34), (8, .d (I v960)), (9, .d (I v961)), (10, .d (I v1090)), (12, .d (I v1092)), (14, .d (I v1130))]) (fun y => [(5, .cells b2 [.d (I ra2.fFrame), .d (I ra2.fThrown), .d (I ra2.fStanding), .d (.bool ra2.fSet), .d (I ra2.fHas)]), (110, .arr hd34 3 1 false (List.map I l24))]) (fun _ => True) ?_ ?_
              · obtain ⟨v1131, hx720, hx719⟩ := obind hx719
                conv => whnf
                refine SeqG.mk Unit (fun y => [(2, .d (.ref (.agg [I a1.fFrames, I a1.fPins, I a1.fBalls, I a1.fTap]))), (5, .ptr 5 b2 0), (6, .d (.list 2 (List.map Ref01Ball.enc rb2))), (7, .sl 110 hd34), (8, .d (I v960)), (9, .d (I v961)), (10, .d (I v1090)), (12, .d (I v1092)), (14, .d (I v1127)), (80, .d (.bool v1131))]) (fun y => [(5, .cells b2 [.d (I ra2.fFrame), .d (I ra2.fThrown), .d (I ra2.fStanding), .d (.bool ra2.fSet), .d (I ra2.fHas)]), (110, .arr hd34 3 1 false (List.map I l24))]) (fun _ => True) ?_ ?_
                · conv => whnf
                  refine Br.mk (fun hc788 => ?_) (fun hc788 => ?_)
                  · replace hx720 := ite_t hc788 hx720
                    conv => whnf
                    refine Br.mk (fun hc789 => ?_) (fun hc789 => ?_)
                    · replace hx720 := ite_t hc789 hx720
                      cases hx720
                      conv => whnf
                      refine ⟨(), trivial, Sub.eq rfl ?_ ?_⟩
                      · repeat ((conv => whnf); refine Need.mk rfl ?_)
                        exact trivial
                      · conv => whnf
                        refine Need.mk (OLe.refl _) ?_
                        conv => whnf
                        refine Need.mk (OLe.refl _) ?_
                        exact trivial
                    · replace hx720 := ite_f hc789 hx720
                      cases hx720
                      conv => whnf
                      refine ⟨(), trivial, Sub.eq rfl ?_ ?_⟩
                      · repeat ((conv => whnf); refine Need.mk rfl ?_)
                        exact trivial
                      · conv => whnf
                        refine Need.mk (OLe.refl _) ?_
                        conv => whnf
                        refine Need.mk (OLe.refl _) ?_
                        exact trivial
                  · replace hx720 := ite_f hc788 hx720
                    cases hx720
                    conv => whnf
                    refine ⟨(), trivial, Sub.eq rfl ?_ ?_⟩
                    · repeat ((conv => whnf); refine Need.mk rfl ?_)
                      exact trivial
                    · conv => whnf
                      refine Need.mk (OLe.refl _) ?_
                      conv => whnf
                      refine Need.mk (OLe.refl _) ?_
                      exact trivial
                · rintro _ _
                  conv => whnf
                  refine Br.mk (fun hc790 => ?_) (fun hc790 => ?_)
                  · replace hx719 := ite_t hc790 hx719
                    cases hx719
                    conv => whnf
                    refine ⟨(), trivial, Sub.eq rfl ?_ ?_⟩
                    · repeat ((conv => whnf); refine Need.mk rfl ?_)
                      exact trivial
                    · conv => whnf
                      refine Need.mk (OLe.refl _) ?_
                      conv => whnf
                      refine Need.mk (OLe.refl _) ?_
                      exact trivial
                  · replace hx719 := ite_f hc790 hx719
                    cases hx719
                    conv => whnf
                    refine ⟨(), trivial, Sub.eq rfl ?_ ?_⟩
                    · repeat ((conv => whnf); refine Need.mk rfl ?_)
                      exact trivial
                    · conv => whnf
                      refine Need.mk (OLe.refl _) ?_
                      conv => whnf
                      refine Need.mk (OLe.refl _) ?_
                      exact trivial
              · rintro _ _
                conv => whnf
                refine Ln.mk _ (List.length_map _) ?_
                conv => whnf
                refine Br.mk (fun hc792 => ?_) (fun hc792 => ?_)
                · replace hl42 := ite_t hc792 hl42
                  conv => whnf
                  refine Side.mk rfl ?_
                  conv => whnf
                  cases hl42
                  exact rfl
                · replace hl42 := ite_f hc792 hl42
                  obtain ⟨v1141, hx727, hl42⟩ := obind hl42
                  conv => whnf
                  refine SeqG.mk Unit (fun y => [(2, .d (.ref (.agg [I a1.fFrames, I a1.fPins, I a1.fBalls, I a1.fTap]))), (5, .ptr 5 b2 0), (6, .d (.list 2 (List.map Ref01Ball.enc rb2))), (7, .sl 110 hd34), (8, .d (I v960)), (9, .d (I v961)), (10, .d (I v1141))]) (fun y => [(5, .cells b2 [.d (I ra2.fFrame), .d (I ra2.fThrown), .d (I ra2.fStanding), .d (.bool ra2.fSet), .d (I ra2.fHas)]), (110, .arr hd34 3 1 false (List.map I l24))]) (fun _ => True) ?_ ?_
                  · conv => whnf
                    refine LoopG.mk (Nat × (Int × Int)) (fun y => [(2, .d (.ref (.agg [I a1.fFrames, I a1.fPins, I a1.fBalls, I a1.fTap]))), (5, .ptr 5 b2 0), (6, .d (.list 2 (List.map Ref01Ball.enc rb2))), (7, .sl 110 hd34), (8, .d (I v960)), (9, .d (I v961)), (10, .d (I y.2.1)), (12, .d (I v1092)), (14, .d (I v1130)), (15, .d (I y.2.2))]) (fun y => [(5, .cells b2 [.d (I ra2.fFrame), .d (I ra2.fThrown), .d (I ra2.fStanding), .d (.bool ra2.fSet), .d (I ra2.fHas)]), (110, .arr hd34 3 1 false (List.map I l24))]) (fun y => loopN (fun rr x => ref01Counts_b4 N rb2 v1092 v1130 rr x.1 x.2) y.1 y.2 = some v1141) (fun y => y.1) (N, (v1090, w64 (v1092 + 1))) hx727 (Sub.eq rfl ?_ ?_) ?_
                    · repeat ((conv => whnf); refine Need.mk rfl ?_)
                      exact trivial
                    · conv => whnf
                      refine Need.mk (OLe.refl _) ?_
                      conv => whnf
                      refine Need.mk (OLe.refl _) ?_
                      exact trivial
                    · rintro ⟨n50, ⟨v1149, v1150⟩⟩ hl50
                      obtain ⟨n50, rfl, hl50⟩ := loopN_some hl50
                      replace hl50 : ref01Counts_b4 N rb2 v1092 v1130 (loopN (fun rr x => ref01Counts_b4 N rb2 v1092 v1130 rr x.1 x.2) n50) v1149 v1150 = some v1141 := hl50
                      rw [ref01Counts_b4] at hl50
                      conv => whnf
                      refine Br.mk (fun hc804 => ?_) (fun hc804 => ?_)
                      · replace hl50 := ite_t hc804 hl50
                        obtain ⟨x528, hx733, hl50⟩ := obind hl50
                        conv => whnf
                        refine Side.mk rfl ⟨_, idx_0 hx733, idx_map _ hx733, ?_⟩
                        conv => whnf
                        refine ⟨(n50, (w64 (v1149 + x528.fCount), w64 (v1150 + 1))), hl50, Sub.eq rfl ?_ ?_, Nat.lt_succ_self _⟩
                        · repeat ((conv => whnf); refine Need.mk rfl ?_)
                          exact trivial
                        · conv => whnf
                          refine Need.mk (OLe.refl _) ?_
                          conv => whnf
                          refine Need.mk (OLe.refl _) ?_
                          exact trivial
                      · replace hl50 := ite_f hc804 hl50
                        cases hl50
                        conv => whnf
                        refine ⟨(), trivial, Sub.eq rfl ?_ ?_⟩
                        · repeat ((conv => whnf); refine Need.mk rfl ?_)
                          exact trivial
                        · conv => whnf
                          refine Need.mk (OLe.refl _) ?_
                          conv => whnf
                          refine Need.mk (OLe.refl _) ?_
                          exact trivial
                  · rintro _ _
                    conv => whnf
                    intro hd38
                    obtain ⟨l27, hx734, hl42⟩ := obind hl42
                    conv => whnf
                    refine Side.mk ⟨rfl, rfl⟩ ?_
                    conv => whnf
                    refine Side.mk ⟨rfl, rfl, rfl⟩ (Need.mk (app_need hN hx734 (by decide)) (Eqv.mk (List.map I l27) (app_map _ hx734) ?_))
                    conv => whnf
                    intro hd39
                    conv => whnf
                    refine ⟨(w64 (v960 + v1141), l27, hd39), hl42, Sub.eq rfl ?_ ?_⟩
                    · repeat ((conv => whnf); refine Need.mk rfl ?_)
                      exact trivial
                    · conv => whnf
                      refine Need.mk (OLe.refl _) ?_
                      conv => whnf
                      refine Need.mk (OLe.refl _) ?_
                      exact trivial
        · rintro ⟨v1056, l26, hd37⟩ h
          unfold ref01Counts_k2 at h
          conv => whnf
          refine ⟨(n42, (v1056, w64 (v961 + 1), l26), hd37), h, Sub.eq rfl ?_ ?_, Nat.lt_succ_self _⟩
          · repeat ((conv => whnf); refine Need.mk rfl ?_)
            exact trivial
          · conv => whnf
            refine Need.mk (OLe.refl _) ?_
            conv => whnf
            refine Need.mk (OLe.refl _) ?_
            exact trivial
      · replace hl42 := ite_f hc672 hl42
        conv => whnf
        refine ⟨(l24, hd34), hl42, Sub.eq rfl ?_ ?_⟩
        · repeat ((conv => whnf); refine Need.mk rfl ?_)
          exact trivial
        · conv => whnf
          refine Need.mk (OLe.refl _) ?_
          exact trivial
  · clear h
    rintro ⟨l14, hd20⟩ h
    unfold ref01Counts_k1 at h
    conv => whnf
    refine Side.mk rfl ?_
    conv => whnf
    cases h
    exact rfl
end Go.Proofs.Ythjafigloabfpaa
