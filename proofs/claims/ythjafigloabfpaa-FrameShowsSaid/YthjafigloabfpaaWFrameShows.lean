/-
  The walk of the law FrameShows.
-/
import Derived.Test.YthjafigloabfpaaDFrameShows
import Derived.Test.YthjafigloabfpaaWd
namespace Go.Proofs.Ythjafigloabfpaa
open Go Go.Abs Go.Kp
set_option maxRecDepth 100000
set_option maxHeartbeats 8000000
set_option linter.all false

theorem law01FrameShowsC {N : Nat} (hN : N ≤ 1073741824) {a1 : Ref01Law} {a2 : List Int} {a3 : Int} {r : Bool} (h : law01FrameShows N a1 a2 a3 = some r) :
    ACalls Try.prog 6 [.d (.agg [I a1.fFrames, I a1.fPins, I a1.fBalls, I a1.fTap]), .d (.list 1 (List.map I a2)), .d (I a3)] [] fun e os => e = .ret (.d (.bool r)) ∧ os = [] := by
  refine acalls_f (fresh := false) tt_ok dr_ok ⟨[3], [], [], [], [14, 20, 1005, 1011, 1015], 0⟩ Try.func6 rfl Try.call6 rfl ?_
  unfold law01FrameShows at h
  conv => whnf
  refine Ln.mk _ (List.length_map _) ?_
  conv => whnf
  refine Br.mk (fun hc2 => ?_) (fun hc2 => ?_)
  · replace h := ite_t hc2 h
    obtain ⟨r4, hx4, h⟩ := obind h
    conv => whnf
    refine CallG.pure _ (law01WakesC hN hx4) ?_
    conv => whnf
    cases h
    exact rfl
  · replace h := ite_f hc2 h
    obtain ⟨r7, hx8, h⟩ := obind h
    conv => whnf
    refine CallG.pure _ (law01LawC hN hx8) ?_
    obtain ⟨r8, hx9, h⟩ := obind h
    conv => whnf
    refine CallG.fresh 21 (law01ListC hN hx9) ?_
    intro hd2
    obtain ⟨⟨ra2, rb2⟩, hx10, h⟩ := obind h
    conv => whnf
    refine Side.mk rfl ?_
    conv => whnf
    refine CallG.pure _ (frameShowsC hN hx10) ?_
    obtain ⟨r10, hx12, h⟩ := obind h
    conv => whnf
    refine CallG.pure _ (law01FaultC hN hx12) ?_
    obtain ⟨v12, hx30, h⟩ := obind h
    conv => whnf
    refine SeqG.mk Unit (fun y => [(1, .d (.list 1 (List.map I a2))), (2, .d (I a3)), (3, .d (.ref (.agg [I a1.fFrames, I a1.fPins, I a1.fBalls, I a1.fTap]))), (7, .d (.list 1 (List.map I ra2))), (8, .d (I rb2)), (9, .d (I v12))]) (fun y => []) (fun _ => True) ?_ ?_
    · conv => whnf
      refine Br.mk (fun hc16 => ?_) (fun hc16 => ?_)
      · replace hx30 := ite_t hc16 hx30
        obtain ⟨r14, hx32, hx30⟩ := obind hx30
        conv => whnf
        refine CallG.pure _ (ref01FinalsC hN hx32) ?_
        conv => whnf
        refine LoopG.mk (Nat × (Int × Int)) (fun y => [(1, .d (.list 1 (List.map I a2))), (2, .d (I a3)), (3, .d (.ref (.agg [I a1.fFrames, I a1.fPins, I a1.fBalls, I a1.fTap]))), (7, .d (.list 1 (List.map I ra2))), (8, .d (I rb2)), (9, .d (I y.2.1)), (10, .d (.list 1 (List.map I r14))), (11, .d (I y.2.2))]) (fun y => []) (fun y => loopN (fun rr x => law01FrameShows_b1 N a3 r14 rr x.1 x.2) y.1 y.2 = some v12) (fun y => y.1) (N, (9, 0)) hx30 (Sub.eq rfl ?_ ?_) ?_
        · repeat ((conv => whnf); refine Need.mk rfl ?_)
          exact trivial
        · exact trivial
        · rintro ⟨n2, ⟨v21, v22⟩⟩ hl2
          obtain ⟨n2, rfl, hl2⟩ := loopN_some hl2
          replace hl2 : law01FrameShows_b1 N a3 r14 (loopN (fun rr x => law01FrameShows_b1 N a3 r14 rr x.1 x.2) n2) v21 v22 = some v12 := hl2
          rw [law01FrameShows_b1] at hl2
          conv => whnf
          refine Ln.mk _ (List.length_map _) ?_
          conv => whnf
          refine Br.mk (fun hc26 => ?_) (fun hc26 => ?_)
          · replace hl2 := ite_t hc26 hl2
            obtain ⟨v23, hx45, hl2⟩ := obind hl2
            conv => whnf
            refine SeqG.mk Unit (fun y => [(1, .d (.list 1 (List.map I a2))), (2, .d (I a3)), (3, .d (.ref (.agg [I a1.fFrames, I a1.fPins, I a1.fBalls, I a1.fTap]))), (7, .d (.list 1 (List.map I ra2))), (8, .d (I rb2)), (9, .d (I v23)), (10, .d (.list 1 (List.map I r14))), (11, .d (I v22))]) (fun y => []) (fun _ => True) ?_ ?_
            · obtain ⟨x24, hx47, hx45⟩ := obind hx45
              conv => whnf
              refine Side.mk rfl ⟨_, idx_0 hx47, idx_map _ hx47, ?_⟩
              conv => whnf
              refine Br.mk (fun hc28 => ?_) (fun hc28 => ?_)
              · replace hx45 := ite_t hc28 hx45
                cases hx45
                conv => whnf
                refine ⟨(), trivial, Sub.eq rfl ?_ ?_⟩
                · repeat ((conv => whnf); refine Need.mk rfl ?_)
                  exact trivial
                · exact trivial
              · replace hx45 := ite_f hc28 hx45
                cases hx45
                conv => whnf
                refine ⟨(), trivial, Sub.eq rfl ?_ ?_⟩
                · repeat ((conv => whnf); refine Need.mk rfl ?_)
                  exact trivial
                · exact trivial
            · rintro _ _
              conv => whnf
              refine ⟨(n2, (v23, w64 (v22 + 1))), hl2, Sub.eq rfl ?_ ?_, Nat.lt_succ_self _⟩
              · repeat ((conv => whnf); refine Need.mk rfl ?_)
                exact trivial
              · exact trivial
          · replace hl2 := ite_f hc26 hl2
            cases hl2
            conv => whnf
            refine ⟨(), trivial, Sub.eq rfl ?_ ?_⟩
            · repeat ((conv => whnf); refine Need.mk rfl ?_)
              exact trivial
            · exact trivial
      · replace hx30 := ite_f hc16 hx30
        cases hx30
        conv => whnf
        refine ⟨(), trivial, Sub.eq rfl ?_ ?_⟩
        · repeat ((conv => whnf); refine Need.mk rfl ?_)
          exact trivial
        · exact trivial
    · rintro _ _
      conv => whnf
      refine Br.mk (fun hc34 => ?_) (fun hc34 => ?_)
      · replace h := ite_t hc34 h
        obtain ⟨v25, hx52, h⟩ := obind h
        conv => whnf
        refine SeqG.mk Unit (fun y => [(6, .d (.bool v25))]) (fun y => []) (fun _ => True) ?_ ?_
        · conv => whnf
          refine Br.mk (fun hc37 => ?_) (fun hc37 => ?_)
          · replace hx52 := ite_t hc37 hx52
            conv => whnf
            refine Ln.mk _ (List.length_map _) ?_
            conv => whnf
            refine Br.mk (fun hc38 => ?_) (fun hc38 => ?_)
            · replace hx52 := ite_t hc38 hx52
              obtain ⟨r18, hx53, hx52⟩ := obind hx52
              conv => whnf
              refine CallG.pure _ (law01WakesC hN hx53) ?_
              cases hx52
              conv => whnf
              refine ⟨(), trivial, Sub.eq rfl ?_ ?_⟩
              · repeat ((conv => whnf); refine Need.mk rfl ?_)
                exact trivial
              · exact trivial
            · replace hx52 := ite_f hc38 hx52
              cases hx52
              conv => whnf
              refine ⟨(), trivial, Sub.eq rfl ?_ ?_⟩
              · repeat ((conv => whnf); refine Need.mk rfl ?_)
                exact trivial
              · exact trivial
          · replace hx52 := ite_f hc37 hx52
            cases hx52
            conv => whnf
            refine ⟨(), trivial, Sub.eq rfl ?_ ?_⟩
            · repeat ((conv => whnf); refine Need.mk rfl ?_)
              exact trivial
            · exact trivial
        · rintro _ _
          conv => whnf
          cases h
          exact rfl
      · replace h := ite_f hc34 h
        conv => whnf
        refine SeqG.mk Unit (fun y => [(1, .d (.list 1 (List.map I a2))), (2, .d (I a3)), (3, .d (.ref (.agg [I a1.fFrames, I a1.fPins, I a1.fBalls, I a1.fTap]))), (7, .d (.list 1 (List.map I ra2))), (8, .d (I rb2))]) (fun y => []) (fun y => law01FrameShows_k2 N a1 a2 a3 ra2 rb2 = some r) ?_ ?_
        · conv => whnf
          refine LoopG.mk (Nat × Int) (fun y => [(1, .d (.list 1 (List.map I a2))), (2, .d (I a3)), (3, .d (.ref (.agg [I a1.fFrames, I a1.fPins, I a1.fBalls, I a1.fTap]))), (7, .d (.list 1 (List.map I ra2))), (8, .d (I rb2)), (12, .d (I y.2))]) (fun y => []) (fun y => loopN (fun rr x => law01FrameShows_b3 N a1 a2 a3 ra2 rb2 rr x) y.1 y.2 = some r) (fun y => y.1) (N, 0) h (Sub.eq rfl ?_ ?_) ?_
          · repeat ((conv => whnf); refine Need.mk rfl ?_)
            exact trivial
          · exact trivial
          · rintro ⟨n4, v34⟩ hl4
            obtain ⟨n4, rfl, hl4⟩ := loopN_some hl4
            replace hl4 : law01FrameShows_b3 N a1 a2 a3 ra2 rb2 (loopN (fun rr x => law01FrameShows_b3 N a1 a2 a3 ra2 rb2 rr x) n4) v34 = some r := hl4
            rw [law01FrameShows_b3] at hl4
            conv => whnf
            refine Ln.mk _ (List.length_map _) ?_
            conv => whnf
            refine Br.mk (fun hc66 => ?_) (fun hc66 => ?_)
            · replace hl4 := ite_t hc66 hl4
              obtain ⟨x48, hx86, hl4⟩ := obind hl4
              conv => whnf
              refine Side.mk rfl ⟨_, idx_0 hx86, idx_map _ hx86, ?_⟩
              conv => whnf
              refine Br.mk (fun hc68 => ?_) (fun hc68 => ?_)
              · replace hl4 := ite_t hc68 hl4
                conv => whnf
                cases hl4
                exact rfl
              · replace hl4 := ite_f hc68 hl4
                conv => whnf
                refine ⟨(n4, w64 (v34 + 1)), hl4, Sub.eq rfl ?_ ?_, Nat.lt_succ_self _⟩
                · repeat ((conv => whnf); refine Need.mk rfl ?_)
                  exact trivial
                · exact trivial
            · replace hl4 := ite_f hc66 hl4
              conv => whnf
              refine ⟨(), hl4, Sub.eq rfl ?_ ?_⟩
              · repeat ((conv => whnf); refine Need.mk rfl ?_)
                exact trivial
              · exact trivial
        · clear h
          rintro _ h
          unfold law01FrameShows_k2 at h
          obtain ⟨v30, hx70, h⟩ := obind h
          conv => whnf
          refine SeqG.mk Unit (fun y => [(6, .d (.bool v30))]) (fun y => []) (fun _ => True) ?_ ?_
          · conv => whnf
            refine DrawG.mk (.take 0 (.take 1 (.take 2 (.spl 72 (.take 3 (.take 4 (.take 5 (.take 6 (.take 7 (.spl 77 (.take 8 (.take 9 (.take 11 (.take 14 (.alt 10 [14, 11, 8, 6, 5, 4, 3, 2, 1, 0] (.alt 12 [14, 8, 6, 5, 4, 3, 2, 1, 0] (.alt 13 [14, 6, 5, 4, 3, 2, 1, 0] (.take 15 (.take 16 (.take 17 (.spl 87 (.alt 18 [16, 15, 14, 6, 5, 4, 3, 2, 1, 0] (.take 19 (.take 20 .done)) .nil))))) .nil) .nil) .nil))))))))))))))) (by kernel_rfl) ?_
            conv => whnf
            refine Br.mk (fun hc54 => ?_) (fun hc54 => ?_)
            · replace hx70 := ite_t hc54 hx70
              conv => whnf
              refine Ln.mk _ (List.length_map _) ?_
              conv => whnf
              refine Br.mk (fun hc55 => ?_) (fun hc55 => ?_)
              · replace hx70 := ite_t hc55 hx70
                obtain ⟨r22, hx71, hx70⟩ := obind hx70
                obtain ⟨l2, hx72, hx70⟩ := obind hx70
                obtain ⟨r23, hx73, hx70⟩ := obind hx70
                conv => whnf
                refine Both.mk ?_ trivial
                conv => whnf
                refine CallG.fresh 80 (law01ListC hN hx71) ?_
                intro hd9
                conv => whnf
                refine Need.mk (AV.le_refl _) ?_
                conv => whnf
                refine Need.mk (AV.le_refl _) ?_
                conv => whnf
                refine Need.mk (AV.le_refl _) ?_
                conv => whnf
                refine Need.mk (AV.le_refl _) ?_
                conv => whnf
                refine Need.mk (AV.le_refl _) ?_
                conv => whnf
                refine Ln.mk _ (List.length_map _) ?_
                conv => whnf
                refine Need.mk (AV.le_refl _) ?_
                conv => whnf
                refine Need.mk (AV.le_refl _) ?_
                conv => whnf
                refine Need.mk (AV.le_bool hc54) ?_
                conv => whnf
                refine Need.mk (AV.le_refl _) ?_
                conv => whnf
                refine Need.mk (AV.le_refl _) ?_
                conv => whnf
                refine Both.mk ?_ trivial
                conv => whnf
                refine Side.mk rfl ?_
                conv => whnf
                refine Side.mk ⟨rfl, rfl, rfl⟩ (Need.mk (app_need hN hx72 (by decide)) (Eqv.mk (List.map I l2) (app_map _ hx72) ?_))
                conv => whnf
                intro hd10
                conv => whnf
                refine Need.mk (AV.le_refl _) ?_
                conv => whnf
                refine Need.mk (AV.le_refl _) ?_
                conv => whnf
                refine Need.mk (AV.le_refl _) ?_
                conv => whnf
                refine Need.mk (AV.le_refl _) ?_
                conv => whnf
                refine Ln.mk _ (List.length_map _) ?_
                conv => whnf
                refine Need.mk (AV.le_refl _) ?_
                conv => whnf
                refine Need.mk (AV.le_refl _) ?_
                conv => whnf
                refine Need.mk (AV.le_bool hc54) ?_
                conv => whnf
                refine Need.mk (AV.le_refl _) ?_
                conv => whnf
                refine Need.mk (AV.le_refl _) ?_
                conv => whnf
                refine Both.mk ?_ trivial
                conv => whnf
                refine Side.mk rfl ?_
                conv => whnf
                refine CallG.pure _ (ref01FinalC hN hx73) ?_
                conv => whnf
                refine Need.mk (AV.le_refl _) ?_
                conv => whnf
                refine Need.mk (AV.le_refl _) ?_
                conv => whnf
                refine Need.mk (AV.le_refl _) ?_
                conv => whnf
                refine Ln.mk _ (List.length_map _) ?_
                conv => whnf
                refine Need.mk (AV.le_refl _) ?_
                conv => whnf
                refine Need.mk (AV.le_refl _) ?_
                conv => whnf
                refine Need.mk (AV.le_bool hc54) ?_
                conv => whnf
                refine Need.mk (AV.le_refl _) ?_
                conv => whnf
                refine Need.mk (AV.le_refl _) ?_
                conv => whnf
                refine Br.mk (fun hc56 => ?_) (fun hc56 => ?_)
                · replace hx70 := ite_t hc56 hx70
                  obtain ⟨r24, hx74, hx70⟩ := obind hx70
                  conv => whnf
                  refine Both.mk ?_ trivial
                  conv => whnf
                  refine CallG.pure _ (law01WakesC hN hx74) ?_
                  conv => whnf
                  refine Need.mk (AV.le_refl _) ?_
                  conv => whnf
                  refine Need.mk (AV.le_refl _) ?_
                  conv => whnf
                  refine Need.mk (AV.le_refl _) ?_
                  conv => whnf
                  refine Need.mk (AV.le_refl _) ?_
                  conv => whnf
                  refine Need.mk (AV.le_refl _) ?_
                  conv => whnf
                  refine Ln.mk _ (List.length_map _) ?_
                  conv => whnf
                  refine Need.mk (AV.le_refl _) ?_
                  conv => whnf
                  refine Need.mk (AV.le_refl _) ?_
                  conv => whnf
                  refine Need.mk (AV.le_bool hc54) ?_
                  conv => whnf
                  refine Need.mk (AV.le_refl _) ?_
                  conv => whnf
                  refine Need.mk (AV.le_refl _) ?_
                  cases hx70
                  conv => whnf
                  refine ⟨(), trivial, Sub.eq rfl ?_ ?_⟩
                  · repeat ((conv => whnf); refine Need.mk rfl ?_)
                    exact trivial
                  · exact trivial
                · replace hx70 := ite_f hc56 hx70
                  conv => whnf
                  refine Both.mk ?_ trivial
                  conv => whnf
                  refine Need.mk (AV.le_refl _) ?_
                  conv => whnf
                  refine Need.mk (AV.le_refl _) ?_
                  conv => whnf
                  refine Need.mk (AV.le_refl _) ?_
                  conv => whnf
                  refine Need.mk (AV.le_refl _) ?_
                  conv => whnf
                  refine Need.mk (AV.le_refl _) ?_
                  conv => whnf
                  refine Ln.mk _ (List.length_map _) ?_
                  conv => whnf
                  refine Need.mk (AV.le_refl _) ?_
                  conv => whnf
                  refine Need.mk (AV.le_refl _) ?_
                  conv => whnf
                  refine Need.mk (AV.le_bool hc54) ?_
                  conv => whnf
                  refine Need.mk (AV.le_refl _) ?_
                  conv => whnf
                  refine Need.mk (AV.le_refl _) ?_
                  cases hx70
                  conv => whnf
                  refine ⟨(), trivial, Sub.eq rfl ?_ ?_⟩
                  · repeat ((conv => whnf); refine Need.mk rfl ?_)
                    exact trivial
                  · exact trivial
              · replace hx70 := ite_f hc55 hx70
                conv => whnf
                refine Both.mk ?_ trivial
                conv => whnf
                refine Need.mk rfl ?_
                conv => whnf
                refine Need.mk rfl ?_
                conv => whnf
                refine Need.mk rfl ?_
                conv => whnf
                refine Need.mk (AV.le_refl _) ?_
                conv => whnf
                refine Need.mk (AV.le_refl _) ?_
                conv => whnf
                refine Ln.mk _ (List.length_map _) ?_
                conv => whnf
                refine Need.mk (AV.le_refl _) ?_
                conv => whnf
                refine Need.mk (AV.le_refl _) ?_
                conv => whnf
                refine Need.mk (AV.le_bool hc54) ?_
                conv => whnf
                refine Need.mk (AV.le_refl _) ?_
                conv => whnf
                refine Need.mk (AV.le_refl _) ?_
                conv => whnf
                refine Both.mk ?_ trivial
                conv => whnf
                refine Need.mk rfl ?_
                conv => whnf
                refine Need.mk rfl ?_
                conv => whnf
                refine Need.mk (AV.le_refl _) ?_
                conv => whnf
                refine Need.mk (AV.le_refl _) ?_
                conv => whnf
                refine Ln.mk _ (List.length_map _) ?_
                conv => whnf
                refine Need.mk (AV.le_refl _) ?_
                conv => whnf
                refine Need.mk (AV.le_refl _) ?_
                conv => whnf
                refine Need.mk (AV.le_bool hc54) ?_
                conv => whnf
                refine Need.mk (AV.le_refl _) ?_
                conv => whnf
                refine Need.mk (AV.le_refl _) ?_
                conv => whnf
                refine Both.mk ?_ trivial
                conv => whnf
                refine Need.mk rfl ?_
                conv => whnf
                refine Need.mk (AV.le_refl _) ?_
                conv => whnf
                refine Need.mk (AV.le_refl _) ?_
                conv => whnf
                refine Ln.mk _ (List.length_map _) ?_
                conv => whnf
                refine Need.mk (AV.le_refl _) ?_
                conv => whnf
                refine Need.mk (AV.le_refl _) ?_
                conv => whnf
                refine Need.mk (AV.le_bool hc54) ?_
                conv => whnf
                refine Need.mk (AV.le_refl _) ?_
                conv => whnf
                refine Need.mk (AV.le_refl _) ?_
                conv => whnf
                refine Both.mk ?_ trivial
                conv => whnf
                refine Need.mk (AV.le_refl _) ?_
                conv => whnf
                refine Need.mk rfl ?_
                conv => whnf
                refine Need.mk rfl ?_
                conv => whnf
                refine Need.mk (AV.le_refl _) ?_
                conv => whnf
                refine Need.mk (AV.le_refl _) ?_
                conv => whnf
                refine Ln.mk _ (List.length_map _) ?_
                conv => whnf
                refine Need.mk (AV.le_refl _) ?_
                conv => whnf
                refine Need.mk (AV.le_refl _) ?_
                conv => whnf
                refine Need.mk (AV.le_bool hc54) ?_
                conv => whnf
                refine Need.mk (AV.le_refl _) ?_
                conv => whnf
                refine Need.mk (AV.le_refl _) ?_
                cases hx70
                conv => whnf
                refine ⟨(), trivial, Sub.eq rfl ?_ ?_⟩
                · repeat ((conv => whnf); refine Need.mk rfl ?_)
                  exact trivial
                · exact trivial
            · replace hx70 := ite_f hc54 hx70
              conv => whnf
              refine Both.mk ?_ trivial
              conv => whnf
              refine Need.mk rfl ?_
              conv => whnf
              refine Need.mk rfl ?_
              conv => whnf
              refine Need.mk rfl ?_
              conv => whnf
              refine Need.mk (AV.le_refl _) ?_
              conv => whnf
              refine Need.mk rfl ?_
              conv => whnf
              refine Need.mk rfl ?_
              conv => whnf
              refine Need.mk rfl ?_
              conv => whnf
              refine Need.mk (AV.le_bool hc54) ?_
              conv => whnf
              refine Need.mk (AV.le_refl _) ?_
              conv => whnf
              refine Need.mk (AV.le_refl _) ?_
              conv => whnf
              refine Both.mk ?_ trivial
              conv => whnf
              refine Need.mk rfl ?_
              conv => whnf
              refine Need.mk rfl ?_
              conv => whnf
              refine Need.mk (AV.le_refl _) ?_
              conv => whnf
              refine Need.mk rfl ?_
              conv => whnf
              refine Need.mk rfl ?_
              conv => whnf
              refine Need.mk rfl ?_
              conv => whnf
              refine Need.mk (AV.le_bool hc54) ?_
              conv => whnf
              refine Need.mk (AV.le_refl _) ?_
              conv => whnf
              refine Need.mk (AV.le_refl _) ?_
              conv => whnf
              refine Both.mk ?_ trivial
              conv => whnf
              refine Need.mk rfl ?_
              conv => whnf
              refine Need.mk (AV.le_refl _) ?_
              conv => whnf
              refine Need.mk rfl ?_
              conv => whnf
              refine Need.mk rfl ?_
              conv => whnf
              refine Need.mk rfl ?_
              conv => whnf
              refine Need.mk (AV.le_bool hc54) ?_
              conv => whnf
              refine Need.mk (AV.le_refl _) ?_
              conv => whnf
              refine Need.mk (AV.le_refl _) ?_
              conv => whnf
              refine Both.mk ?_ trivial
              conv => whnf
              refine Need.mk (AV.le_refl _) ?_
              conv => whnf
              refine Need.mk rfl ?_
              conv => whnf
              refine Need.mk rfl ?_
              conv => whnf
              refine Need.mk (AV.le_refl _) ?_
              conv => whnf
              refine Need.mk rfl ?_
              conv => whnf
              refine Need.mk rfl ?_
              conv => whnf
              refine Need.mk rfl ?_
              conv => whnf
              refine Need.mk (AV.le_bool hc54) ?_
              conv => whnf
              refine Need.mk (AV.le_refl _) ?_
              conv => whnf
              refine Need.mk (AV.le_refl _) ?_
              cases hx70
              conv => whnf
              refine ⟨(), trivial, Sub.eq rfl ?_ ?_⟩
              · repeat ((conv => whnf); refine Need.mk rfl ?_)
                exact trivial
              · exact trivial
          · rintro _ _
            conv => whnf
            cases h
            exact rfl
end Go.Proofs.Ythjafigloabfpaa
