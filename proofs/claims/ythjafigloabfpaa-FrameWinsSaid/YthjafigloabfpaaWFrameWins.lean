/-
  The walk of the law FrameWins.
-/
import Derived.Test.YthjafigloabfpaaDFrameWins
import Derived.Test.YthjafigloabfpaaWd
namespace Go.Proofs.Ythjafigloabfpaa
open Go Go.Abs Go.Kp
set_option maxRecDepth 100000
set_option maxHeartbeats 8000000
set_option linter.all false

theorem law01FrameWinsC {N : Nat} (hN : N ≤ 1073741824) {a1 : Ref01Law} {a2 : List (List Int)} {a3 : List Int} {r : Bool} (h : law01FrameWins N a1 a2 a3 = some r) :
    ACalls Try.prog 16 [.d (.agg [I a1.fFrames, I a1.fPins, I a1.fBalls, I a1.fTap]), .d (.list 1 (List.map (fun x => .list 1 (List.map I x)) a2)), .d (.list 1 (List.map (fun x => .int .u8 x) a3))] [] fun e os => e = .ret (.d (.bool r)) ∧ os = [] := by
  refine acalls_f (fresh := false) tt_ok dr_ok ⟨[3], [], [], [], [1, 14, 20, 21, 29, 39, 1004, 1010, 1017, 1020, 1024, 1031, 1034, 1035, 1038], 0⟩ Try.func16 rfl Try.call16 rfl ?_
  unfold law01FrameWins at h
  obtain ⟨v2, hx4, h⟩ := obind h
  conv => whnf
  refine SeqG.mk Unit (fun y => [(1, .d (.list 1 (List.map (fun x => .list 1 (List.map I x)) a2))), (2, .d (.list 1 (List.map (fun x => .int .u8 x) a3))), (3, .d (.ref (.agg [I a1.fFrames, I a1.fPins, I a1.fBalls, I a1.fTap]))), (32, .d (.bool v2))]) (fun y => []) (fun _ => True) ?_ ?_
  · conv => whnf
    refine Ln.mk _ (List.length_map _) ?_
    conv => whnf
    refine Br.mk (fun hc5 => ?_) (fun hc5 => ?_)
    · replace hx4 := ite_f hc5 hx4
      conv => whnf
      refine Ln.mk _ (List.length_map _) ?_
      cases hx4
      conv => whnf
      refine ⟨(), trivial, Sub.eq rfl ?_ ?_⟩
      · repeat ((conv => whnf); refine Need.mk rfl ?_)
        exact trivial
      · exact trivial
    · replace hx4 := ite_t hc5 hx4
      cases hx4
      conv => whnf
      refine ⟨(), trivial, Sub.eq rfl ?_ ?_⟩
      · repeat ((conv => whnf); refine Need.mk rfl ?_)
        exact trivial
      · exact trivial
  · rintro _ _
    conv => whnf
    refine Br.mk (fun hc6 => ?_) (fun hc6 => ?_)
    · replace h := ite_t hc6 h
      obtain ⟨r4, hx6, h⟩ := obind h
      conv => whnf
      refine CallG.pure _ (law01WakesC hN hx6) ?_
      conv => whnf
      cases h
      exact rfl
    · replace h := ite_f hc6 h
      conv => whnf
      refine SeqG.mk ((List (List Int)) × (List (List Int)) × Value × Value) (fun y => [(3, .d (.ref (.agg [I a1.fFrames, I a1.fPins, I a1.fBalls, I a1.fTap]))), (7, .sl 55 y.2.2.1), (8, .sl 79 y.2.2.2)]) (fun y => [(55, .arr y.2.2.1 24 1 false (List.map (fun x => .list 1 (List.map I x)) y.1)), (79, .arr y.2.2.2 24 1 false (List.map (fun x => .list 1 (List.map I x)) y.2.1))]) (fun y => law01FrameWins_k8 N a1 y.1 y.2.1 = some r) ?_ ?_
      · conv => whnf
        refine LoopG.mk (Nat × ((List Int) × Int × (List (List Int)) × (List (List Int))) × Value × Value) (fun y => [(1, .d (.list 1 (List.map (fun x => .list 1 (List.map I x)) a2))), (2, .d (.list 1 (List.map (fun x => .int .u8 x) y.2.1.1))), (3, .d (.ref (.agg [I a1.fFrames, I a1.fPins, I a1.fBalls, I a1.fTap]))), (7, .sl 55 y.2.2.1), (8, .sl 79 y.2.2.2), (9, .d (I y.2.1.2.1))]) (fun y => [(55, .arr y.2.2.1 24 1 false (List.map (fun x => .list 1 (List.map I x)) y.2.1.2.2.1)), (79, .arr y.2.2.2 24 1 false (List.map (fun x => .list 1 (List.map I x)) y.2.1.2.2.2))]) (fun y => loopN (fun rr x => law01FrameWins_b9 N a1 a2 rr x.1 x.2.1 x.2.2.1 x.2.2.2) y.1 y.2.1 = some r) (fun y => y.1) (N, (a3, 0, [], []), (.slice none 0 0), (.slice none 0 0)) h (Sub.eq rfl ?_ ?_) ?_
        · repeat ((conv => whnf); refine Need.mk rfl ?_)
          exact trivial
        · conv => whnf
          refine Need.mk (OLe.nil _ _ _ _) ?_
          conv => whnf
          refine Need.mk (OLe.nil _ _ _ _) ?_
          exact trivial
        · rintro ⟨n30, ⟨v469, v470, l124, l125⟩, hd380, hd381⟩ hl30
          obtain ⟨n30, rfl, hl30⟩ := loopN_some hl30
          replace hl30 : law01FrameWins_b9 N a1 a2 (loopN (fun rr x => law01FrameWins_b9 N a1 a2 rr x.1 x.2.1 x.2.2.1 x.2.2.2) n30) v469 v470 l124 l125 = some r := hl30
          rw [law01FrameWins_b9] at hl30
          conv => whnf
          refine Ln.mk _ (List.length_map _) ?_
          conv => whnf
          refine Br.mk (fun hc518 => ?_) (fun hc518 => ?_)
          · replace hl30 := ite_t hc518 hl30
            obtain ⟨x465, hx935, hl30⟩ := obind hl30
            obtain ⟨r193, hx936, hl30⟩ := obind hl30
            conv => whnf
            refine DrawG.mk (.take 0 (.take 1 (.take 2 (.take 3 (.take 4 (.alt 5 [3, 2, 1] (.take 6 .done) .nil)))))) (by kernel_rfl) ?_
            conv => whnf
            refine Side.mk rfl ⟨_, idx_0 hx935, idx_map _ hx935, ?_⟩
            conv => whnf
            refine Both.mk ?_ trivial
            conv => whnf
            refine CallG.pure _ (law01ReadyC hN hx936) ?_
            conv => whnf
            refine Side.mk rfl ⟨_, idx_0 hx935, idx_map _ hx935, ?_⟩
            conv => whnf
            refine Need.mk (AV.le_refl _) ?_
            conv => whnf
            refine Need.mk (AV.le_refl _) ?_
            conv => whnf
            refine Need.mk (AV.le_refl _) ?_
            conv => whnf
            refine Br.mk (fun hc524 => ?_) (fun hc524 => ?_)
            · replace hl30 := ite_t hc524 hl30
              obtain ⟨r195, hx938, hl30⟩ := obind hl30
              conv => whnf
              refine CallG.pure _ (law01WakesC hN hx938) ?_
              conv => whnf
              cases hl30
              exact rfl
            · replace hl30 := ite_f hc524 hl30
              conv => whnf
              refine Side.mk rfl ⟨_, idx_0 hx935, idx_map _ hx935, ?_⟩
              obtain ⟨r197, hx941, hl30⟩ := obind hl30
              conv => whnf
              refine CallG.fresh 53 (law01ListC hN hx941) ?_
              intro hd407
              conv => whnf
              refine Side.mk rfl ?_
              conv => whnf
              intro hd408
              obtain ⟨l134, hx942, hl30⟩ := obind hl30
              conv => whnf
              refine Side.mk ⟨rfl, rfl⟩ ?_
              conv => whnf
              refine Side.mk ⟨rfl, rfl, rfl⟩ (Need.mk (app_need hN hx942 (by decide)) (Eqv.mk (List.map (fun x => .list 1 (List.map I x)) l134) (app_map _ hx942) ?_))
              conv => whnf
              intro hd409
              obtain ⟨v472, hx946, hl30⟩ := obind hl30
              conv => whnf
              refine SeqG.mk Unit (fun y => [(1, .d (.list 1 (List.map (fun x => .list 1 (List.map I x)) a2))), (2, .d (.list 1 (List.map (fun x => .int .u8 x) v472))), (3, .d (.ref (.agg [I a1.fFrames, I a1.fPins, I a1.fBalls, I a1.fTap]))), (7, .sl 55 hd409), (8, .sl 79 hd381), (9, .d (I v470))]) (fun y => [(55, .arr hd409 24 1 false (List.map (fun x => .list 1 (List.map I x)) l134)), (79, .arr hd381 24 1 false (List.map (fun x => .list 1 (List.map I x)) l125))]) (fun _ => True) ?_ ?_
              · conv => whnf
                refine Ln.mk _ (List.length_map _) ?_
                conv => whnf
                refine Br.mk (fun hc526 => ?_) (fun hc526 => ?_)
                · replace hx946 := ite_t hc526 hx946
                  obtain ⟨x467, hx947, hx946⟩ := obind hx946
                  obtain ⟨l137, hx948, hx946⟩ := obind hx946
                  obtain ⟨l138, hx949, hx946⟩ := obind hx946
                  conv => whnf
                  refine DrawG.mk (.take 0 (.take 1 (.take 2 (.take 3 (.take 4 (.take 6 (.take 7 (.take 8 (.alt 5 [8, 7, 6, 3, 1] (.alt 9 [7, 6, 3, 1] (.alt 10 [7, 6, 3, 1] (.alt 11 [] .done .nil) .nil) .nil) (.alt 9 [7, 6, 4, 3, 2, 1, 0] (.alt 5 [7, 6, 3, 1] (.alt 10 [7, 6, 3, 1] (.alt 11 [] .done .nil) .nil) .nil) .nil)))))))))) (by kernel_rfl) ?_
                  conv => whnf
                  refine Ln.mk _ (List.length_map _) ?_
                  conv => whnf
                  refine Ln.mk _ (List.length_map _) ?_
                  conv => whnf
                  refine Side.mk rfl ⟨_, idx_0 hx947, idx_map _ hx947, ?_⟩
                  conv => whnf
                  refine Both.mk ?_ ?_
                  · conv => whnf
                    refine Need.mk (slc_need3 _ hx948) (Eqv.mk (List.map (fun x => .int .u8 x) l137) (slc_map _ hx948) ?_)
                    conv => whnf
                    refine Need.mk (AV.le_refl _) ?_
                    conv => whnf
                    refine Side.mk rfl ⟨_, idx_0 hx947, idx_map _ hx947, ?_⟩
                    conv => whnf
                    refine Need.mk (AV.le_refl _) ?_
                    conv => whnf
                    refine Need.mk (AV.le_refl _) ?_
                    conv => whnf
                    refine Need.mk (AV.le_refl _) ?_
                    conv => whnf
                    refine Need.mk (AV.le_refl _) ?_
                    conv => whnf
                    refine Both.mk ?_ trivial
                    conv => whnf
                    intro hd418
                    conv => whnf
                    refine Side.mk rfl ⟨_, idx_0 hx947, idx_map _ hx947, ?_⟩
                    conv => whnf
                    refine Need.mk (AV.le_refl _) ?_
                    conv => whnf
                    refine Need.mk (AV.le_refl _) ?_
                    conv => whnf
                    refine Need.mk (AV.le_refl _) ?_
                    conv => whnf
                    refine Need.mk (AV.le_refl _) ?_
                    conv => whnf
                    refine Both.mk ?_ trivial
                    conv => whnf
                    refine Side.mk ⟨rfl, rfl⟩ ?_
                    conv => whnf
                    refine Side.mk rfl (Need.mk (appB_need hx949 (by decide)) (Eqv.mk (List.map (fun x => .int .u8 x) l138) (appB_map _ hx949) ?_))
                    conv => whnf
                    refine Side.mk rfl ⟨_, idx_0 hx947, idx_map _ hx947, ?_⟩
                    conv => whnf
                    refine Need.mk (AV.le_refl _) ?_
                    conv => whnf
                    refine Need.mk (AV.le_refl _) ?_
                    conv => whnf
                    refine Need.mk (AV.le_refl _) ?_
                    conv => whnf
                    refine Need.mk (AV.le_refl _) ?_
                    conv => whnf
                    refine Both.mk ?_ trivial
                    cases hx946
                    conv => whnf
                    refine ⟨(), trivial, Sub.eq rfl ?_ ?_⟩
                    · repeat ((conv => whnf); refine Need.mk rfl ?_)
                      exact trivial
                    · conv => whnf
                      refine Need.mk (OLe.refl _) ?_
                      conv => whnf
                      refine Need.mk (OLe.refl _) ?_
                      exact trivial
                  · conv => whnf
                    refine Both.mk ?_ trivial
                    conv => whnf
                    intro hd420
                    conv => whnf
                    refine Side.mk rfl ⟨_, idx_0 hx947, idx_map _ hx947, ?_⟩
                    conv => whnf
                    refine Need.mk (AV.le_refl _) ?_
                    conv => whnf
                    refine Need.mk (AV.le_refl _) ?_
                    conv => whnf
                    refine Ln.mk _ (List.length_map _) ?_
                    conv => whnf
                    refine Need.mk (AV.le_refl _) ?_
                    conv => whnf
                    refine Need.mk (AV.le_refl _) ?_
                    conv => whnf
                    refine Ln.mk _ (List.length_map _) ?_
                    conv => whnf
                    refine Need.mk (AV.le_refl _) ?_
                    conv => whnf
                    refine Need.mk (AV.le_refl _) ?_
                    conv => whnf
                    refine Need.mk (AV.le_refl _) ?_
                    conv => whnf
                    refine Both.mk ?_ trivial
                    conv => whnf
                    refine Need.mk (slc_need3 _ hx948) (Eqv.mk (List.map (fun x => .int .u8 x) l137) (slc_map _ hx948) ?_)
                    conv => whnf
                    refine Side.mk rfl ⟨_, idx_0 hx947, idx_map _ hx947, ?_⟩
                    conv => whnf
                    refine Need.mk (AV.le_refl _) ?_
                    conv => whnf
                    refine Need.mk (AV.le_refl _) ?_
                    conv => whnf
                    refine Need.mk (AV.le_refl _) ?_
                    conv => whnf
                    refine Need.mk (AV.le_refl _) ?_
                    conv => whnf
                    refine Both.mk ?_ trivial
                    conv => whnf
                    refine Side.mk ⟨rfl, rfl⟩ ?_
                    conv => whnf
                    refine Side.mk rfl (Need.mk (appB_need hx949 (by decide)) (Eqv.mk (List.map (fun x => .int .u8 x) l138) (appB_map _ hx949) ?_))
                    conv => whnf
                    refine Side.mk rfl ⟨_, idx_0 hx947, idx_map _ hx947, ?_⟩
                    conv => whnf
                    refine Need.mk (AV.le_refl _) ?_
                    conv => whnf
                    refine Need.mk (AV.le_refl _) ?_
                    conv => whnf
                    refine Need.mk (AV.le_refl _) ?_
                    conv => whnf
                    refine Need.mk (AV.le_refl _) ?_
                    conv => whnf
                    refine Both.mk ?_ trivial
                    cases hx946
                    conv => whnf
                    refine ⟨(), trivial, Sub.eq rfl ?_ ?_⟩
                    · repeat ((conv => whnf); refine Need.mk rfl ?_)
                      exact trivial
                    · conv => whnf
                      refine Need.mk (OLe.refl _) ?_
                      conv => whnf
                      refine Need.mk (OLe.refl _) ?_
                      exact trivial
                · replace hx946 := ite_f hc526 hx946
                  cases hx946
                  conv => whnf
                  refine ⟨(), trivial, Sub.eq rfl ?_ ?_⟩
                  · repeat ((conv => whnf); refine Need.mk rfl ?_)
                    exact trivial
                  · conv => whnf
                    refine Need.mk (OLe.refl _) ?_
                    conv => whnf
                    refine Need.mk (OLe.refl _) ?_
                    exact trivial
              · rintro _ _
                obtain ⟨x468, hx950, hl30⟩ := obind hl30
                obtain ⟨r198, hx951, hl30⟩ := obind hl30
                obtain ⟨l139, hx952, hl30⟩ := obind hl30
                conv => whnf
                refine DrawG.mk (.take 0 (.take 1 (.take 2 (.take 3 (.take 4 (.take 5 (.take 6 (.alt 7 [4, 3, 2, 0] (.alt 8 [4, 3, 2, 0] (.alt 9 [4, 3, 2] (.take 10 .done) .nil) .nil) .nil)))))))) (by kernel_rfl) ?_
                conv => whnf
                refine Side.mk rfl ⟨_, idx_0 hx950, idx_map _ hx950, ?_⟩
                conv => whnf
                refine Both.mk ?_ trivial
                conv => whnf
                refine CallG.pure _ (law01EndedC hN hx951) ?_
                conv => whnf
                refine Side.mk rfl ⟨_, idx_0 hx950, idx_map _ hx950, ?_⟩
                conv => whnf
                refine Need.mk (AV.le_refl _) ?_
                conv => whnf
                refine Need.mk (AV.le_refl _) ?_
                conv => whnf
                refine Need.mk (AV.le_refl _) ?_
                conv => whnf
                refine Need.mk (AV.le_refl _) ?_
                conv => whnf
                refine Both.mk ?_ trivial
                conv => whnf
                intro hd424
                conv => whnf
                refine Side.mk rfl ⟨_, idx_0 hx950, idx_map _ hx950, ?_⟩
                conv => whnf
                refine Need.mk (AV.le_refl _) ?_
                conv => whnf
                refine Need.mk (AV.le_refl _) ?_
                conv => whnf
                refine Need.mk (AV.le_refl _) ?_
                conv => whnf
                refine Need.mk (AV.le_refl _) ?_
                conv => whnf
                refine Both.mk ?_ trivial
                conv => whnf
                refine Side.mk ⟨rfl, rfl⟩ ?_
                conv => whnf
                refine Side.mk ⟨rfl, rfl, rfl⟩ (Need.mk (app_need hN hx952 (by decide)) (Eqv.mk (List.map (fun x => .list 1 (List.map I x)) l139) (app_map _ hx952) ?_))
                conv => whnf
                intro hd425
                conv => whnf
                refine Side.mk rfl ⟨_, idx_0 hx950, idx_map _ hx950, ?_⟩
                conv => whnf
                refine Need.mk (AV.le_refl _) ?_
                conv => whnf
                refine Need.mk (AV.le_refl _) ?_
                conv => whnf
                refine Need.mk (AV.le_refl _) ?_
                conv => whnf
                refine ⟨(n30, (v472, w64 (v470 + 1), l134, l139), hd409, hd425), hl30, Sub.eq rfl ?_ ?_, Nat.lt_succ_self _⟩
                · repeat ((conv => whnf); refine Need.mk rfl ?_)
                  exact trivial
                · conv => whnf
                  refine Need.mk (OLe.refl _) ?_
                  conv => whnf
                  refine Need.mk (OLe.refl _) ?_
                  exact trivial
          · replace hl30 := ite_f hc518 hl30
            conv => whnf
            refine ⟨(l124, l125, hd380, hd381), hl30, Sub.eq rfl ?_ ?_⟩
            · repeat ((conv => whnf); refine Need.mk rfl ?_)
              exact trivial
            · conv => whnf
              refine Need.mk (OLe.refl _) ?_
              conv => whnf
              refine Need.mk (OLe.refl _) ?_
              exact trivial
      · clear h
        rintro ⟨l51, l52, hd141, hd142⟩ h
        unfold law01FrameWins_k8 at h
        obtain ⟨r72, hx165, h⟩ := obind h
        conv => whnf
        refine CallG.pure _ (law01LawC hN hx165) ?_
        obtain ⟨⟨ra2, rb2, rc2⟩, hx166, h⟩ := obind h
        conv => whnf
        refine Side.mk rfl ?_
        conv => whnf
        refine CallG.pure _ (frameAheadC hN hx166) ?_
        obtain ⟨v18, hx171, h⟩ := obind h
        conv => whnf
        refine SeqG.mk Unit (fun y => [(3, .d (.ref (.agg [I a1.fFrames, I a1.fPins, I a1.fBalls, I a1.fTap]))), (8, .sl 79 hd142), (10, .d (.list 1 (List.map I ra2))), (11, .d (.list 1 (List.map I rb2))), (110, .d (.bool v18))]) (fun y => [(79, .arr hd142 24 1 false (List.map (fun x => .list 1 (List.map I x)) l52))]) (fun _ => True) ?_ ?_
        · conv => whnf
          refine Br.mk (fun hc50 => ?_) (fun hc50 => ?_)
          · replace hx171 := ite_f hc50 hx171
            conv => whnf
            refine Ln.mk _ (List.length_map _) ?_
            conv => whnf
            refine Br.mk (fun hc51 => ?_) (fun hc51 => ?_)
            · replace hx171 := ite_f hc51 hx171
              conv => whnf
              refine Ln.mk _ (List.length_map _) ?_
              conv => whnf
              refine Br.mk (fun hc52 => ?_) (fun hc52 => ?_)
              · replace hx171 := ite_f hc52 hx171
                conv => whnf
                refine Ln.mk _ (List.length_map _) ?_
                conv => whnf
                refine Br.mk (fun hc53 => ?_) (fun hc53 => ?_)
                · replace hx171 := ite_t hc53 hx171
                  obtain ⟨r76, hx172, hx171⟩ := obind hx171
                  conv => whnf
                  refine CallG.pure _ (law01IntsC hN hx172) ?_
                  cases hx171
                  conv => whnf
                  refine ⟨(), trivial, Sub.eq rfl ?_ ?_⟩
                  · repeat ((conv => whnf); refine Need.mk rfl ?_)
                    exact trivial
                  · conv => whnf
                    refine Need.mk (OLe.refl _) ?_
                    exact trivial
                · replace hx171 := ite_f hc53 hx171
                  cases hx171
                  conv => whnf
                  refine ⟨(), trivial, Sub.eq rfl ?_ ?_⟩
                  · repeat ((conv => whnf); refine Need.mk rfl ?_)
                    exact trivial
                  · conv => whnf
                    refine Need.mk (OLe.refl _) ?_
                    exact trivial
              · replace hx171 := ite_t hc52 hx171
                cases hx171
                conv => whnf
                refine ⟨(), trivial, Sub.eq rfl ?_ ?_⟩
                · repeat ((conv => whnf); refine Need.mk rfl ?_)
                  exact trivial
                · conv => whnf
                  refine Need.mk (OLe.refl _) ?_
                  exact trivial
            · replace hx171 := ite_t hc51 hx171
              cases hx171
              conv => whnf
              refine ⟨(), trivial, Sub.eq rfl ?_ ?_⟩
              · repeat ((conv => whnf); refine Need.mk rfl ?_)
                exact trivial
              · conv => whnf
                refine Need.mk (OLe.refl _) ?_
                exact trivial
          · replace hx171 := ite_t hc50 hx171
            cases hx171
            conv => whnf
            refine ⟨(), trivial, Sub.eq rfl ?_ ?_⟩
            · repeat ((conv => whnf); refine Need.mk rfl ?_)
              exact trivial
            · conv => whnf
              refine Need.mk (OLe.refl _) ?_
              exact trivial
        · rintro _ _
          conv => whnf
          refine Br.mk (fun hc54 => ?_) (fun hc54 => ?_)
          · replace h := ite_t hc54 h
            conv => whnf
            cases h
            exact rfl
          · replace h := ite_f hc54 h
            conv => whnf
            refine SeqG.mk ((List Int) × Value) (fun y => [(3, .d (.ref (.agg [I a1.fFrames, I a1.fPins, I a1.fBalls, I a1.fTap]))), (8, .sl 79 hd142), (10, .d (.list 1 (List.map I ra2))), (11, .d (.list 1 (List.map I rb2))), (14, .sl 155 y.2)]) (fun y => [(79, .arr hd142 24 1 false (List.map (fun x => .list 1 (List.map I x)) l52)), (155, .arr y.2 3 1 false (List.map I y.1))]) (fun y => law01FrameWins_k5 N a1 l52 ra2 rb2 y.1 = some r) ?_ ?_
            · conv => whnf
              refine LoopG.mk (Nat × (Int × Int × (List Int)) × Value) (fun y => [(3, .d (.ref (.agg [I a1.fFrames, I a1.fPins, I a1.fBalls, I a1.fTap]))), (8, .sl 79 hd142), (10, .d (.list 1 (List.map I ra2))), (11, .d (.list 1 (List.map I rb2))), (13, .d (I y.2.1.1)), (14, .sl 155 y.2.2), (15, .d (I y.2.1.2.1))]) (fun y => [(79, .arr hd142 24 1 false (List.map (fun x => .list 1 (List.map I x)) l52)), (155, .arr y.2.2 3 1 false (List.map I y.2.1.2.2))]) (fun y => loopN (fun rr x => law01FrameWins_b7 N a1 l52 ra2 rb2 rr x.1 x.2.1 x.2.2) y.1 y.2.1 = some r) (fun y => y.1) (N, ((-1), 0, []), (.slice none 0 0)) h (Sub.eq rfl ?_ ?_) ?_
              · repeat ((conv => whnf); refine Need.mk rfl ?_)
                exact trivial
              · conv => whnf
                refine Need.mk (OLe.refl _) ?_
                conv => whnf
                refine Need.mk (OLe.nil _ _ _ _) ?_
                exact trivial
              · rintro ⟨n29, ⟨v448, v449, l84⟩, hd262⟩ hl29
                obtain ⟨n29, rfl, hl29⟩ := loopN_some hl29
                replace hl29 : law01FrameWins_b7 N a1 l52 ra2 rb2 (loopN (fun rr x => law01FrameWins_b7 N a1 l52 ra2 rb2 rr x.1 x.2.1 x.2.2) n29) v448 v449 l84 = some r := hl29
                rw [law01FrameWins_b7] at hl29
                conv => whnf
                refine Side.mk rfl (Ln.mk _ (List.length_map _) ?_)
                conv => whnf
                refine Br.mk (fun hc478 => ?_) (fun hc478 => ?_)
                · replace hl29 := ite_t hc478 hl29
                  conv => whnf
                  refine SeqG.mk (Int × (List Int) × Value) (fun y => [(3, .d (.ref (.agg [I a1.fFrames, I a1.fPins, I a1.fBalls, I a1.fTap]))), (8, .sl 79 hd142), (10, .d (.list 1 (List.map I ra2))), (11, .d (.list 1 (List.map I rb2))), (13, .d (I y.1)), (14, .sl 155 y.2.2), (15, .d (I v449))]) (fun y => [(79, .arr hd142 24 1 false (List.map (fun x => .list 1 (List.map I x)) l52)), (155, .arr y.2.2 3 1 false (List.map I y.2.1))]) (fun y => law01FrameWins_k6 N v449 (loopN (fun rr x => law01FrameWins_b7 N a1 l52 ra2 rb2 rr x.1 x.2.1 x.2.2) n29) y.1 y.2.1 = some r) ?_ ?_
                  · obtain ⟨⟨v455, c12⟩, hx786, hl29⟩ := obind hl29
                    conv => whnf
                    refine SeqG.mk Nat (fun y => [(3, .d (.ref (.agg [I a1.fFrames, I a1.fPins, I a1.fBalls, I a1.fTap]))), (8, .sl 79 hd142), (10, .d (.list 1 (List.map I ra2))), (11, .d (.list 1 (List.map I rb2))), (13, .d (I v448)), (14, .sl 155 hd262), (15, .d (I v449)), (16, .ptr 16 y 0), (17, .d (I v455))]) (fun y => [(79, .arr hd142 24 1 false (List.map (fun x => .list 1 (List.map I x)) l52)), (155, .arr hd262 3 1 false (List.map I l84)), (16, .cells y [.d (.list 1 (List.map (fun x => .list 1 (List.map I x)) c12.fFrames)), .d (.list 1 (List.map I c12.fCounts)), .d (I c12.fStanding), .d (.bool c12.fDone)])]) (fun _ => True) ?_ ?_
                    · obtain ⟨x424, hx787, hx786⟩ := obind hx786
                      obtain ⟨r131, hx788, hx786⟩ := obind hx786
                      obtain ⟨r132, hx789, hx786⟩ := obind hx786
                      obtain ⟨⟨ra28, rb28⟩, hx790, hx786⟩ := obind hx786
                      conv => whnf
                      refine DrawG.mk (.take 0 (.take 2 (.take 3 (.take 4 (.take 5 (.alt 1 [5, 4, 3, 2] (.alt 6 [4, 3, 2] (.alt 7 [4, 3, 2] (.take 8 (.take 9 (.take 10 (.alt 11 [10, 9, 8, 4, 3, 2] (.alt 12 [10] (.take 13 .done) .nil) .nil)))) (.alt 11 [4, 3, 2] (.alt 7 [4, 3, 2] (.take 8 (.take 9 (.take 10 (.alt 12 [10] (.take 13 .done) .nil)))) .nil) .nil)) (.alt 11 [5, 4, 3, 2] (.alt 6 [4, 3, 2] (.alt 7 [4, 3, 2] (.take 8 (.take 9 (.take 10 (.alt 12 [10] (.take 13 .done) .nil)))) .nil) .nil) .nil)) (.alt 11 [5, 4, 3, 2, 0] (.alt 1 [5, 4, 3, 2] (.alt 6 [4, 3, 2] (.alt 7 [4, 3, 2] (.take 8 (.take 9 (.take 10 (.alt 12 [10] (.take 13 .done) .nil)))) .nil) .nil) .nil) .nil))))))) (by kernel_rfl) ?_
                      conv => whnf
                      refine Side.mk ⟨rfl, rfl⟩ (Need.mk (idx_need _ hx787) ?_)
                      conv => whnf
                      refine Side.mk ⟨rfl, rfl⟩ ⟨_, Int.natCast_nonneg _, idx_el _ hx787, ?_⟩
                      conv => whnf
                      refine Both.mk ?_ ?_
                      · conv => whnf
                        refine CallG.pure _ (law01LawC hN hx788) ?_
                        conv => whnf
                        refine Side.mk ⟨rfl, rfl⟩ ⟨_, Int.natCast_nonneg _, idx_el _ hx787, ?_⟩
                        conv => whnf
                        refine Need.mk (AV.le_refl _) ?_
                        conv => whnf
                        refine Side.mk ⟨rfl, rfl⟩ (Need.mk (idx_need _ hx787) ?_)
                        conv => whnf
                        refine Need.mk (AV.le_refl _) ?_
                        conv => whnf
                        refine Need.mk (AV.le_refl _) ?_
                        conv => whnf
                        refine Need.mk (AV.le_refl _) ?_
                        conv => whnf
                        refine Both.mk ?_ ?_
                        · conv => whnf
                          refine CallG.fresh 124 (law01ListC hN hx789) ?_
                          intro hd280
                          conv => whnf
                          refine Side.mk ⟨rfl, rfl⟩ (Need.mk (idx_need _ hx787) ?_)
                          conv => whnf
                          refine Need.mk (AV.le_refl _) ?_
                          conv => whnf
                          refine Need.mk (AV.le_refl _) ?_
                          conv => whnf
                          refine Need.mk (AV.le_refl _) ?_
                          conv => whnf
                          refine Both.mk ?_ ?_
                          · conv => whnf
                            refine Side.mk rfl ?_
                            conv => whnf
                            refine CallG.pure _ (frameReadC hN hx790) ?_
                            conv => whnf
                            refine Side.mk ⟨rfl, rfl⟩ (Need.mk (idx_need _ hx787) ?_)
                            conv => whnf
                            refine Need.mk (AV.le_refl _) ?_
                            conv => whnf
                            refine Need.mk (AV.le_refl _) ?_
                            conv => whnf
                            refine Need.mk (AV.le_refl _) ?_
                            conv => whnf
                            refine Both.mk ?_ trivial
                            conv => whnf
                            intro b117
                            conv => whnf
                            refine Need.mk (AV.le_refl _) ?_
                            conv => whnf
                            refine Need.mk (AV.le_refl _) ?_
                            conv => whnf
                            refine Need.mk (AV.le_refl _) ?_
                            conv => whnf
                            refine Side.mk ⟨rfl, rfl⟩ (Need.mk (idx_need _ hx787) ?_)
                            conv => whnf
                            refine Need.mk (AV.le_refl _) ?_
                            conv => whnf
                            refine Need.mk (AV.le_refl _) ?_
                            conv => whnf
                            refine Need.mk (AV.le_refl _) ?_
                            conv => whnf
                            refine Both.mk ?_ trivial
                            conv => whnf
                            refine Side.mk rfl ?_
                            conv => whnf
                            refine Need.mk (AV.le_refl _) ?_
                            cases hx786
                            conv => whnf
                            refine ⟨b117, trivial, Sub.eq rfl ?_ ?_⟩
                            · repeat ((conv => whnf); refine Need.mk rfl ?_)
                              exact trivial
                            · conv => whnf
                              refine Need.mk (OLe.refl _) ?_
                              conv => whnf
                              refine Need.mk (OLe.refl _) ?_
                              conv => whnf
                              refine Need.mk (OLe.refl _) ?_
                              exact trivial
                          · conv => whnf
                            refine Both.mk ?_ trivial
                            conv => whnf
                            intro b118
                            conv => whnf
                            refine Side.mk ⟨rfl, rfl⟩ (Need.mk (idx_need _ hx787) ?_)
                            conv => whnf
                            refine Need.mk (AV.le_refl _) ?_
                            conv => whnf
                            refine Need.mk (AV.le_refl _) ?_
                            conv => whnf
                            refine Need.mk (AV.le_refl _) ?_
                            conv => whnf
                            refine Both.mk ?_ trivial
                            conv => whnf
                            refine Side.mk rfl ?_
                            conv => whnf
                            refine CallG.pure _ (frameReadC hN hx790) ?_
                            conv => whnf
                            refine Side.mk ⟨rfl, rfl⟩ (Need.mk (idx_need _ hx787) ?_)
                            conv => whnf
                            refine Need.mk (AV.le_refl _) ?_
                            conv => whnf
                            refine Need.mk (AV.le_refl _) ?_
                            conv => whnf
                            refine Need.mk (AV.le_refl _) ?_
                            conv => whnf
                            refine Both.mk ?_ trivial
                            conv => whnf
                            refine Side.mk rfl ?_
                            conv => whnf
                            refine Need.mk (AV.le_refl _) ?_
                            cases hx786
                            conv => whnf
                            refine ⟨b118, trivial, Sub.eq rfl ?_ ?_⟩
                            · repeat ((conv => whnf); refine Need.mk rfl ?_)
                              exact trivial
                            · conv => whnf
                              refine Need.mk (OLe.refl _) ?_
                              conv => whnf
                              refine Need.mk (OLe.refl _) ?_
                              conv => whnf
                              refine Need.mk (OLe.refl _) ?_
                              exact trivial
                        · conv => whnf
                          refine Both.mk ?_ trivial
                          conv => whnf
                          intro b119
                          conv => whnf
                          refine Side.mk ⟨rfl, rfl⟩ ⟨_, Int.natCast_nonneg _, idx_el _ hx787, ?_⟩
                          conv => whnf
                          refine Need.mk (AV.le_refl _) ?_
                          conv => whnf
                          refine Side.mk ⟨rfl, rfl⟩ (Need.mk (idx_need _ hx787) ?_)
                          conv => whnf
                          refine Need.mk (AV.le_refl _) ?_
                          conv => whnf
                          refine Need.mk (AV.le_refl _) ?_
                          conv => whnf
                          refine Need.mk (AV.le_refl _) ?_
                          conv => whnf
                          refine Both.mk ?_ trivial
                          conv => whnf
                          refine CallG.fresh 124 (law01ListC hN hx789) ?_
                          intro hd281
                          conv => whnf
                          refine Side.mk ⟨rfl, rfl⟩ (Need.mk (idx_need _ hx787) ?_)
                          conv => whnf
                          refine Need.mk (AV.le_refl _) ?_
                          conv => whnf
                          refine Need.mk (AV.le_refl _) ?_
                          conv => whnf
                          refine Need.mk (AV.le_refl _) ?_
                          conv => whnf
                          refine Both.mk ?_ trivial
                          conv => whnf
                          refine Side.mk rfl ?_
                          conv => whnf
                          refine CallG.pure _ (frameReadC hN hx790) ?_
                          conv => whnf
                          refine Side.mk ⟨rfl, rfl⟩ (Need.mk (idx_need _ hx787) ?_)
                          conv => whnf
                          refine Need.mk (AV.le_refl _) ?_
                          conv => whnf
                          refine Need.mk (AV.le_refl _) ?_
                          conv => whnf
                          refine Need.mk (AV.le_refl _) ?_
                          conv => whnf
                          refine Both.mk ?_ trivial
                          conv => whnf
                          refine Side.mk rfl ?_
                          conv => whnf
                          refine Need.mk (AV.le_refl _) ?_
                          cases hx786
                          conv => whnf
                          refine ⟨b119, trivial, Sub.eq rfl ?_ ?_⟩
                          · repeat ((conv => whnf); refine Need.mk rfl ?_)
                            exact trivial
                          · conv => whnf
                            refine Need.mk (OLe.refl _) ?_
                            conv => whnf
                            refine Need.mk (OLe.refl _) ?_
                            conv => whnf
                            refine Need.mk (OLe.refl _) ?_
                            exact trivial
                      · conv => whnf
                        refine Both.mk ?_ trivial
                        conv => whnf
                        intro b120
                        conv => whnf
                        refine Side.mk ⟨rfl, rfl⟩ ⟨_, Int.natCast_nonneg _, idx_el _ hx787, ?_⟩
                        conv => whnf
                        refine Need.mk (AV.le_refl _) ?_
                        conv => whnf
                        refine Side.mk ⟨rfl, rfl⟩ (Need.mk (idx_need _ hx787) ?_)
                        conv => whnf
                        refine Need.mk (AV.le_refl _) ?_
                        conv => whnf
                        refine Need.mk (AV.le_refl _) ?_
                        conv => whnf
                        refine Need.mk (AV.le_refl _) ?_
                        conv => whnf
                        refine Need.mk (AV.le_refl _) ?_
                        conv => whnf
                        refine Both.mk ?_ trivial
                        conv => whnf
                        refine CallG.pure _ (law01LawC hN hx788) ?_
                        conv => whnf
                        refine Side.mk ⟨rfl, rfl⟩ ⟨_, Int.natCast_nonneg _, idx_el _ hx787, ?_⟩
                        conv => whnf
                        refine Need.mk (AV.le_refl _) ?_
                        conv => whnf
                        refine Side.mk ⟨rfl, rfl⟩ (Need.mk (idx_need _ hx787) ?_)
                        conv => whnf
                        refine Need.mk (AV.le_refl _) ?_
                        conv => whnf
                        refine Need.mk (AV.le_refl _) ?_
                        conv => whnf
                        refine Need.mk (AV.le_refl _) ?_
                        conv => whnf
                        refine Both.mk ?_ trivial
                        conv => whnf
                        refine CallG.fresh 124 (law01ListC hN hx789) ?_
                        intro hd282
                        conv => whnf
                        refine Side.mk ⟨rfl, rfl⟩ (Need.mk (idx_need _ hx787) ?_)
                        conv => whnf
                        refine Need.mk (AV.le_refl _) ?_
                        conv => whnf
                        refine Need.mk (AV.le_refl _) ?_
                        conv => whnf
                        refine Need.mk (AV.le_refl _) ?_
                        conv => whnf
                        refine Both.mk ?_ trivial
                        conv => whnf
                        refine Side.mk rfl ?_
                        conv => whnf
                        refine CallG.pure _ (frameReadC hN hx790) ?_
                        conv => whnf
                        refine Side.mk ⟨rfl, rfl⟩ (Need.mk (idx_need _ hx787) ?_)
                        conv => whnf
                        refine Need.mk (AV.le_refl _) ?_
                        conv => whnf
                        refine Need.mk (AV.le_refl _) ?_
                        conv => whnf
                        refine Need.mk (AV.le_refl _) ?_
                        conv => whnf
                        refine Both.mk ?_ trivial
                        conv => whnf
                        refine Side.mk rfl ?_
                        conv => whnf
                        refine Need.mk (AV.le_refl _) ?_
                        cases hx786
                        conv => whnf
                        refine ⟨b120, trivial, Sub.eq rfl ?_ ?_⟩
                        · repeat ((conv => whnf); refine Need.mk rfl ?_)
                          exact trivial
                        · conv => whnf
                          refine Need.mk (OLe.refl _) ?_
                          conv => whnf
                          refine Need.mk (OLe.refl _) ?_
                          conv => whnf
                          refine Need.mk (OLe.refl _) ?_
                          exact trivial
                    · rintro bb12 _
                      obtain ⟨v457, hx792, hl29⟩ := obind hl29
                      conv => whnf
                      refine SeqG.mk Unit (fun y => [(3, .d (.ref (.agg [I a1.fFrames, I a1.fPins, I a1.fBalls, I a1.fTap]))), (8, .sl 79 hd142), (10, .d (.list 1 (List.map I ra2))), (11, .d (.list 1 (List.map I rb2))), (13, .d (I v448)), (14, .sl 155 hd262), (15, .d (I v449)), (16, .ptr 16 bb12 0), (137, .d (.bool v457))]) (fun y => [(79, .arr hd142 24 1 false (List.map (fun x => .list 1 (List.map I x)) l52)), (155, .arr hd262 3 1 false (List.map I l84)), (16, .cells bb12 [.d (.list 1 (List.map (fun x => .list 1 (List.map I x)) c12.fFrames)), .d (.list 1 (List.map I c12.fCounts)), .d (I c12.fStanding), .d (.bool c12.fDone)])]) (fun _ => True) ?_ ?_
                      · conv => whnf
                        refine Br.mk (fun hc492 => ?_) (fun hc492 => ?_)
                        · replace hx792 := ite_f hc492 hx792
                          conv => whnf
                          refine Side.mk rfl ?_
                          conv => whnf
                          refine Ln.mk _ (List.length_map _) ?_
                          cases hx792
                          conv => whnf
                          refine ⟨(), trivial, Sub.eq rfl ?_ ?_⟩
                          · repeat ((conv => whnf); refine Need.mk rfl ?_)
                            exact trivial
                          · conv => whnf
                            refine Need.mk (OLe.refl _) ?_
                            conv => whnf
                            refine Need.mk (OLe.refl _) ?_
                            conv => whnf
                            refine Need.mk (OLe.refl _) ?_
                            exact trivial
                        · replace hx792 := ite_t hc492 hx792
                          cases hx792
                          conv => whnf
                          refine ⟨(), trivial, Sub.eq rfl ?_ ?_⟩
                          · repeat ((conv => whnf); refine Need.mk rfl ?_)
                            exact trivial
                          · conv => whnf
                            refine Need.mk (OLe.refl _) ?_
                            conv => whnf
                            refine Need.mk (OLe.refl _) ?_
                            conv => whnf
                            refine Need.mk (OLe.refl _) ?_
                            exact trivial
                      · rintro _ _
                        conv => whnf
                        refine Br.mk (fun hc493 => ?_) (fun hc493 => ?_)
                        · replace hl29 := ite_t hc493 hl29
                          conv => whnf
                          cases hl29
                          exact rfl
                        · replace hl29 := ite_f hc493 hl29
                          conv => whnf
                          refine Side.mk rfl ?_
                          obtain ⟨x426, hx794, hl29⟩ := obind hl29
                          conv => whnf
                          refine Side.mk rfl ⟨_, idx_0 hx794, idx_map _ hx794, ?_⟩
                          obtain ⟨⟨v458, l88⟩, hx795, hl29⟩ := obind hl29
                          conv => whnf
                          refine SeqG.mk Value (fun y => [(3, .d (.ref (.agg [I a1.fFrames, I a1.fPins, I a1.fBalls, I a1.fTap]))), (8, .sl 79 hd142), (10, .d (.list 1 (List.map I ra2))), (11, .d (.list 1 (List.map I rb2))), (13, .d (I v458)), (14, .sl 155 y), (15, .d (I v449)), (18, .d (I x426))]) (fun y => [(79, .arr hd142 24 1 false (List.map (fun x => .list 1 (List.map I x)) l52)), (155, .arr y 3 1 false (List.map I l88))]) (fun _ => True) ?_ ?_
                          · conv => whnf
                            refine Br.mk (fun hc495 => ?_) (fun hc495 => ?_)
                            · replace hx795 := ite_t hc495 hx795
                              cases hx795
                              conv => whnf
                              refine ⟨(.slice none 0 0), trivial, Sub.eq rfl ?_ ?_⟩
                              · repeat ((conv => whnf); refine Need.mk rfl ?_)
                                exact trivial
                              · conv => whnf
                                refine Need.mk (OLe.refl _) ?_
                                conv => whnf
                                refine Need.mk (OLe.nil _ _ _ _) ?_
                                exact trivial
                            · replace hx795 := ite_f hc495 hx795
                              cases hx795
                              conv => whnf
                              refine ⟨hd262, trivial, Sub.eq rfl ?_ ?_⟩
                              · repeat ((conv => whnf); refine Need.mk rfl ?_)
                                exact trivial
                              · conv => whnf
                                refine Need.mk (OLe.refl _) ?_
                                conv => whnf
                                refine Need.mk (OLe.refl _) ?_
                                exact trivial
                          · rintro hd283 _
                            conv => whnf
                            refine Br.mk (fun hc496 => ?_) (fun hc496 => ?_)
                            · replace hl29 := ite_t hc496 hl29
                              conv => whnf
                              intro hd284
                              obtain ⟨l89, hx796, hl29⟩ := obind hl29
                              conv => whnf
                              refine Side.mk ⟨rfl, rfl⟩ ?_
                              conv => whnf
                              refine Side.mk ⟨rfl, rfl, rfl⟩ (Need.mk (app_need hN hx796 (by decide)) (Eqv.mk (List.map I l89) (app_map _ hx796) ?_))
                              conv => whnf
                              intro hd285
                              conv => whnf
                              refine ⟨(v458, l89, hd285), hl29, Sub.eq rfl ?_ ?_⟩
                              · repeat ((conv => whnf); refine Need.mk rfl ?_)
                                exact trivial
                              · conv => whnf
                                refine Need.mk (OLe.refl _) ?_
                                conv => whnf
                                refine Need.mk (OLe.refl _) ?_
                                exact trivial
                            · replace hl29 := ite_f hc496 hl29
                              conv => whnf
                              refine ⟨(v458, l88, hd283), hl29, Sub.eq rfl ?_ ?_⟩
                              · repeat ((conv => whnf); refine Need.mk rfl ?_)
                                exact trivial
                              · conv => whnf
                                refine Need.mk (OLe.refl _) ?_
                                conv => whnf
                                refine Need.mk (OLe.refl _) ?_
                                exact trivial
                  · rintro ⟨v454, l87, hd274⟩ h
                    unfold law01FrameWins_k6 at h
                    conv => whnf
                    refine ⟨(n29, (v454, w64 (v449 + 1), l87), hd274), h, Sub.eq rfl ?_ ?_, Nat.lt_succ_self _⟩
                    · repeat ((conv => whnf); refine Need.mk rfl ?_)
                      exact trivial
                    · conv => whnf
                      refine Need.mk (OLe.refl _) ?_
                      conv => whnf
                      refine Need.mk (OLe.refl _) ?_
                      exact trivial
                · replace hl29 := ite_f hc478 hl29
                  conv => whnf
                  refine ⟨(l84, hd262), hl29, Sub.eq rfl ?_ ?_⟩
                  · repeat ((conv => whnf); refine Need.mk rfl ?_)
                    exact trivial
                  · conv => whnf
                    refine Need.mk (OLe.refl _) ?_
                    conv => whnf
                    refine Need.mk (OLe.refl _) ?_
                    exact trivial
            · clear h
              rintro ⟨l70, hd214⟩ h
              unfold law01FrameWins_k5 at h
              obtain ⟨r102, hx265, h⟩ := obind h
              conv => whnf
              refine CallG.pure _ (law01LawC hN hx265) ?_
              obtain ⟨⟨ra16, rb16, rc4⟩, hx266, h⟩ := obind h
              conv => whnf
              refine Side.mk rfl ?_
              conv => whnf
              refine CallG.pure _ (frameAheadC hN hx266) ?_
              obtain ⟨⟨v55, l72⟩, hx271, h⟩ := obind h
              conv => whnf
              refine SeqG.mk Unit (fun y => [(10, .d (.list 1 (List.map I ra2))), (11, .d (.list 1 (List.map I rb2))), (14, .sl 155 hd214), (180, .d (.bool v55))]) (fun y => [(155, .arr hd214 3 1 true (List.map I l72))]) (fun _ => True) ?_ ?_
              · conv => whnf
                refine Br.mk (fun hc122 => ?_) (fun hc122 => ?_)
                · replace hx271 := ite_f hc122 hx271
                  obtain ⟨r106, hx272, hx271⟩ := obind hx271
                  conv => whnf
                  refine Side.mk rfl ?_
                  conv => whnf
                  refine CallG.pure _ (law01IntsC hN hx272) ?_
                  conv => whnf
                  refine Br.mk (fun hc123 => ?_) (fun hc123 => ?_)
                  · replace hx271 := ite_f hc123 hx271
                    conv => whnf
                    refine Ln.mk _ (List.length_map _) ?_
                    conv => whnf
                    refine Side.mk rfl (Ln.mk _ (List.length_map _) ?_)
                    cases hx271
                    conv => whnf
                    refine ⟨(), trivial, Sub.eq rfl ?_ ?_⟩
                    · repeat ((conv => whnf); refine Need.mk rfl ?_)
                      exact trivial
                    · conv => whnf
                      refine Need.mk (OLe.refl _) ?_
                      exact trivial
                  · replace hx271 := ite_t hc123 hx271
                    cases hx271
                    conv => whnf
                    refine ⟨(), trivial, Sub.eq rfl ?_ ?_⟩
                    · repeat ((conv => whnf); refine Need.mk rfl ?_)
                      exact trivial
                    · conv => whnf
                      refine Need.mk (OLe.refl _) ?_
                      exact trivial
                · replace hx271 := ite_t hc122 hx271
                  cases hx271
                  conv => whnf
                  refine ⟨(), trivial, Sub.eq rfl ?_ ?_⟩
                  · repeat ((conv => whnf); refine Need.mk rfl ?_)
                    exact trivial
                  · conv => whnf
                    refine Need.mk (OLe.arr _ _ _ _ _) ?_
                    exact trivial
              · rintro _ _
                conv => whnf
                refine Br.mk (fun hc124 => ?_) (fun hc124 => ?_)
                · replace h := ite_t hc124 h
                  conv => whnf
                  cases h
                  exact rfl
                · replace h := ite_f hc124 h
                  conv => whnf
                  refine SeqG.mk Unit (fun y => []) (fun y => []) (fun y => law01FrameWins_k1 N = some r) ?_ ?_
                  · conv => whnf
                    refine LoopG.mk (Nat × Int) (fun y => [(10, .d (.list 1 (List.map I ra2))), (11, .d (.list 1 (List.map I rb2))), (14, .sl 155 hd214), (22, .d (I y.2))]) (fun y => [(155, .arr hd214 3 1 true (List.map I l72))]) (fun y => loopN (fun rr x => law01FrameWins_b4 N ra2 rb2 l72 rr x) y.1 y.2 = some r) (fun y => y.1) (N, 0) h (Sub.eq rfl ?_ ?_) ?_
                    · repeat ((conv => whnf); refine Need.mk rfl ?_)
                      exact trivial
                    · conv => whnf
                      refine Need.mk (OLe.refl _) ?_
                      exact trivial
                    · rintro ⟨n24, v363⟩ hl24
                      obtain ⟨n24, rfl, hl24⟩ := loopN_some hl24
                      replace hl24 : law01FrameWins_b4 N ra2 rb2 l72 (loopN (fun rr x => law01FrameWins_b4 N ra2 rb2 l72 rr x) n24) v363 = some r := hl24
                      rw [law01FrameWins_b4] at hl24
                      conv => whnf
                      refine Side.mk rfl (Ln.mk _ (List.length_map _) ?_)
                      conv => whnf
                      refine Br.mk (fun hc386 => ?_) (fun hc386 => ?_)
                      · replace hl24 := ite_t hc386 hl24
                        conv => whnf
                        refine SeqG.mk Unit (fun y => [(10, .d (.list 1 (List.map I ra2))), (11, .d (.list 1 (List.map I rb2))), (14, .sl 155 hd214), (22, .d (I v363))]) (fun y => [(155, .arr hd214 3 1 true (List.map I l72))]) (fun y => law01FrameWins_k2 N v363 (loopN (fun rr x => law01FrameWins_b4 N ra2 rb2 l72 rr x) n24) = some r) ?_ ?_
                        · obtain ⟨v408, hx686, hl24⟩ := obind hl24
                          conv => whnf
                          refine SeqG.mk Unit (fun y => [(10, .d (.list 1 (List.map I ra2))), (11, .d (.list 1 (List.map I rb2))), (14, .sl 155 hd214), (22, .d (I v363)), (23, .d (.bool v408))]) (fun y => [(155, .arr hd214 3 1 true (List.map I l72))]) (fun _ => True) ?_ ?_
                          · conv => whnf
                            refine LoopG.mk (Nat × (Bool × Int)) (fun y => [(10, .d (.list 1 (List.map I ra2))), (11, .d (.list 1 (List.map I rb2))), (14, .sl 155 hd214), (22, .d (I v363)), (23, .d (.bool y.2.1)), (24, .d (I y.2.2))]) (fun y => [(155, .arr hd214 3 1 true (List.map I l72))]) (fun y => loopN (fun rr x => law01FrameWins_b3 N ra2 l72 v363 rr x.1 x.2) y.1 y.2 = some v408) (fun y => y.1) (N, (false, 0)) hx686 (Sub.eq rfl ?_ ?_) ?_
                            · repeat ((conv => whnf); refine Need.mk rfl ?_)
                              exact trivial
                            · conv => whnf
                              refine Need.mk (OLe.refl _) ?_
                              exact trivial
                            · rintro ⟨n28, ⟨v420, v421⟩⟩ hl28
                              obtain ⟨n28, rfl, hl28⟩ := loopN_some hl28
                              replace hl28 : law01FrameWins_b3 N ra2 l72 v363 (loopN (fun rr x => law01FrameWins_b3 N ra2 l72 v363 rr x.1 x.2) n28) v420 v421 = some v408 := hl28
                              rw [law01FrameWins_b3] at hl28
                              conv => whnf
                              refine Ln.mk _ (List.length_map _) ?_
                              conv => whnf
                              refine Br.mk (fun hc429 => ?_) (fun hc429 => ?_)
                              · replace hl28 := ite_t hc429 hl28
                                obtain ⟨v422, hx699, hl28⟩ := obind hl28
                                conv => whnf
                                refine SeqG.mk Unit (fun y => [(10, .d (.list 1 (List.map I ra2))), (11, .d (.list 1 (List.map I rb2))), (14, .sl 155 hd214), (22, .d (I v363)), (23, .d (.bool v422)), (24, .d (I v421))]) (fun y => [(155, .arr hd214 3 1 true (List.map I l72))]) (fun _ => True) ?_ ?_
                                · conv => whnf
                                  refine DrawG.mk (.take 0 (.take 1 (.spl 194 (.take 2 (.take 3 (.take 4 (.take 5 (.take 6 (.take 7 (.take 8 (.take 9 (.take 10 (.take 11 (.alt 12 [] .done .nil)))))))))))))) (by kernel_rfl) ?_
                                  conv => whnf
                                  refine Br.mk (fun hc431 => ?_) (fun hc431 => ?_)
                                  · replace hx699 := ite_t hc431 hx699
                                    conv => whnf
                                    refine Both.mk ?_ trivial
                                    cases hx699
                                    conv => whnf
                                    refine ⟨(), trivial, Sub.eq rfl ?_ ?_⟩
                                    · repeat ((conv => whnf); refine Need.mk rfl ?_)
                                      exact trivial
                                    · conv => whnf
                                      refine Need.mk (OLe.refl _) ?_
                                      exact trivial
                                  · replace hx699 := ite_f hc431 hx699
                                    obtain ⟨x397, hx700, hx699⟩ := obind hx699
                                    obtain ⟨x398, hx701, hx699⟩ := obind hx699
                                    conv => whnf
                                    refine Side.mk rfl ⟨_, idx_0 hx700, idx_map _ hx700, ?_⟩
                                    conv => whnf
                                    refine Side.mk ⟨rfl, rfl⟩ (Need.mk (idx_need _ hx701) ?_)
                                    conv => whnf
                                    refine Side.mk ⟨rfl, rfl⟩ ⟨_, Int.natCast_nonneg _, idx_el _ hx701, ?_⟩
                                    conv => whnf
                                    refine Both.mk ?_ trivial
                                    cases hx699
                                    conv => whnf
                                    refine ⟨(), trivial, Sub.eq rfl ?_ ?_⟩
                                    · repeat ((conv => whnf); refine Need.mk rfl ?_)
                                      exact trivial
                                    · conv => whnf
                                      refine Need.mk (OLe.refl _) ?_
                                      exact trivial
                                · rintro _ _
                                  conv => whnf
                                  refine ⟨(n28, (v422, w64 (v421 + 1))), hl28, Sub.eq rfl ?_ ?_, Nat.lt_succ_self _⟩
                                  · repeat ((conv => whnf); refine Need.mk rfl ?_)
                                    exact trivial
                                  · conv => whnf
                                    refine Need.mk (OLe.refl _) ?_
                                    exact trivial
                              · replace hl28 := ite_f hc429 hl28
                                cases hl28
                                conv => whnf
                                refine ⟨(), trivial, Sub.eq rfl ?_ ?_⟩
                                · repeat ((conv => whnf); refine Need.mk rfl ?_)
                                  exact trivial
                                · conv => whnf
                                  refine Need.mk (OLe.refl _) ?_
                                  exact trivial
                          · rintro _ _
                            obtain ⟨v423, hx704, hl24⟩ := obind hl24
                            conv => whnf
                            refine SeqG.mk Unit (fun y => [(10, .d (.list 1 (List.map I ra2))), (11, .d (.list 1 (List.map I rb2))), (14, .sl 155 hd214), (22, .d (I v363)), (221, .d (.bool v423))]) (fun y => [(155, .arr hd214 3 1 true (List.map I l72))]) (fun _ => True) ?_ ?_
                            · conv => whnf
                              refine DrawG.mk (.take 0 (.take 1 (.take 2 (.spl 207 (.take 3 (.take 4 (.take 5 (.take 6 (.spl 211 (.take 7 (.take 8 (.take 9 (.take 10 (.take 11 (.take 12 (.take 13 (.take 14 (.take 15 (.take 16 .done))))))))))))))))))) (by kernel_rfl) ?_
                              conv => whnf
                              refine Br.mk (fun hc434 => ?_) (fun hc434 => ?_)
                              · replace hx704 := ite_t hc434 hx704
                                cases hx704
                                conv => whnf
                                refine ⟨(), trivial, Sub.eq rfl ?_ ?_⟩
                                · repeat ((conv => whnf); refine Need.mk rfl ?_)
                                  exact trivial
                                · conv => whnf
                                  refine Need.mk (OLe.refl _) ?_
                                  exact trivial
                              · replace hx704 := ite_f hc434 hx704
                                conv => whnf
                                refine Ln.mk _ (List.length_map _) ?_
                                conv => whnf
                                refine Br.mk (fun hc435 => ?_) (fun hc435 => ?_)
                                · replace hx704 := ite_t hc435 hx704
                                  obtain ⟨x401, hx705, hx704⟩ := obind hx704
                                  obtain ⟨x402, hx706, hx704⟩ := obind hx704
                                  conv => whnf
                                  refine Side.mk ⟨rfl, rfl⟩ (Need.mk (idx_need _ hx705) ?_)
                                  conv => whnf
                                  refine Side.mk ⟨rfl, rfl⟩ ⟨_, Int.natCast_nonneg _, idx_el _ hx705, ?_⟩
                                  conv => whnf
                                  refine Side.mk rfl ⟨_, idx_0 hx706, idx_map _ hx706, ?_⟩
                                  cases hx704
                                  conv => whnf
                                  refine ⟨(), trivial, Sub.eq rfl ?_ ?_⟩
                                  · repeat ((conv => whnf); refine Need.mk rfl ?_)
                                    exact trivial
                                  · conv => whnf
                                    refine Need.mk (OLe.refl _) ?_
                                    exact trivial
                                · replace hx704 := ite_f hc435 hx704
                                  cases hx704
                                  conv => whnf
                                  refine ⟨(), trivial, Sub.eq rfl ?_ ?_⟩
                                  · repeat ((conv => whnf); refine Need.mk rfl ?_)
                                    exact trivial
                                  · conv => whnf
                                    refine Need.mk (OLe.refl _) ?_
                                    exact trivial
                            · rintro _ _
                              conv => whnf
                              refine Br.mk (fun hc436 => ?_) (fun hc436 => ?_)
                              · replace hl24 := ite_t hc436 hl24
                                conv => whnf
                                cases hl24
                                exact rfl
                              · replace hl24 := ite_f hc436 hl24
                                conv => whnf
                                refine ⟨(), hl24, Sub.eq rfl ?_ ?_⟩
                                · repeat ((conv => whnf); refine Need.mk rfl ?_)
                                  exact trivial
                                · conv => whnf
                                  refine Need.mk (OLe.refl _) ?_
                                  exact trivial
                        · rintro _ h
                          unfold law01FrameWins_k2 at h
                          conv => whnf
                          refine ⟨(n24, w64 (v363 + 1)), h, Sub.eq rfl ?_ ?_, Nat.lt_succ_self _⟩
                          · repeat ((conv => whnf); refine Need.mk rfl ?_)
                            exact trivial
                          · conv => whnf
                            refine Need.mk (OLe.refl _) ?_
                            exact trivial
                      · replace hl24 := ite_f hc386 hl24
                        conv => whnf
                        refine ⟨(), hl24, Sub.eq rfl ?_ ?_⟩
                        · repeat ((conv => whnf); refine Need.mk rfl ?_)
                          exact trivial
                        · exact trivial
                  · clear h
                    rintro _ h
                    unfold law01FrameWins_k1 at h
                    obtain ⟨r108, hx490, h⟩ := obind h
                    conv => whnf
                    refine CallG.pure _ (law01WakesC hN hx490) ?_
                    conv => whnf
                    cases h
                    exact rfl
end Go.Proofs.Ythjafigloabfpaa
