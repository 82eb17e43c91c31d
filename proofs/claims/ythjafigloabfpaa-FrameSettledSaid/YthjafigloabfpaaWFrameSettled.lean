/-
  The walk of the law FrameSettled.
-/
import Derived.Test.YthjafigloabfpaaDFrameSettled
import Derived.Test.YthjafigloabfpaaWd
namespace Go.Proofs.Ythjafigloabfpaa
open Go Go.Abs Go.Kp
set_option maxRecDepth 100000
set_option maxHeartbeats 8000000
set_option linter.all false

theorem law01FrameSettledC {N : Nat} (hN : N ≤ 1073741824) {a1 : Ref01Law} {a2 : List Int} {a3 : List Int} {r : Bool} (h : law01FrameSettled N a1 a2 a3 = some r) :
    ACalls Try.prog 9 [.d (.agg [I a1.fFrames, I a1.fPins, I a1.fBalls, I a1.fTap]), .d (.list 1 (List.map I a2)), .d (.list 1 (List.map (fun x => .int .u8 x) a3))] [] fun e os => e = .ret (.d (.bool r)) ∧ os = [] := by
  refine acalls_f (fresh := false) tt_ok dr_ok ⟨[3], [], [], [], [8, 9, 17, 1005, 1008, 1011], 0⟩ Try.func9 rfl Try.call9 rfl ?_
  unfold law01FrameSettled at h
  obtain ⟨r6, hx6, h⟩ := obind h
  conv => whnf
  refine CallG.pure _ (law01ReadyC hN hx6) ?_
  conv => whnf
  refine Br.mk (fun hc2 => ?_) (fun hc2 => ?_)
  · replace h := ite_t hc2 h
    obtain ⟨r8, hx8, h⟩ := obind h
    conv => whnf
    refine CallG.pure _ (law01WakesC hN hx8) ?_
    conv => whnf
    cases h
    exact rfl
  · replace h := ite_f hc2 h
    obtain ⟨r10, hx10, h⟩ := obind h
    conv => whnf
    refine CallG.pure _ (law01EndedC hN hx10) ?_
    conv => whnf
    refine SeqG.mk (List Int) (fun y => [(3, .d (.ref (.agg [I a1.fFrames, I a1.fPins, I a1.fBalls, I a1.fTap]))), (8, .d (.list 1 (List.map I y)))]) (fun y => []) (fun y => law01FrameSettled_k1 N a1 y = some r) ?_ ?_
    · conv => whnf
      refine LoopG.mk (Nat × ((List Int) × Int)) (fun y => [(3, .d (.ref (.agg [I a1.fFrames, I a1.fPins, I a1.fBalls, I a1.fTap]))), (7, .d (.list 1 (List.map I r10))), (8, .d (.list 1 (List.map I y.2.1))), (9, .d (I y.2.2))]) (fun y => []) (fun y => loopN (fun rr x => law01FrameSettled_b5 N a1 r10 rr x.1 x.2) y.1 y.2 = some r) (fun y => y.1) (N, ([], 0)) h (Sub.eq rfl ?_ ?_) ?_
      · repeat ((conv => whnf); refine Need.mk rfl ?_)
        exact trivial
      · exact trivial
      · rintro ⟨n14, ⟨v100, v101⟩⟩ hl14
        obtain ⟨n14, rfl, hl14⟩ := loopN_some hl14
        replace hl14 : law01FrameSettled_b5 N a1 r10 (loopN (fun rr x => law01FrameSettled_b5 N a1 r10 rr x.1 x.2) n14) v100 v101 = some r := hl14
        rw [law01FrameSettled_b5] at hl14
        conv => whnf
        refine Ln.mk _ (List.length_map _) ?_
        conv => whnf
        refine Br.mk (fun hc260 => ?_) (fun hc260 => ?_)
        · replace hl14 := ite_t hc260 hl14
          conv => whnf
          refine SeqG.mk (List Int) (fun y => [(3, .d (.ref (.agg [I a1.fFrames, I a1.fPins, I a1.fBalls, I a1.fTap]))), (7, .d (.list 1 (List.map I r10))), (8, .d (.list 1 (List.map I y))), (9, .d (I v101))]) (fun y => []) (fun y => law01FrameSettled_k2 N v101 (loopN (fun rr x => law01FrameSettled_b5 N a1 r10 rr x.1 x.2) n14) y = some r) ?_ ?_
          · obtain ⟨⟨v114, c12⟩, hx479, hl14⟩ := obind hl14
            conv => whnf
            refine SeqG.mk Nat (fun y => [(3, .d (.ref (.agg [I a1.fFrames, I a1.fPins, I a1.fBalls, I a1.fTap]))), (7, .d (.list 1 (List.map I r10))), (8, .d (.list 1 (List.map I v100))), (9, .d (I v101)), (10, .ptr 10 y 0), (11, .d (I v114))]) (fun y => [(10, .cells y [.d (.list 1 (List.map (fun x => .list 1 (List.map I x)) c12.fFrames)), .d (.list 1 (List.map I c12.fCounts)), .d (I c12.fStanding), .d (.bool c12.fDone)])]) (fun _ => True) ?_ ?_
            · obtain ⟨r59, hx480, hx479⟩ := obind hx479
              obtain ⟨l24, hx481, hx479⟩ := obind hx479
              obtain ⟨r60, hx482, hx479⟩ := obind hx479
              obtain ⟨⟨ra24, rb24⟩, hx483, hx479⟩ := obind hx479
              conv => whnf
              refine DrawG.mk (.take 0 (.take 2 (.take 3 (.alt 1 [3, 2] (.alt 4 [] (.alt 5 [] (.alt 6 [] (.take 7 (.take 8 (.take 9 (.alt 10 [9, 8, 7] (.alt 11 [9] (.take 12 .done) .nil) .nil)))) (.alt 10 [] (.alt 6 [] (.take 7 (.take 8 (.take 9 (.alt 11 [9] (.take 12 .done) .nil)))) .nil) .nil)) (.alt 10 [] (.alt 5 [] (.alt 6 [] (.take 7 (.take 8 (.take 9 (.alt 11 [9] (.take 12 .done) .nil)))) .nil) .nil) .nil)) (.alt 10 [3, 2] (.alt 4 [] (.alt 5 [] (.alt 6 [] (.take 7 (.take 8 (.take 9 (.alt 11 [9] (.take 12 .done) .nil)))) .nil) .nil) .nil) .nil)) (.alt 4 [0] (.alt 1 [] (.alt 5 [] (.alt 6 [] (.take 7 (.take 8 (.take 9 (.alt 10 [9, 8, 7] (.alt 11 [9] (.take 12 .done) .nil) .nil)))) (.alt 10 [] (.alt 6 [] (.take 7 (.take 8 (.take 9 (.alt 11 [9] (.take 12 .done) .nil)))) .nil) .nil)) (.alt 10 [] (.alt 5 [] (.alt 6 [] (.take 7 (.take 8 (.take 9 (.alt 11 [9] (.take 12 .done) .nil)))) .nil) .nil) .nil)) (.alt 10 [0] (.alt 1 [] (.alt 5 [] (.alt 6 [] (.take 7 (.take 8 (.take 9 (.alt 11 [9] (.take 12 .done) .nil)))) .nil) .nil) .nil) .nil)) (.alt 10 [3, 2, 0] (.alt 1 [3, 2] (.alt 4 [] (.alt 5 [] (.alt 6 [] (.take 7 (.take 8 (.take 9 (.alt 11 [9] (.take 12 .done) .nil)))) .nil) .nil) .nil) (.alt 4 [0] (.alt 1 [] (.alt 5 [] (.alt 6 [] (.take 7 (.take 8 (.take 9 (.alt 11 [9] (.take 12 .done) .nil)))) .nil) .nil) .nil) .nil)) .nil)))))) (by kernel_rfl) ?_
              conv => whnf
              refine Both.mk ?_ ?_
              · conv => whnf
                refine CallG.pure _ (law01LawC hN hx480) ?_
                conv => whnf
                refine Need.mk (AV.le_refl _) ?_
                conv => whnf
                refine Need.mk (AV.le_refl _) ?_
                conv => whnf
                refine Both.mk ?_ ?_
                · conv => whnf
                  refine Need.mk (slc_need _ hx481) (Eqv.mk (List.map I l24) (slc_map _ hx481) ?_)
                  conv => whnf
                  refine Both.mk ?_ ?_
                  · conv => whnf
                    refine CallG.fresh 34 (law01ListC hN hx482) ?_
                    intro hd209
                    conv => whnf
                    refine Both.mk ?_ ?_
                    · conv => whnf
                      refine Side.mk rfl ?_
                      conv => whnf
                      refine CallG.pure _ (frameReadC hN hx483) ?_
                      conv => whnf
                      refine Both.mk ?_ trivial
                      conv => whnf
                      intro b232
                      conv => whnf
                      refine Need.mk (AV.le_refl _) ?_
                      conv => whnf
                      refine Need.mk (AV.le_refl _) ?_
                      conv => whnf
                      refine Need.mk (AV.le_refl _) ?_
                      conv => whnf
                      refine Both.mk ?_ trivial
                      conv => whnf
                      refine Side.mk rfl ?_
                      conv => whnf
                      refine Need.mk (AV.le_refl _) ?_
                      cases hx479
                      conv => whnf
                      refine ⟨b232, trivial, Sub.eq rfl ?_ ?_⟩
                      · repeat ((conv => whnf); refine Need.mk rfl ?_)
                        exact trivial
                      · conv => whnf
                        refine Need.mk (OLe.refl _) ?_
                        exact trivial
                    · conv => whnf
                      refine Both.mk ?_ trivial
                      conv => whnf
                      intro b233
                      conv => whnf
                      refine Both.mk ?_ trivial
                      conv => whnf
                      refine Side.mk rfl ?_
                      conv => whnf
                      refine CallG.pure _ (frameReadC hN hx483) ?_
                      conv => whnf
                      refine Both.mk ?_ trivial
                      conv => whnf
                      refine Side.mk rfl ?_
                      conv => whnf
                      refine Need.mk (AV.le_refl _) ?_
                      cases hx479
                      conv => whnf
                      refine ⟨b233, trivial, Sub.eq rfl ?_ ?_⟩
                      · repeat ((conv => whnf); refine Need.mk rfl ?_)
                        exact trivial
                      · conv => whnf
                        refine Need.mk (OLe.refl _) ?_
                        exact trivial
                  · conv => whnf
                    refine Both.mk ?_ trivial
                    conv => whnf
                    intro b234
                    conv => whnf
                    refine Both.mk ?_ trivial
                    conv => whnf
                    refine CallG.fresh 34 (law01ListC hN hx482) ?_
                    intro hd210
                    conv => whnf
                    refine Both.mk ?_ trivial
                    conv => whnf
                    refine Side.mk rfl ?_
                    conv => whnf
                    refine CallG.pure _ (frameReadC hN hx483) ?_
                    conv => whnf
                    refine Both.mk ?_ trivial
                    conv => whnf
                    refine Side.mk rfl ?_
                    conv => whnf
                    refine Need.mk (AV.le_refl _) ?_
                    cases hx479
                    conv => whnf
                    refine ⟨b234, trivial, Sub.eq rfl ?_ ?_⟩
                    · repeat ((conv => whnf); refine Need.mk rfl ?_)
                      exact trivial
                    · conv => whnf
                      refine Need.mk (OLe.refl _) ?_
                      exact trivial
                · conv => whnf
                  refine Both.mk ?_ trivial
                  conv => whnf
                  intro b235
                  conv => whnf
                  refine Need.mk (AV.le_refl _) ?_
                  conv => whnf
                  refine Need.mk (AV.le_refl _) ?_
                  conv => whnf
                  refine Both.mk ?_ trivial
                  conv => whnf
                  refine Need.mk (slc_need _ hx481) (Eqv.mk (List.map I l24) (slc_map _ hx481) ?_)
                  conv => whnf
                  refine Both.mk ?_ trivial
                  conv => whnf
                  refine CallG.fresh 34 (law01ListC hN hx482) ?_
                  intro hd211
                  conv => whnf
                  refine Both.mk ?_ trivial
                  conv => whnf
                  refine Side.mk rfl ?_
                  conv => whnf
                  refine CallG.pure _ (frameReadC hN hx483) ?_
                  conv => whnf
                  refine Both.mk ?_ trivial
                  conv => whnf
                  refine Side.mk rfl ?_
                  conv => whnf
                  refine Need.mk (AV.le_refl _) ?_
                  cases hx479
                  conv => whnf
                  refine ⟨b235, trivial, Sub.eq rfl ?_ ?_⟩
                  · repeat ((conv => whnf); refine Need.mk rfl ?_)
                    exact trivial
                  · conv => whnf
                    refine Need.mk (OLe.refl _) ?_
                    exact trivial
              · conv => whnf
                refine Both.mk ?_ ?_
                · conv => whnf
                  refine Need.mk (slc_need _ hx481) (Eqv.mk (List.map I l24) (slc_map _ hx481) ?_)
                  conv => whnf
                  refine Need.mk (AV.le_refl _) ?_
                  conv => whnf
                  refine Both.mk ?_ ?_
                  · conv => whnf
                    refine CallG.pure _ (law01LawC hN hx480) ?_
                    conv => whnf
                    refine Both.mk ?_ ?_
                    · conv => whnf
                      refine CallG.fresh 34 (law01ListC hN hx482) ?_
                      intro hd212
                      conv => whnf
                      refine Both.mk ?_ ?_
                      · conv => whnf
                        refine Side.mk rfl ?_
                        conv => whnf
                        refine CallG.pure _ (frameReadC hN hx483) ?_
                        conv => whnf
                        refine Both.mk ?_ trivial
                        conv => whnf
                        intro b236
                        conv => whnf
                        refine Need.mk (AV.le_refl _) ?_
                        conv => whnf
                        refine Need.mk (AV.le_refl _) ?_
                        conv => whnf
                        refine Need.mk (AV.le_refl _) ?_
                        conv => whnf
                        refine Both.mk ?_ trivial
                        conv => whnf
                        refine Side.mk rfl ?_
                        conv => whnf
                        refine Need.mk (AV.le_refl _) ?_
                        cases hx479
                        conv => whnf
                        refine ⟨b236, trivial, Sub.eq rfl ?_ ?_⟩
                        · repeat ((conv => whnf); refine Need.mk rfl ?_)
                          exact trivial
                        · conv => whnf
                          refine Need.mk (OLe.refl _) ?_
                          exact trivial
                      · conv => whnf
                        refine Both.mk ?_ trivial
                        conv => whnf
                        intro b237
                        conv => whnf
                        refine Both.mk ?_ trivial
                        conv => whnf
                        refine Side.mk rfl ?_
                        conv => whnf
                        refine CallG.pure _ (frameReadC hN hx483) ?_
                        conv => whnf
                        refine Both.mk ?_ trivial
                        conv => whnf
                        refine Side.mk rfl ?_
                        conv => whnf
                        refine Need.mk (AV.le_refl _) ?_
                        cases hx479
                        conv => whnf
                        refine ⟨b237, trivial, Sub.eq rfl ?_ ?_⟩
                        · repeat ((conv => whnf); refine Need.mk rfl ?_)
                          exact trivial
                        · conv => whnf
                          refine Need.mk (OLe.refl _) ?_
                          exact trivial
                    · conv => whnf
                      refine Both.mk ?_ trivial
                      conv => whnf
                      intro b238
                      conv => whnf
                      refine Both.mk ?_ trivial
                      conv => whnf
                      refine CallG.fresh 34 (law01ListC hN hx482) ?_
                      intro hd213
                      conv => whnf
                      refine Both.mk ?_ trivial
                      conv => whnf
                      refine Side.mk rfl ?_
                      conv => whnf
                      refine CallG.pure _ (frameReadC hN hx483) ?_
                      conv => whnf
                      refine Both.mk ?_ trivial
                      conv => whnf
                      refine Side.mk rfl ?_
                      conv => whnf
                      refine Need.mk (AV.le_refl _) ?_
                      cases hx479
                      conv => whnf
                      refine ⟨b238, trivial, Sub.eq rfl ?_ ?_⟩
                      · repeat ((conv => whnf); refine Need.mk rfl ?_)
                        exact trivial
                      · conv => whnf
                        refine Need.mk (OLe.refl _) ?_
                        exact trivial
                  · conv => whnf
                    refine Both.mk ?_ trivial
                    conv => whnf
                    intro b239
                    conv => whnf
                    refine Need.mk (AV.le_refl _) ?_
                    conv => whnf
                    refine Both.mk ?_ trivial
                    conv => whnf
                    refine CallG.pure _ (law01LawC hN hx480) ?_
                    conv => whnf
                    refine Both.mk ?_ trivial
                    conv => whnf
                    refine CallG.fresh 34 (law01ListC hN hx482) ?_
                    intro hd214
                    conv => whnf
                    refine Both.mk ?_ trivial
                    conv => whnf
                    refine Side.mk rfl ?_
                    conv => whnf
                    refine CallG.pure _ (frameReadC hN hx483) ?_
                    conv => whnf
                    refine Both.mk ?_ trivial
                    conv => whnf
                    refine Side.mk rfl ?_
                    conv => whnf
                    refine Need.mk (AV.le_refl _) ?_
                    cases hx479
                    conv => whnf
                    refine ⟨b239, trivial, Sub.eq rfl ?_ ?_⟩
                    · repeat ((conv => whnf); refine Need.mk rfl ?_)
                      exact trivial
                    · conv => whnf
                      refine Need.mk (OLe.refl _) ?_
                      exact trivial
                · conv => whnf
                  refine Both.mk ?_ trivial
                  conv => whnf
                  intro b240
                  conv => whnf
                  refine Need.mk (AV.le_refl _) ?_
                  conv => whnf
                  refine Need.mk (AV.le_refl _) ?_
                  conv => whnf
                  refine Need.mk (AV.le_refl _) ?_
                  conv => whnf
                  refine Both.mk ?_ ?_
                  · conv => whnf
                    refine CallG.pure _ (law01LawC hN hx480) ?_
                    conv => whnf
                    refine Need.mk (AV.le_refl _) ?_
                    conv => whnf
                    refine Need.mk (AV.le_refl _) ?_
                    conv => whnf
                    refine Both.mk ?_ trivial
                    conv => whnf
                    refine Need.mk (slc_need _ hx481) (Eqv.mk (List.map I l24) (slc_map _ hx481) ?_)
                    conv => whnf
                    refine Both.mk ?_ trivial
                    conv => whnf
                    refine CallG.fresh 34 (law01ListC hN hx482) ?_
                    intro hd215
                    conv => whnf
                    refine Both.mk ?_ trivial
                    conv => whnf
                    refine Side.mk rfl ?_
                    conv => whnf
                    refine CallG.pure _ (frameReadC hN hx483) ?_
                    conv => whnf
                    refine Both.mk ?_ trivial
                    conv => whnf
                    refine Side.mk rfl ?_
                    conv => whnf
                    refine Need.mk (AV.le_refl _) ?_
                    cases hx479
                    conv => whnf
                    refine ⟨b240, trivial, Sub.eq rfl ?_ ?_⟩
                    · repeat ((conv => whnf); refine Need.mk rfl ?_)
                      exact trivial
                    · conv => whnf
                      refine Need.mk (OLe.refl _) ?_
                      exact trivial
                  · conv => whnf
                    refine Both.mk ?_ trivial
                    conv => whnf
                    refine Need.mk (slc_need _ hx481) (Eqv.mk (List.map I l24) (slc_map _ hx481) ?_)
                    conv => whnf
                    refine Need.mk (AV.le_refl _) ?_
                    conv => whnf
                    refine Both.mk ?_ trivial
                    conv => whnf
                    refine CallG.pure _ (law01LawC hN hx480) ?_
                    conv => whnf
                    refine Both.mk ?_ trivial
                    conv => whnf
                    refine CallG.fresh 34 (law01ListC hN hx482) ?_
                    intro hd216
                    conv => whnf
                    refine Both.mk ?_ trivial
                    conv => whnf
                    refine Side.mk rfl ?_
                    conv => whnf
                    refine CallG.pure _ (frameReadC hN hx483) ?_
                    conv => whnf
                    refine Both.mk ?_ trivial
                    conv => whnf
                    refine Side.mk rfl ?_
                    conv => whnf
                    refine Need.mk (AV.le_refl _) ?_
                    cases hx479
                    conv => whnf
                    refine ⟨b240, trivial, Sub.eq rfl ?_ ?_⟩
                    · repeat ((conv => whnf); refine Need.mk rfl ?_)
                      exact trivial
                    · conv => whnf
                      refine Need.mk (OLe.refl _) ?_
                      exact trivial
            · rintro bb12 _
              obtain ⟨v116, hx485, hl14⟩ := obind hl14
              conv => whnf
              refine SeqG.mk Unit (fun y => [(3, .d (.ref (.agg [I a1.fFrames, I a1.fPins, I a1.fBalls, I a1.fTap]))), (7, .d (.list 1 (List.map I r10))), (8, .d (.list 1 (List.map I v100))), (9, .d (I v101)), (10, .ptr 10 bb12 0), (56, .d (.bool v116))]) (fun y => [(10, .cells bb12 [.d (.list 1 (List.map (fun x => .list 1 (List.map I x)) c12.fFrames)), .d (.list 1 (List.map I c12.fCounts)), .d (I c12.fStanding), .d (.bool c12.fDone)])]) (fun _ => True) ?_ ?_
              · conv => whnf
                refine Br.mk (fun hc302 => ?_) (fun hc302 => ?_)
                · replace hx485 := ite_f hc302 hx485
                  conv => whnf
                  refine Side.mk rfl ?_
                  conv => whnf
                  refine Ln.mk _ (List.length_map _) ?_
                  conv => whnf
                  refine Ln.mk _ (List.length_map _) ?_
                  conv => whnf
                  refine Br.mk (fun hc303 => ?_) (fun hc303 => ?_)
                  · replace hx485 := ite_f hc303 hx485
                    conv => whnf
                    refine Side.mk rfl ?_
                    conv => whnf
                    refine Ln.mk _ (List.length_map _) ?_
                    conv => whnf
                    refine Ln.mk _ (List.length_map _) ?_
                    cases hx485
                    conv => whnf
                    refine ⟨(), trivial, Sub.eq rfl ?_ ?_⟩
                    · repeat ((conv => whnf); refine Need.mk rfl ?_)
                      exact trivial
                    · conv => whnf
                      refine Need.mk (OLe.refl _) ?_
                      exact trivial
                  · replace hx485 := ite_t hc303 hx485
                    cases hx485
                    conv => whnf
                    refine ⟨(), trivial, Sub.eq rfl ?_ ?_⟩
                    · repeat ((conv => whnf); refine Need.mk rfl ?_)
                      exact trivial
                    · conv => whnf
                      refine Need.mk (OLe.refl _) ?_
                      exact trivial
                · replace hx485 := ite_t hc302 hx485
                  cases hx485
                  conv => whnf
                  refine ⟨(), trivial, Sub.eq rfl ?_ ?_⟩
                  · repeat ((conv => whnf); refine Need.mk rfl ?_)
                    exact trivial
                  · conv => whnf
                    refine Need.mk (OLe.refl _) ?_
                    exact trivial
              · rintro _ _
                conv => whnf
                refine Br.mk (fun hc304 => ?_) (fun hc304 => ?_)
                · replace hl14 := ite_t hc304 hl14
                  conv => whnf
                  cases hl14
                  exact rfl
                · replace hl14 := ite_f hc304 hl14
                  conv => whnf
                  refine SeqG.mk Unit (fun y => [(3, .d (.ref (.agg [I a1.fFrames, I a1.fPins, I a1.fBalls, I a1.fTap]))), (7, .d (.list 1 (List.map I r10))), (9, .d (I v101)), (10, .ptr 10 bb12 0)]) (fun y => [(10, .cells bb12 [.d (.list 1 (List.map (fun x => .list 1 (List.map I x)) c12.fFrames)), .d (.list 1 (List.map I c12.fCounts)), .d (I c12.fStanding), .d (.bool c12.fDone)])]) (fun y => law01FrameSettled_k3 N v101 (loopN (fun rr x => law01FrameSettled_b5 N a1 r10 rr x.1 x.2) n14) c12 = some r) ?_ ?_
                  · conv => whnf
                    refine LoopG.mk (Nat × Int) (fun y => [(3, .d (.ref (.agg [I a1.fFrames, I a1.fPins, I a1.fBalls, I a1.fTap]))), (7, .d (.list 1 (List.map I r10))), (8, .d (.list 1 (List.map I v100))), (9, .d (I v101)), (10, .ptr 10 bb12 0), (12, .d (I y.2))]) (fun y => [(10, .cells bb12 [.d (.list 1 (List.map (fun x => .list 1 (List.map I x)) c12.fFrames)), .d (.list 1 (List.map I c12.fCounts)), .d (I c12.fStanding), .d (.bool c12.fDone)])]) (fun y => loopN (fun rr x => law01FrameSettled_b4 N v100 v101 (loopN (fun rr x => law01FrameSettled_b5 N a1 r10 rr x.1 x.2) n14) c12 rr x) y.1 y.2 = some r) (fun y => y.1) (N, 0) hl14 (Sub.eq rfl ?_ ?_) ?_
                    · repeat ((conv => whnf); refine Need.mk rfl ?_)
                      exact trivial
                    · conv => whnf
                      refine Need.mk (OLe.refl _) ?_
                      exact trivial
                    · rintro ⟨n18, v124⟩ hl18
                      obtain ⟨n18, rfl, hl18⟩ := loopN_some hl18
                      replace hl18 : law01FrameSettled_b4 N v100 v101 (loopN (fun rr x => law01FrameSettled_b5 N a1 r10 rr x.1 x.2) n14) c12 (loopN (fun rr x => law01FrameSettled_b4 N v100 v101 (loopN (fun rr x => law01FrameSettled_b5 N a1 r10 rr x.1 x.2) n14) c12 rr x) n18) v124 = some r := hl18
                      rw [law01FrameSettled_b4] at hl18
                      conv => whnf
                      refine Ln.mk _ (List.length_map _) ?_
                      conv => whnf
                      refine Br.mk (fun hc326 => ?_) (fun hc326 => ?_)
                      · replace hl18 := ite_t hc326 hl18
                        obtain ⟨x383, hx532, hl18⟩ := obind hl18
                        obtain ⟨x384, hx533, hl18⟩ := obind hl18
                        conv => whnf
                        refine DrawG.mk (.take 0 (.take 1 (.take 2 (.take 3 (.take 4 (.take 5 (.take 6 (.take 7 (.take 8 (.take 9 .done)))))))))) (by kernel_rfl) ?_
                        conv => whnf
                        refine Side.mk rfl ?_
                        conv => whnf
                        refine Side.mk rfl ⟨_, idx_0 hx532, idx_map _ hx532, ?_⟩
                        conv => whnf
                        refine Side.mk rfl ⟨_, idx_0 hx533, idx_map _ hx533, ?_⟩
                        conv => whnf
                        refine Br.mk (fun hc328 => ?_) (fun hc328 => ?_)
                        · replace hl18 := ite_t hc328 hl18
                          conv => whnf
                          cases hl18
                          exact rfl
                        · replace hl18 := ite_f hc328 hl18
                          conv => whnf
                          refine ⟨(n18, w64 (v124 + 1)), hl18, Sub.eq rfl ?_ ?_, Nat.lt_succ_self _⟩
                          · repeat ((conv => whnf); refine Need.mk rfl ?_)
                            exact trivial
                          · conv => whnf
                            refine Need.mk (OLe.refl _) ?_
                            exact trivial
                      · replace hl18 := ite_f hc326 hl18
                        conv => whnf
                        refine ⟨(), hl18, Sub.eq rfl ?_ ?_⟩
                        · repeat ((conv => whnf); refine Need.mk rfl ?_)
                          exact trivial
                        · conv => whnf
                          refine Need.mk (OLe.refl _) ?_
                          exact trivial
                  · rintro _ h
                    unfold law01FrameSettled_k3 at h
                    conv => whnf
                    refine Side.mk rfl ?_
                    conv => whnf
                    refine ⟨c12.fCounts, h, Sub.eq rfl ?_ ?_⟩
                    · repeat ((conv => whnf); refine Need.mk rfl ?_)
                      exact trivial
                    · exact trivial
          · rintro v113 h
            unfold law01FrameSettled_k2 at h
            conv => whnf
            refine ⟨(n14, (v113, w64 (v101 + 1))), h, Sub.eq rfl ?_ ?_, Nat.lt_succ_self _⟩
            · repeat ((conv => whnf); refine Need.mk rfl ?_)
              exact trivial
            · exact trivial
        · replace hl14 := ite_f hc260 hl14
          conv => whnf
          refine ⟨v100, hl14, Sub.eq rfl ?_ ?_⟩
          · repeat ((conv => whnf); refine Need.mk rfl ?_)
            exact trivial
          · exact trivial
    · clear h
      rintro v62 h
      unfold law01FrameSettled_k1 at h
      obtain ⟨v63, hx272, h⟩ := obind h
      conv => whnf
      refine SeqG.mk Unit (fun y => [(6, .d (.bool v63))]) (fun y => []) (fun _ => True) ?_ ?_
      · conv => whnf
        refine Ln.mk _ (List.length_map _) ?_
        conv => whnf
        refine Br.mk (fun hc166 => ?_) (fun hc166 => ?_)
        · replace hx272 := ite_t hc166 hx272
          obtain ⟨r36, hx273, hx272⟩ := obind hx272
          conv => whnf
          refine CallG.pure _ (law01WakesC hN hx273) ?_
          cases hx272
          conv => whnf
          refine ⟨(), trivial, Sub.eq rfl ?_ ?_⟩
          · repeat ((conv => whnf); refine Need.mk rfl ?_)
            exact trivial
          · exact trivial
        · replace hx272 := ite_f hc166 hx272
          cases hx272
          conv => whnf
          refine ⟨(), trivial, Sub.eq rfl ?_ ?_⟩
          · repeat ((conv => whnf); refine Need.mk rfl ?_)
            exact trivial
          · exact trivial
      · rintro _ _
        conv => whnf
        cases h
        exact rfl
end Go.Proofs.Ythjafigloabfpaa
