/-
  The walk of the law FrameEndings.
-/
import Derived.Test.YthjafigloabfpaaDFrameEndings
import Derived.Test.YthjafigloabfpaaWd
namespace Go.Proofs.Ythjafigloabfpaa
open Go Go.Abs Go.Kp
set_option maxRecDepth 100000
set_option maxHeartbeats 8000000
set_option linter.all false

theorem law01FrameEndingsC {N : Nat} (hN : N ≤ 1073741824) {a1 : Ref01Law} {a2 : List Int} {a3 : List Int} {r : Bool} (h : law01FrameEndings N a1 a2 a3 = some r) :
    ACalls Try.prog 7 [.d (.agg [I a1.fFrames, I a1.fPins, I a1.fBalls, I a1.fTap]), .d (.list 1 (List.map I a2)), .d (.list 1 (List.map (fun x => .int .u8 x) a3))] [] fun e os => e = .ret (.d (.bool r)) ∧ os = [] := by
  refine acalls_f (fresh := false) tt_ok dr_ok ⟨[3], [], [], [], [6, 9, 19, 25, 26, 29, 1022], 0⟩ Try.func7 rfl Try.call7 rfl ?_
  unfold law01FrameEndings at h
  obtain ⟨r6, hx6, h⟩ := obind h
  conv => whnf
  refine CallG.pure _ (law01ReadyC hN hx6) ?_
  conv => whnf
  refine Br.mk (fun hc2 => ?_) (fun hc2 => ?_)
  · replace h := ite_t hc2 h
    obtain ⟨r8, hx8, h⟩ := obind h
    conv => whnf
    refine CallG.pure _ (law01WakesC hN hx8) ?_
    conv => whnf
    cases h
    exact rfl
  · replace h := ite_f hc2 h
    obtain ⟨r10, hx10, h⟩ := obind h
    conv => whnf
    refine CallG.pure _ (law01EndedC hN hx10) ?_
    obtain ⟨r13, hx14, h⟩ := obind h
    conv => whnf
    refine CallG.pure _ (law01LawC hN hx14) ?_
    obtain ⟨r14, hx15, h⟩ := obind h
    conv => whnf
    refine CallG.fresh 36 (law01ListC hN hx15) ?_
    intro hd2
    obtain ⟨⟨ra2, rb2⟩, hx16, h⟩ := obind h
    conv => whnf
    refine Side.mk rfl ?_
    conv => whnf
    refine CallG.pure _ (frameReadC hN hx16) ?_
    conv => whnf
    intro b2
    conv => whnf
    refine Side.mk rfl ?_
    obtain ⟨r17, hx20, h⟩ := obind h
    conv => whnf
    refine CallG.pure _ (law01LawC hN hx20) ?_
    obtain ⟨r18, hx21, h⟩ := obind h
    conv => whnf
    refine CallG.fresh 44 (law01ListC hN hx21) ?_
    intro hd4
    obtain ⟨⟨ra4, rb4⟩, hx22, h⟩ := obind h
    conv => whnf
    refine Side.mk rfl ?_
    conv => whnf
    refine CallG.pure _ (frameSpanC hN hx22) ?_
    conv => whnf
    intro b4
    conv => whnf
    refine Side.mk rfl ?_
    obtain ⟨v2, hx24, h⟩ := obind h
    conv => whnf
    refine SeqG.mk Unit (fun y => [(1, .d (.list 1 (List.map I a2))), (3, .d (.ref (.agg [I a1.fFrames, I a1.fPins, I a1.fBalls, I a1.fTap]))), (7, .d (.list 1 (List.map I r10))), (8, .ptr 8 b2 0), (10, .ptr 10 b4 0), (66, .d (.bool v2))]) (fun y => [(8, .cells b2 [.d (.list 1 (List.map (fun x => .list 1 (List.map I x)) ra2.fFrames)), .d (.list 1 (List.map I ra2.fCounts)), .d (I ra2.fStanding), .d (.bool ra2.fDone)]), (10, .cells b4 [.d (I ra4.fLo), .d (I ra4.fHi)])]) (fun _ => True) ?_ ?_
    · conv => whnf
      refine Br.mk (fun hc13 => ?_) (fun hc13 => ?_)
      · replace hx24 := ite_f hc13 hx24
        conv => whnf
        refine Side.mk rfl ?_
        conv => whnf
        refine Br.mk (fun hc14 => ?_) (fun hc14 => ?_)
        · replace hx24 := ite_f hc14 hx24
          conv => whnf
          refine Side.mk rfl ?_
          conv => whnf
          refine Ln.mk _ (List.length_map _) ?_
          conv => whnf
          refine Br.mk (fun hc15 => ?_) (fun hc15 => ?_)
          · replace hx24 := ite_f hc15 hx24
            cases hx24
            conv => whnf
            refine ⟨(), trivial, Sub.eq rfl ?_ ?_⟩
            · repeat ((conv => whnf); refine Need.mk rfl ?_)
              exact trivial
            · conv => whnf
              refine Need.mk (OLe.refl _) ?_
              conv => whnf
              refine Need.mk (OLe.refl _) ?_
              exact trivial
          · replace hx24 := ite_t hc15 hx24
            cases hx24
            conv => whnf
            refine ⟨(), trivial, Sub.eq rfl ?_ ?_⟩
            · repeat ((conv => whnf); refine Need.mk rfl ?_)
              exact trivial
            · conv => whnf
              refine Need.mk (OLe.refl _) ?_
              conv => whnf
              refine Need.mk (OLe.refl _) ?_
              exact trivial
        · replace hx24 := ite_t hc14 hx24
          cases hx24
          conv => whnf
          refine ⟨(), trivial, Sub.eq rfl ?_ ?_⟩
          · repeat ((conv => whnf); refine Need.mk rfl ?_)
            exact trivial
          · conv => whnf
            refine Need.mk (OLe.refl _) ?_
            conv => whnf
            refine Need.mk (OLe.refl _) ?_
            exact trivial
      · replace hx24 := ite_t hc13 hx24
        cases hx24
        conv => whnf
        refine ⟨(), trivial, Sub.eq rfl ?_ ?_⟩
        · repeat ((conv => whnf); refine Need.mk rfl ?_)
          exact trivial
        · conv => whnf
          refine Need.mk (OLe.refl _) ?_
          conv => whnf
          refine Need.mk (OLe.refl _) ?_
          exact trivial
    · rintro _ _
      conv => whnf
      refine Br.mk (fun hc16 => ?_) (fun hc16 => ?_)
      · replace h := ite_t hc16 h
        conv => whnf
        cases h
        exact rfl
      · replace h := ite_f hc16 h
        conv => whnf
        refine Side.mk rfl ?_
        obtain ⟨x2, hx26, h⟩ := obind h
        conv => whnf
        refine Side.mk rfl ⟨_, idx_0 hx26, idx_map _ hx26, ?_⟩
        obtain ⟨v4, hx28, h⟩ := obind h
        conv => whnf
        refine SeqG.mk Unit (fun y => [(1, .d (.list 1 (List.map I a2))), (3, .d (.ref (.agg [I a1.fFrames, I a1.fPins, I a1.fBalls, I a1.fTap]))), (7, .d (.list 1 (List.map I r10))), (10, .ptr 10 b4 0), (12, .d (I x2)), (83, .d (.bool v4))]) (fun y => [(10, .cells b4 [.d (I ra4.fLo), .d (I ra4.fHi)])]) (fun _ => True) ?_ ?_
        · conv => whnf
          refine Side.mk rfl ?_
          conv => whnf
          refine Br.mk (fun hc21 => ?_) (fun hc21 => ?_)
          · replace hx28 := ite_f hc21 hx28
            conv => whnf
            refine Side.mk rfl ?_
            cases hx28
            conv => whnf
            refine ⟨(), trivial, Sub.eq rfl ?_ ?_⟩
            · repeat ((conv => whnf); refine Need.mk rfl ?_)
              exact trivial
            · conv => whnf
              refine Need.mk (OLe.refl _) ?_
              exact trivial
          · replace hx28 := ite_t hc21 hx28
            cases hx28
            conv => whnf
            refine ⟨(), trivial, Sub.eq rfl ?_ ?_⟩
            · repeat ((conv => whnf); refine Need.mk rfl ?_)
              exact trivial
            · conv => whnf
              refine Need.mk (OLe.refl _) ?_
              exact trivial
        · rintro _ _
          conv => whnf
          refine Br.mk (fun hc22 => ?_) (fun hc22 => ?_)
          · replace h := ite_t hc22 h
            conv => whnf
            cases h
            exact rfl
          · replace h := ite_f hc22 h
            conv => whnf
            refine LoopG.unr 3 ?_
            conv => whnf
            refine Side.mk rfl ?_
            obtain ⟨r61, hx117, h⟩ := obind h
            conv => whnf
            refine CallG.pure _ (law01LawC hN hx117) ?_
            obtain ⟨r62, hx118, h⟩ := obind h
            conv => whnf
            refine CallG.fresh 98 (law01ListC hN hx118) ?_
            intro hd36
            obtain ⟨⟨ra26, rb26⟩, hx119, h⟩ := obind h
            conv => whnf
            refine Side.mk rfl ?_
            conv => whnf
            refine CallG.pure _ (frameShowsC hN hx119) ?_
            obtain ⟨r65, hx124, h⟩ := obind h
            conv => whnf
            refine CallG.pure _ (law01LawC hN hx124) ?_
            obtain ⟨r66, hx125, h⟩ := obind h
            conv => whnf
            refine CallG.fresh 107 (law01ListC hN hx125) ?_
            intro hd39
            obtain ⟨l12, hx126, h⟩ := obind h
            conv => whnf
            refine Side.mk rfl ?_
            conv => whnf
            refine Side.mk ⟨rfl, rfl, rfl⟩ (Need.mk (app_need hN hx126 (by decide)) (Eqv.mk (List.map I l12) (app_map _ hx126) ?_))
            conv => whnf
            intro hd40
            obtain ⟨⟨ra28, rb28⟩, hx127, h⟩ := obind h
            conv => whnf
            refine Side.mk rfl ?_
            conv => whnf
            refine CallG.pure _ (frameReadC hN hx127) ?_
            conv => whnf
            intro b16
            conv => whnf
            refine Side.mk rfl ?_
            obtain ⟨v10, hx129, h⟩ := obind h
            conv => whnf
            refine SeqG.mk Unit (fun y => [(1, .d (.list 1 (List.map I a2))), (3, .d (.ref (.agg [I a1.fFrames, I a1.fPins, I a1.fBalls, I a1.fTap]))), (7, .d (.list 1 (List.map I r10))), (10, .ptr 10 b4 0), (12, .d (I x2)), (13, .i .i64 0), (142, .d (.bool v10))]) (fun y => [(10, .cells b4 [.d (I ra4.fLo), .d (I ra4.fHi)])]) (fun _ => True) ?_ ?_
            · conv => whnf
              refine Br.mk (fun hc72 => ?_) (fun hc72 => ?_)
              · replace hx129 := ite_f hc72 hx129
                conv => whnf
                refine Br.mk (fun hc73 => ?_) (fun hc73 => ?_)
                · replace hx129 := ite_f hc73 hx129
                  conv => whnf
                  refine Side.mk rfl ?_
                  conv => whnf
                  refine Br.mk (fun hc74 => ?_) (fun hc74 => ?_)
                  · replace hx129 := ite_f hc74 hx129
                    conv => whnf
                    refine Side.mk rfl ?_
                    conv => whnf
                    refine Ln.mk _ (List.length_map _) ?_
                    conv => whnf
                    refine Br.mk (fun hc75 => ?_) (fun hc75 => ?_)
                    · replace hx129 := ite_f hc75 hx129
                      conv => whnf
                      refine Side.mk rfl ?_
                      obtain ⟨x14, hx130, hx129⟩ := obind hx129
                      conv => whnf
                      refine Side.mk rfl ⟨_, idx_0 hx130, idx_map _ hx130, ?_⟩
                      cases hx129
                      conv => whnf
                      refine ⟨(), trivial, Sub.eq rfl ?_ ?_⟩
                      · repeat ((conv => whnf); refine Need.mk rfl ?_)
                        exact trivial
                      · conv => whnf
                        refine Need.mk (OLe.refl _) ?_
                        exact trivial
                    · replace hx129 := ite_t hc75 hx129
                      cases hx129
                      conv => whnf
                      refine ⟨(), trivial, Sub.eq rfl ?_ ?_⟩
                      · repeat ((conv => whnf); refine Need.mk rfl ?_)
                        exact trivial
                      · conv => whnf
                        refine Need.mk (OLe.refl _) ?_
                        exact trivial
                  · replace hx129 := ite_t hc74 hx129
                    cases hx129
                    conv => whnf
                    refine ⟨(), trivial, Sub.eq rfl ?_ ?_⟩
                    · repeat ((conv => whnf); refine Need.mk rfl ?_)
                      exact trivial
                    · conv => whnf
                      refine Need.mk (OLe.refl _) ?_
                      exact trivial
                · replace hx129 := ite_t hc73 hx129
                  cases hx129
                  conv => whnf
                  refine ⟨(), trivial, Sub.eq rfl ?_ ?_⟩
                  · repeat ((conv => whnf); refine Need.mk rfl ?_)
                    exact trivial
                  · conv => whnf
                    refine Need.mk (OLe.refl _) ?_
                    exact trivial
              · replace hx129 := ite_t hc72 hx129
                cases hx129
                conv => whnf
                refine ⟨(), trivial, Sub.eq rfl ?_ ?_⟩
                · repeat ((conv => whnf); refine Need.mk rfl ?_)
                  exact trivial
                · conv => whnf
                  refine Need.mk (OLe.refl _) ?_
                  exact trivial
            · rintro _ _
              conv => whnf
              refine Br.mk (fun hc76 => ?_) (fun hc76 => ?_)
              · replace h := ite_t hc76 h
                conv => whnf
                cases h
                exact rfl
              · replace h := ite_f hc76 h
                conv => whnf
                refine Side.mk rfl ?_
                conv => whnf
                refine Side.mk rfl ?_
                obtain ⟨r77, hx151, h⟩ := obind h
                conv => whnf
                refine CallG.pure _ (law01LawC hN hx151) ?_
                obtain ⟨r78, hx152, h⟩ := obind h
                conv => whnf
                refine CallG.fresh 98 (law01ListC hN hx152) ?_
                intro hd48
                obtain ⟨⟨ra34, rb34⟩, hx153, h⟩ := obind h
                conv => whnf
                refine Side.mk rfl ?_
                conv => whnf
                refine CallG.pure _ (frameShowsC hN hx153) ?_
                obtain ⟨r81, hx158, h⟩ := obind h
                conv => whnf
                refine CallG.pure _ (law01LawC hN hx158) ?_
                obtain ⟨r82, hx159, h⟩ := obind h
                conv => whnf
                refine CallG.fresh 107 (law01ListC hN hx159) ?_
                intro hd51
                obtain ⟨l16, hx160, h⟩ := obind h
                conv => whnf
                refine Side.mk rfl ?_
                conv => whnf
                refine Side.mk ⟨rfl, rfl, rfl⟩ (Need.mk (app_need hN hx160 (by decide)) (Eqv.mk (List.map I l16) (app_map _ hx160) ?_))
                conv => whnf
                intro hd52
                obtain ⟨⟨ra36, rb36⟩, hx161, h⟩ := obind h
                conv => whnf
                refine Side.mk rfl ?_
                conv => whnf
                refine CallG.pure _ (frameReadC hN hx161) ?_
                conv => whnf
                intro b20
                conv => whnf
                refine Side.mk rfl ?_
                obtain ⟨v12, hx163, h⟩ := obind h
                conv => whnf
                refine SeqG.mk Unit (fun y => [(1, .d (.list 1 (List.map I a2))), (3, .d (.ref (.agg [I a1.fFrames, I a1.fPins, I a1.fBalls, I a1.fTap]))), (7, .d (.list 1 (List.map I r10))), (10, .ptr 10 b4 0), (12, .d (I x2)), (13, .i .i64 1), (142, .d (.bool v12))]) (fun y => [(10, .cells b4 [.d (I ra4.fLo), .d (I ra4.fHi)])]) (fun _ => True) ?_ ?_
                · conv => whnf
                  refine Br.mk (fun hc90 => ?_) (fun hc90 => ?_)
                  · replace hx163 := ite_f hc90 hx163
                    conv => whnf
                    refine Br.mk (fun hc91 => ?_) (fun hc91 => ?_)
                    · replace hx163 := ite_f hc91 hx163
                      conv => whnf
                      refine Side.mk rfl ?_
                      conv => whnf
                      refine Br.mk (fun hc92 => ?_) (fun hc92 => ?_)
                      · replace hx163 := ite_f hc92 hx163
                        conv => whnf
                        refine Side.mk rfl ?_
                        conv => whnf
                        refine Ln.mk _ (List.length_map _) ?_
                        conv => whnf
                        refine Br.mk (fun hc93 => ?_) (fun hc93 => ?_)
                        · replace hx163 := ite_f hc93 hx163
                          conv => whnf
                          refine Side.mk rfl ?_
                          obtain ⟨x18, hx164, hx163⟩ := obind hx163
                          conv => whnf
                          refine Side.mk rfl ⟨_, idx_0 hx164, idx_map _ hx164, ?_⟩
                          cases hx163
                          conv => whnf
                          refine ⟨(), trivial, Sub.eq rfl ?_ ?_⟩
                          · repeat ((conv => whnf); refine Need.mk rfl ?_)
                            exact trivial
                          · conv => whnf
                            refine Need.mk (OLe.refl _) ?_
                            exact trivial
                        · replace hx163 := ite_t hc93 hx163
                          cases hx163
                          conv => whnf
                          refine ⟨(), trivial, Sub.eq rfl ?_ ?_⟩
                          · repeat ((conv => whnf); refine Need.mk rfl ?_)
                            exact trivial
                          · conv => whnf
                            refine Need.mk (OLe.refl _) ?_
                            exact trivial
                      · replace hx163 := ite_t hc92 hx163
                        cases hx163
                        conv => whnf
                        refine ⟨(), trivial, Sub.eq rfl ?_ ?_⟩
                        · repeat ((conv => whnf); refine Need.mk rfl ?_)
                          exact trivial
                        · conv => whnf
                          refine Need.mk (OLe.refl _) ?_
                          exact trivial
                    · replace hx163 := ite_t hc91 hx163
                      cases hx163
                      conv => whnf
                      refine ⟨(), trivial, Sub.eq rfl ?_ ?_⟩
                      · repeat ((conv => whnf); refine Need.mk rfl ?_)
                        exact trivial
                      · conv => whnf
                        refine Need.mk (OLe.refl _) ?_
                        exact trivial
                  · replace hx163 := ite_t hc90 hx163
                    cases hx163
                    conv => whnf
                    refine ⟨(), trivial, Sub.eq rfl ?_ ?_⟩
                    · repeat ((conv => whnf); refine Need.mk rfl ?_)
                      exact trivial
                    · conv => whnf
                      refine Need.mk (OLe.refl _) ?_
                      exact trivial
                · rintro _ _
                  conv => whnf
                  refine Br.mk (fun hc94 => ?_) (fun hc94 => ?_)
                  · replace h := ite_t hc94 h
                    conv => whnf
                    cases h
                    exact rfl
                  · replace h := ite_f hc94 h
                    conv => whnf
                    refine Side.mk rfl ?_
                    conv => whnf
                    intro b22
                    conv => whnf
                    refine Side.mk rfl ?_
                    conv => whnf
                    refine SeqG.mk FrameRange (fun y => [(12, .d (I x2)), (19, .ptr 19 b22 0)]) (fun y => [(19, .cells b22 [.d (I y.fLo), .d (I y.fHi)])]) (fun y => law01FrameEndings_k1 N x2 y = some r) ?_ ?_
                    · conv => whnf
                      refine Ln.mk _ (List.length_map _) ?_
                      conv => whnf
                      refine LoopG.mk (Nat × (Int × FrameRange)) (fun y => [(3, .d (.ref (.agg [I a1.fFrames, I a1.fPins, I a1.fBalls, I a1.fTap]))), (7, .d (.list 1 (List.map I r10))), (12, .d (I x2)), (19, .ptr 19 b22 0), (20, .d (I y.2.1))]) (fun y => [(19, .cells b22 [.d (I y.2.2.fLo), .d (I y.2.2.fHi)])]) (fun y => loopN (fun rr x => law01FrameEndings_b2 N a1 r10 x2 rr x.1 x.2) y.1 y.2 = some r) (fun y => y.1) (N, ((a2.length : Int), ra4)) h (Sub.eq rfl ?_ ?_) ?_
                      · repeat ((conv => whnf); refine Need.mk rfl ?_)
                        exact trivial
                      · conv => whnf
                        refine Need.mk (OLe.refl _) ?_
                        exact trivial
                      · rintro ⟨n2, ⟨v53, c19⟩⟩ hl2
                        obtain ⟨n2, rfl, hl2⟩ := loopN_some hl2
                        replace hl2 : law01FrameEndings_b2 N a1 r10 x2 (loopN (fun rr x => law01FrameEndings_b2 N a1 r10 x2 rr x.1 x.2) n2) v53 c19 = some r := hl2
                        rw [law01FrameEndings_b2] at hl2
                        conv => whnf
                        refine Ln.mk _ (List.length_map _) ?_
                        conv => whnf
                        refine Br.mk (fun hc250 => ?_) (fun hc250 => ?_)
                        · replace hl2 := ite_t hc250 hl2
                          obtain ⟨⟨v57, c21⟩, hx293, hl2⟩ := obind hl2
                          conv => whnf
                          refine SeqG.mk Nat (fun y => [(3, .d (.ref (.agg [I a1.fFrames, I a1.fPins, I a1.fBalls, I a1.fTap]))), (7, .d (.list 1 (List.map I r10))), (12, .d (I x2)), (19, .ptr 19 b22 0), (20, .d (I v53)), (21, .ptr 21 y 0), (22, .d (I v57))]) (fun y => [(19, .cells b22 [.d (I c19.fLo), .d (I c19.fHi)]), (21, .cells y [.d (I c21.fLo), .d (I c21.fHi)])]) (fun _ => True) ?_ ?_
                          · obtain ⟨r131, hx294, hx293⟩ := obind hx293
                            obtain ⟨l40, hx295, hx293⟩ := obind hx293
                            obtain ⟨r132, hx296, hx293⟩ := obind hx293
                            obtain ⟨⟨ra60, rb60⟩, hx297, hx293⟩ := obind hx293
                            conv => whnf
                            refine DrawG.mk (.take 0 (.take 2 (.take 3 (.alt 1 [3, 2] (.alt 4 [] (.alt 5 [] (.alt 6 [] (.take 7 (.take 8 (.take 9 (.alt 10 [9, 8, 7] (.alt 11 [9] (.take 12 .done) .nil) .nil)))) (.alt 10 [] (.alt 6 [] (.take 7 (.take 8 (.take 9 (.alt 11 [9] (.take 12 .done) .nil)))) .nil) .nil)) (.alt 10 [] (.alt 5 [] (.alt 6 [] (.take 7 (.take 8 (.take 9 (.alt 11 [9] (.take 12 .done) .nil)))) .nil) .nil) .nil)) (.alt 10 [3, 2] (.alt 4 [] (.alt 5 [] (.alt 6 [] (.take 7 (.take 8 (.take 9 (.alt 11 [9] (.take 12 .done) .nil)))) .nil) .nil) .nil) .nil)) (.alt 4 [0] (.alt 1 [] (.alt 5 [] (.alt 6 [] (.take 7 (.take 8 (.take 9 (.alt 10 [9, 8, 7] (.alt 11 [9] (.take 12 .done) .nil) .nil)))) (.alt 10 [] (.alt 6 [] (.take 7 (.take 8 (.take 9 (.alt 11 [9] (.take 12 .done) .nil)))) .nil) .nil)) (.alt 10 [] (.alt 5 [] (.alt 6 [] (.take 7 (.take 8 (.take 9 (.alt 11 [9] (.take 12 .done) .nil)))) .nil) .nil) .nil)) (.alt 10 [0] (.alt 1 [] (.alt 5 [] (.alt 6 [] (.take 7 (.take 8 (.take 9 (.alt 11 [9] (.take 12 .done) .nil)))) .nil) .nil) .nil) .nil)) (.alt 10 [3, 2, 0] (.alt 1 [3, 2] (.alt 4 [] (.alt 5 [] (.alt 6 [] (.take 7 (.take 8 (.take 9 (.alt 11 [9] (.take 12 .done) .nil)))) .nil) .nil) .nil) (.alt 4 [0] (.alt 1 [] (.alt 5 [] (.alt 6 [] (.take 7 (.take 8 (.take 9 (.alt 11 [9] (.take 12 .done) .nil)))) .nil) .nil) .nil) .nil)) .nil)))))) (by kernel_rfl) ?_
                            conv => whnf
                            refine Both.mk ?_ ?_
                            · conv => whnf
                              refine CallG.pure _ (law01LawC hN hx294) ?_
                              conv => whnf
                              refine Need.mk (AV.le_refl _) ?_
                              conv => whnf
                              refine Need.mk (AV.le_refl _) ?_
                              conv => whnf
                              refine Both.mk ?_ ?_
                              · conv => whnf
                                refine Need.mk (slc_need _ hx295) (Eqv.mk (List.map I l40) (slc_map _ hx295) ?_)
                                conv => whnf
                                refine Both.mk ?_ ?_
                                · conv => whnf
                                  refine CallG.fresh 158 (law01ListC hN hx296) ?_
                                  intro hd261
                                  conv => whnf
                                  refine Both.mk ?_ ?_
                                  · conv => whnf
                                    refine Side.mk rfl ?_
                                    conv => whnf
                                    refine CallG.pure _ (frameSpanC hN hx297) ?_
                                    conv => whnf
                                    refine Both.mk ?_ trivial
                                    conv => whnf
                                    intro b254
                                    conv => whnf
                                    refine Need.mk (AV.le_refl _) ?_
                                    conv => whnf
                                    refine Need.mk (AV.le_refl _) ?_
                                    conv => whnf
                                    refine Need.mk (AV.le_refl _) ?_
                                    conv => whnf
                                    refine Both.mk ?_ trivial
                                    conv => whnf
                                    refine Side.mk rfl ?_
                                    conv => whnf
                                    refine Need.mk (AV.le_refl _) ?_
                                    cases hx293
                                    conv => whnf
                                    refine ⟨b254, trivial, Sub.eq rfl ?_ ?_⟩
                                    · repeat ((conv => whnf); refine Need.mk rfl ?_)
                                      exact trivial
                                    · conv => whnf
                                      refine Need.mk (OLe.refl _) ?_
                                      conv => whnf
                                      refine Need.mk (OLe.refl _) ?_
                                      exact trivial
                                  · conv => whnf
                                    refine Both.mk ?_ trivial
                                    conv => whnf
                                    intro b255
                                    conv => whnf
                                    refine Both.mk ?_ trivial
                                    conv => whnf
                                    refine Side.mk rfl ?_
                                    conv => whnf
                                    refine CallG.pure _ (frameSpanC hN hx297) ?_
                                    conv => whnf
                                    refine Both.mk ?_ trivial
                                    conv => whnf
                                    refine Side.mk rfl ?_
                                    conv => whnf
                                    refine Need.mk (AV.le_refl _) ?_
                                    cases hx293
                                    conv => whnf
                                    refine ⟨b255, trivial, Sub.eq rfl ?_ ?_⟩
                                    · repeat ((conv => whnf); refine Need.mk rfl ?_)
                                      exact trivial
                                    · conv => whnf
                                      refine Need.mk (OLe.refl _) ?_
                                      conv => whnf
                                      refine Need.mk (OLe.refl _) ?_
                                      exact trivial
                                · conv => whnf
                                  refine Both.mk ?_ trivial
                                  conv => whnf
                                  intro b256
                                  conv => whnf
                                  refine Both.mk ?_ trivial
                                  conv => whnf
                                  refine CallG.fresh 158 (law01ListC hN hx296) ?_
                                  intro hd262
                                  conv => whnf
                                  refine Both.mk ?_ trivial
                                  conv => whnf
                                  refine Side.mk rfl ?_
                                  conv => whnf
                                  refine CallG.pure _ (frameSpanC hN hx297) ?_
                                  conv => whnf
                                  refine Both.mk ?_ trivial
                                  conv => whnf
                                  refine Side.mk rfl ?_
                                  conv => whnf
                                  refine Need.mk (AV.le_refl _) ?_
                                  cases hx293
                                  conv => whnf
                                  refine ⟨b256, trivial, Sub.eq rfl ?_ ?_⟩
                                  · repeat ((conv => whnf); refine Need.mk rfl ?_)
                                    exact trivial
                                  · conv => whnf
                                    refine Need.mk (OLe.refl _) ?_
                                    conv => whnf
                                    refine Need.mk (OLe.refl _) ?_
                                    exact trivial
                              · conv => whnf
                                refine Both.mk ?_ trivial
                                conv => whnf
                                intro b257
                                conv => whnf
                                refine Need.mk (AV.le_refl _) ?_
                                conv => whnf
                                refine Need.mk (AV.le_refl _) ?_
                                conv => whnf
                                refine Both.mk ?_ trivial
                                conv => whnf
                                refine Need.mk (slc_need _ hx295) (Eqv.mk (List.map I l40) (slc_map _ hx295) ?_)
                                conv => whnf
                                refine Both.mk ?_ trivial
                                conv => whnf
                                refine CallG.fresh 158 (law01ListC hN hx296) ?_
                                intro hd263
                                conv => whnf
                                refine Both.mk ?_ trivial
                                conv => whnf
                                refine Side.mk rfl ?_
                                conv => whnf
                                refine CallG.pure _ (frameSpanC hN hx297) ?_
                                conv => whnf
                                refine Both.mk ?_ trivial
                                conv => whnf
                                refine Side.mk rfl ?_
                                conv => whnf
                                refine Need.mk (AV.le_refl _) ?_
                                cases hx293
                                conv => whnf
                                refine ⟨b257, trivial, Sub.eq rfl ?_ ?_⟩
                                · repeat ((conv => whnf); refine Need.mk rfl ?_)
                                  exact trivial
                                · conv => whnf
                                  refine Need.mk (OLe.refl _) ?_
                                  conv => whnf
                                  refine Need.mk (OLe.refl _) ?_
                                  exact trivial
                            · conv => whnf
                              refine Both.mk ?_ ?_
                              · conv => whnf
                                refine Need.mk (slc_need _ hx295) (Eqv.mk (List.map I l40) (slc_map _ hx295) ?_)
                                conv => whnf
                                refine Need.mk (AV.le_refl _) ?_
                                conv => whnf
                                refine Both.mk ?_ ?_
                                · conv => whnf
                                  refine CallG.pure _ (law01LawC hN hx294) ?_
                                  conv => whnf
                                  refine Both.mk ?_ ?_
                                  · conv => whnf
                                    refine CallG.fresh 158 (law01ListC hN hx296) ?_
                                    intro hd264
                                    conv => whnf
                                    refine Both.mk ?_ ?_
                                    · conv => whnf
                                      refine Side.mk rfl ?_
                                      conv => whnf
                                      refine CallG.pure _ (frameSpanC hN hx297) ?_
                                      conv => whnf
                                      refine Both.mk ?_ trivial
                                      conv => whnf
                                      intro b258
                                      conv => whnf
                                      refine Need.mk (AV.le_refl _) ?_
                                      conv => whnf
                                      refine Need.mk (AV.le_refl _) ?_
                                      conv => whnf
                                      refine Need.mk (AV.le_refl _) ?_
                                      conv => whnf
                                      refine Both.mk ?_ trivial
                                      conv => whnf
                                      refine Side.mk rfl ?_
                                      conv => whnf
                                      refine Need.mk (AV.le_refl _) ?_
                                      cases hx293
                                      conv => whnf
                                      refine ⟨b258, trivial, Sub.eq rfl ?_ ?_⟩
                                      · repeat ((conv => whnf); refine Need.mk rfl ?_)
                                        exact trivial
                                      · conv => whnf
                                        refine Need.mk (OLe.refl _) ?_
                                        conv => whnf
                                        refine Need.mk (OLe.refl _) ?_
                                        exact trivial
                                    · conv => whnf
                                      refine Both.mk ?_ trivial
                                      conv => whnf
                                      intro b259
                                      conv => whnf
                                      refine Both.mk ?_ trivial
                                      conv => whnf
                                      refine Side.mk rfl ?_
                                      conv => whnf
                                      refine CallG.pure _ (frameSpanC hN hx297) ?_
                                      conv => whnf
                                      refine Both.mk ?_ trivial
                                      conv => whnf
                                      refine Side.mk rfl ?_
                                      conv => whnf
                                      refine Need.mk (AV.le_refl _) ?_
                                      cases hx293
                                      conv => whnf
                                      refine ⟨b259, trivial, Sub.eq rfl ?_ ?_⟩
                                      · repeat ((conv => whnf); refine Need.mk rfl ?_)
                                        exact trivial
                                      · conv => whnf
                                        refine Need.mk (OLe.refl _) ?_
                                        conv => whnf
                                        refine Need.mk (OLe.refl _) ?_
                                        exact trivial
                                  · conv => whnf
                                    refine Both.mk ?_ trivial
                                    conv => whnf
                                    intro b260
                                    conv => whnf
                                    refine Both.mk ?_ trivial
                                    conv => whnf
                                    refine CallG.fresh 158 (law01ListC hN hx296) ?_
                                    intro hd265
                                    conv => whnf
                                    refine Both.mk ?_ trivial
                                    conv => whnf
                                    refine Side.mk rfl ?_
                                    conv => whnf
                                    refine CallG.pure _ (frameSpanC hN hx297) ?_
                                    conv => whnf
                                    refine Both.mk ?_ trivial
                                    conv => whnf
                                    refine Side.mk rfl ?_
                                    conv => whnf
                                    refine Need.mk (AV.le_refl _) ?_
                                    cases hx293
                                    conv => whnf
                                    refine ⟨b260, trivial, Sub.eq rfl ?_ ?_⟩
                                    · repeat ((conv => whnf); refine Need.mk rfl ?_)
                                      exact trivial
                                    · conv => whnf
                                      refine Need.mk (OLe.refl _) ?_
                                      conv => whnf
                                      refine Need.mk (OLe.refl _) ?_
                                      exact trivial
                                · conv => whnf
                                  refine Both.mk ?_ trivial
                                  conv => whnf
                                  intro b261
                                  conv => whnf
                                  refine Need.mk (AV.le_refl _) ?_
                                  conv => whnf
                                  refine Both.mk ?_ trivial
                                  conv => whnf
                                  refine CallG.pure _ (law01LawC hN hx294) ?_
                                  conv => whnf
                                  refine Both.mk ?_ trivial
                                  conv => whnf
                                  refine CallG.fresh 158 (law01ListC hN hx296) ?_
                                  intro hd266
                                  conv => whnf
                                  refine Both.mk ?_ trivial
                                  conv => whnf
                                  refine Side.mk rfl ?_
                                  conv => whnf
                                  refine CallG.pure _ (frameSpanC hN hx297) ?_
                                  conv => whnf
                                  refine Both.mk ?_ trivial
                                  conv => whnf
                                  refine Side.mk rfl ?_
                                  conv => whnf
                                  refine Need.mk (AV.le_refl _) ?_
                                  cases hx293
                                  conv => whnf
                                  refine ⟨b261, trivial, Sub.eq rfl ?_ ?_⟩
                                  · repeat ((conv => whnf); refine Need.mk rfl ?_)
                                    exact trivial
                                  · conv => whnf
                                    refine Need.mk (OLe.refl _) ?_
                                    conv => whnf
                                    refine Need.mk (OLe.refl _) ?_
                                    exact trivial
                              · conv => whnf
                                refine Both.mk ?_ trivial
                                conv => whnf
                                intro b262
                                conv => whnf
                                refine Need.mk (AV.le_refl _) ?_
                                conv => whnf
                                refine Need.mk (AV.le_refl _) ?_
                                conv => whnf
                                refine Need.mk (AV.le_refl _) ?_
                                conv => whnf
                                refine Both.mk ?_ ?_
                                · conv => whnf
                                  refine CallG.pure _ (law01LawC hN hx294) ?_
                                  conv => whnf
                                  refine Need.mk (AV.le_refl _) ?_
                                  conv => whnf
                                  refine Need.mk (AV.le_refl _) ?_
                                  conv => whnf
                                  refine Both.mk ?_ trivial
                                  conv => whnf
                                  refine Need.mk (slc_need _ hx295) (Eqv.mk (List.map I l40) (slc_map _ hx295) ?_)
                                  conv => whnf
                                  refine Both.mk ?_ trivial
                                  conv => whnf
                                  refine CallG.fresh 158 (law01ListC hN hx296) ?_
                                  intro hd267
                                  conv => whnf
                                  refine Both.mk ?_ trivial
                                  conv => whnf
                                  refine Side.mk rfl ?_
                                  conv => whnf
                                  refine CallG.pure _ (frameSpanC hN hx297) ?_
                                  conv => whnf
                                  refine Both.mk ?_ trivial
                                  conv => whnf
                                  refine Side.mk rfl ?_
                                  conv => whnf
                                  refine Need.mk (AV.le_refl _) ?_
                                  cases hx293
                                  conv => whnf
                                  refine ⟨b262, trivial, Sub.eq rfl ?_ ?_⟩
                                  · repeat ((conv => whnf); refine Need.mk rfl ?_)
                                    exact trivial
                                  · conv => whnf
                                    refine Need.mk (OLe.refl _) ?_
                                    conv => whnf
                                    refine Need.mk (OLe.refl _) ?_
                                    exact trivial
                                · conv => whnf
                                  refine Both.mk ?_ trivial
                                  conv => whnf
                                  refine Need.mk (slc_need _ hx295) (Eqv.mk (List.map I l40) (slc_map _ hx295) ?_)
                                  conv => whnf
                                  refine Need.mk (AV.le_refl _) ?_
                                  conv => whnf
                                  refine Both.mk ?_ trivial
                                  conv => whnf
                                  refine CallG.pure _ (law01LawC hN hx294) ?_
                                  conv => whnf
                                  refine Both.mk ?_ trivial
                                  conv => whnf
                                  refine CallG.fresh 158 (law01ListC hN hx296) ?_
                                  intro hd268
                                  conv => whnf
                                  refine Both.mk ?_ trivial
                                  conv => whnf
                                  refine Side.mk rfl ?_
                                  conv => whnf
                                  refine CallG.pure _ (frameSpanC hN hx297) ?_
                                  conv => whnf
                                  refine Both.mk ?_ trivial
                                  conv => whnf
                                  refine Side.mk rfl ?_
                                  conv => whnf
                                  refine Need.mk (AV.le_refl _) ?_
                                  cases hx293
                                  conv => whnf
                                  refine ⟨b262, trivial, Sub.eq rfl ?_ ?_⟩
                                  · repeat ((conv => whnf); refine Need.mk rfl ?_)
                                    exact trivial
                                  · conv => whnf
                                    refine Need.mk (OLe.refl _) ?_
                                    conv => whnf
                                    refine Need.mk (OLe.refl _) ?_
                                    exact trivial
                          · rintro bb12 _
                            obtain ⟨v59, hx299, hl2⟩ := obind hl2
                            conv => whnf
                            refine SeqG.mk Unit (fun y => [(3, .d (.ref (.agg [I a1.fFrames, I a1.fPins, I a1.fBalls, I a1.fTap]))), (7, .d (.list 1 (List.map I r10))), (12, .d (I x2)), (19, .ptr 19 b22 0), (20, .d (I v53)), (21, .ptr 21 bb12 0), (184, .d (.bool v59))]) (fun y => [(19, .cells b22 [.d (I c19.fLo), .d (I c19.fHi)]), (21, .cells bb12 [.d (I c21.fLo), .d (I c21.fHi)])]) (fun _ => True) ?_ ?_
                            · conv => whnf
                              refine Br.mk (fun hc275 => ?_) (fun hc275 => ?_)
                              · replace hx299 := ite_f hc275 hx299
                                conv => whnf
                                refine Side.mk rfl ?_
                                conv => whnf
                                refine Side.mk rfl ?_
                                conv => whnf
                                refine Br.mk (fun hc276 => ?_) (fun hc276 => ?_)
                                · replace hx299 := ite_f hc276 hx299
                                  conv => whnf
                                  refine Side.mk rfl ?_
                                  conv => whnf
                                  refine Side.mk rfl ?_
                                  conv => whnf
                                  refine Br.mk (fun hc277 => ?_) (fun hc277 => ?_)
                                  · replace hx299 := ite_f hc277 hx299
                                    conv => whnf
                                    refine Side.mk rfl ?_
                                    conv => whnf
                                    refine Side.mk rfl ?_
                                    cases hx299
                                    conv => whnf
                                    refine ⟨(), trivial, Sub.eq rfl ?_ ?_⟩
                                    · repeat ((conv => whnf); refine Need.mk rfl ?_)
                                      exact trivial
                                    · conv => whnf
                                      refine Need.mk (OLe.refl _) ?_
                                      conv => whnf
                                      refine Need.mk (OLe.refl _) ?_
                                      exact trivial
                                  · replace hx299 := ite_t hc277 hx299
                                    cases hx299
                                    conv => whnf
                                    refine ⟨(), trivial, Sub.eq rfl ?_ ?_⟩
                                    · repeat ((conv => whnf); refine Need.mk rfl ?_)
                                      exact trivial
                                    · conv => whnf
                                      refine Need.mk (OLe.refl _) ?_
                                      conv => whnf
                                      refine Need.mk (OLe.refl _) ?_
                                      exact trivial
                                · replace hx299 := ite_t hc276 hx299
                                  cases hx299
                                  conv => whnf
                                  refine ⟨(), trivial, Sub.eq rfl ?_ ?_⟩
                                  · repeat ((conv => whnf); refine Need.mk rfl ?_)
                                    exact trivial
                                  · conv => whnf
                                    refine Need.mk (OLe.refl _) ?_
                                    conv => whnf
                                    refine Need.mk (OLe.refl _) ?_
                                    exact trivial
                              · replace hx299 := ite_t hc275 hx299
                                cases hx299
                                conv => whnf
                                refine ⟨(), trivial, Sub.eq rfl ?_ ?_⟩
                                · repeat ((conv => whnf); refine Need.mk rfl ?_)
                                  exact trivial
                                · conv => whnf
                                  refine Need.mk (OLe.refl _) ?_
                                  conv => whnf
                                  refine Need.mk (OLe.refl _) ?_
                                  exact trivial
                            · rintro _ _
                              conv => whnf
                              refine Br.mk (fun hc278 => ?_) (fun hc278 => ?_)
                              · replace hl2 := ite_t hc278 hl2
                                conv => whnf
                                cases hl2
                                exact rfl
                              · replace hl2 := ite_f hc278 hl2
                                conv => whnf
                                refine Side.mk rfl ?_
                                conv => whnf
                                refine Side.mk rfl ?_
                                conv => whnf
                                refine ⟨(n2, (w64 (v53 + 1), c21)), hl2, Sub.eq rfl ?_ ?_, Nat.lt_succ_self _⟩
                                · repeat ((conv => whnf); refine Need.mk rfl ?_)
                                  exact trivial
                                · conv => whnf
                                  refine Need.mk (OLe.refl _) ?_
                                  exact trivial
                        · replace hl2 := ite_f hc250 hl2
                          conv => whnf
                          refine ⟨c19, hl2, Sub.eq rfl ?_ ?_⟩
                          · repeat ((conv => whnf); refine Need.mk rfl ?_)
                            exact trivial
                          · conv => whnf
                            refine Need.mk (OLe.refl _) ?_
                            exact trivial
                    · clear h
                      rintro c11 h
                      unfold law01FrameEndings_k1 at h
                      obtain ⟨v36, hx232, h⟩ := obind h
                      conv => whnf
                      refine SeqG.mk Unit (fun y => [(6, .d (.bool v36))]) (fun y => []) (fun _ => True) ?_ ?_
                      · conv => whnf
                        refine Side.mk rfl ?_
                        conv => whnf
                        refine Br.mk (fun hc187 => ?_) (fun hc187 => ?_)
                        · replace hx232 := ite_t hc187 hx232
                          conv => whnf
                          refine Side.mk rfl ?_
                          conv => whnf
                          refine Br.mk (fun hc188 => ?_) (fun hc188 => ?_)
                          · replace hx232 := ite_t hc188 hx232
                            obtain ⟨r108, hx233, hx232⟩ := obind hx232
                            conv => whnf
                            refine CallG.pure _ (law01WakesC hN hx233) ?_
                            cases hx232
                            conv => whnf
                            refine ⟨(), trivial, Sub.eq rfl ?_ ?_⟩
                            · repeat ((conv => whnf); refine Need.mk rfl ?_)
                              exact trivial
                            · exact trivial
                          · replace hx232 := ite_f hc188 hx232
                            cases hx232
                            conv => whnf
                            refine ⟨(), trivial, Sub.eq rfl ?_ ?_⟩
                            · repeat ((conv => whnf); refine Need.mk rfl ?_)
                              exact trivial
                            · exact trivial
                        · replace hx232 := ite_f hc187 hx232
                          cases hx232
                          conv => whnf
                          refine ⟨(), trivial, Sub.eq rfl ?_ ?_⟩
                          · repeat ((conv => whnf); refine Need.mk rfl ?_)
                            exact trivial
                          · exact trivial
                      · rintro _ _
                        conv => whnf
                        cases h
                        exact rfl
end Go.Proofs.Ythjafigloabfpaa
