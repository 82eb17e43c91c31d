/-
  Walks: what the typed functions compute, the program’s functions return.
-/
import Derived.Test.YthjafigloabfpaaWe
import Derived.Test.YthjafigloabfpaaWc
namespace Go.Proofs.Ythjafigloabfpaa
open Go Go.Abs Go.Kp
set_option maxRecDepth 100000
set_option maxHeartbeats 8000000
set_option linter.all false

theorem frameAheadC {N : Nat} (hN : N ≤ 1073741824) {a1 : FrameLaw} {a2 : List (List Int)} {r : (List Int) × (List Int) × Int} (h : frameAhead N a1 a2 = some r) :
    ACalls Try.prog 36 [.d (.agg [I a1.fFrames, I a1.fPins, I a1.fBalls, I a1.fTap]), .d (.list 1 (List.map (fun x => .list 1 (List.map I x)) a2))] [] fun e os => e = .ret (.d (.tup [.list 1 (List.map I r.1), .list 1 (List.map I r.2.1), I r.2.2])) ∧ os = [] := by
  refine acalls_f (fresh := false) tt_ok dr_ok ⟨[2], [], [], [], [6, 1013, 1018, 1020, 1022, 1024], 0⟩ Try.func36 rfl Try.call36 rfl ?_
  unfold frameAhead at h
  obtain ⟨r4, hx4, h⟩ := obind h
  conv => whnf
  refine CallG.pure _ (frameCheckLawC hN hx4) ?_
  conv => whnf
  refine Br.mk (fun hc2 => ?_) (fun hc2 => ?_)
  · replace h := ite_t hc2 h
    conv => whnf
    cases h
    exact rfl
  · replace h := ite_f hc2 h
    obtain ⟨v2, hx11, h⟩ := obind h
    conv => whnf
    refine SeqG.mk Unit (fun y => [(1, .d (.list 1 (List.map (fun x => .list 1 (List.map I x)) a2))), (2, .d (.ref (.agg [I a1.fFrames, I a1.fPins, I a1.fBalls, I a1.fTap]))), (4, .nils 1), (5, .nils 1), (9, .d (.fn (.func 62) [] [.ref (.agg [I a1.fFrames, I a1.fPins, I a1.fBalls, I a1.fTap])])), (24, .d (.bool v2))]) (fun y => []) (fun _ => True) ?_ ?_
    · conv => whnf
      refine Ln.mk _ (List.length_map _) ?_
      conv => whnf
      refine Br.mk (fun hc9 => ?_) (fun hc9 => ?_)
      · replace hx11 := ite_f hc9 hx11
        obtain ⟨r10, hx12, hx11⟩ := obind hx11
        conv => whnf
        refine CallG.pure _ (frameAllC hN hx12) ?_
        cases hx11
        conv => whnf
        refine ⟨(), trivial, Sub.eq rfl ?_ ?_⟩
        · repeat ((conv => whnf); refine Need.mk rfl ?_)
          exact trivial
        · exact trivial
      · replace hx11 := ite_t hc9 hx11
        cases hx11
        conv => whnf
        refine ⟨(), trivial, Sub.eq rfl ?_ ?_⟩
        · repeat ((conv => whnf); refine Need.mk rfl ?_)
          exact trivial
        · exact trivial
    · rintro _ _
      conv => whnf
      refine Br.mk (fun hc10 => ?_) (fun hc10 => ?_)
      · replace h := ite_t hc10 h
        conv => whnf
        cases h
        exact rfl
      · replace h := ite_f hc10 h
        conv => whnf
        refine Ln.mk _ (List.length_map _) ?_
        conv => whnf
        refine Br.mk (fun hc11 => ?_) (fun hc11 => ?_)
        · replace h := ite_t hc11 h
          conv => whnf
          cases h
          exact rfl
        · replace h := ite_f hc11 h
          obtain ⟨r12, hx14, h⟩ := obind h
          conv => whnf
          refine CallG.pure _ (frameAllXC hN hx14) ?_
          conv => whnf
          refine Br.mk (fun hc12 => ?_) (fun hc12 => ?_)
          · replace h := ite_t hc12 h
            conv => whnf
            cases h
            exact rfl
          · replace h := ite_f hc12 h
            obtain ⟨l11, hx39, h⟩ := obind h
            conv => whnf
            refine SeqG.mk Value (fun y => [(4, .nils 1), (5, .nils 1), (10, .sl 54 y)]) (fun y => [(54, .arr y 50 2 false (List.map FrameRange.enc l11))]) (fun _ => True) ?_ ?_
            · conv => whnf
              refine Ln.mk _ (List.length_map _) ?_
              conv => whnf
              refine LoopG.mk (Nat × (Int × Int × (List FrameRange)) × Value) (fun y => [(2, .d (.ref (.agg [I a1.fFrames, I a1.fPins, I a1.fBalls, I a1.fTap]))), (4, .nils 1), (5, .nils 1), (10, .sl 54 y.2.2), (43, .d (.list 1 (List.map (fun x => .list 1 (List.map I x)) a2))), (44, .d (I y.2.1.1)), (45, .d (I y.2.1.2.1))]) (fun y => [(54, .arr y.2.2 50 2 false (List.map FrameRange.enc y.2.1.2.2))]) (fun y => loopN (fun rr x => frameAhead_b1 N a1 a2 rr x.1 x.2.1 x.2.2) y.1 y.2.1 = some l11) (fun y => y.1) (N, ((a2.length : Int), 0, []), (.slice none 0 0)) hx39 (Sub.eq rfl ?_ ?_) ?_
              · repeat ((conv => whnf); refine Need.mk rfl ?_)
                exact trivial
              · conv => whnf
                refine Need.mk (OLe.nil _ _ _ _) ?_
                exact trivial
              · rintro ⟨n2, ⟨v19, v20, l19⟩, hd29⟩ hl2
                obtain ⟨n2, rfl, hl2⟩ := loopN_some hl2
                replace hl2 : frameAhead_b1 N a1 a2 (loopN (fun rr x => frameAhead_b1 N a1 a2 rr x.1 x.2.1 x.2.2) n2) v19 v20 l19 = some l11 := hl2
                rw [frameAhead_b1] at hl2
                conv => whnf
                refine Br.mk (fun hc24 => ?_) (fun hc24 => ?_)
                · replace hl2 := ite_t hc24 hl2
                  obtain ⟨x24, hx61, hl2⟩ := obind hl2
                  conv => whnf
                  refine Side.mk rfl ⟨_, idx_0 hx61, idx_map _ hx61, ?_⟩
                  obtain ⟨r24, hx62, hl2⟩ := obind hl2
                  conv => whnf
                  refine CallG.pure _ (frameLawSpanC hN hx62) ?_
                  conv => whnf
                  intro hd32
                  obtain ⟨l21, hx63, hl2⟩ := obind hl2
                  conv => whnf
                  refine Side.mk ⟨rfl, rfl⟩ ?_
                  conv => whnf
                  refine Side.mk ⟨rfl, rfl, rfl⟩ (Need.mk (app_need hN hx63 (by decide)) (Eqv.mk (List.map FrameRange.enc l21) (app_map _ hx63) ?_))
                  conv => whnf
                  intro hd33
                  conv => whnf
                  refine ⟨(n2, (v19, w64 (v20 + 1), l21), hd33), hl2, Sub.eq rfl ?_ ?_, Nat.lt_succ_self _⟩
                  · repeat ((conv => whnf); refine Need.mk rfl ?_)
                    exact trivial
                  · conv => whnf
                    refine Need.mk (OLe.refl _) ?_
                    exact trivial
                · replace hl2 := ite_f hc24 hl2
                  cases hl2
                  conv => whnf
                  refine ⟨hd29, trivial, Sub.eq rfl ?_ ?_⟩
                  · repeat ((conv => whnf); refine Need.mk rfl ?_)
                    exact trivial
                  · conv => whnf
                    refine Need.mk (OLe.refl _) ?_
                    exact trivial
            · rintro hd17 _
              obtain ⟨⟨l54, l55⟩, hx257, h⟩ := obind h
              conv => whnf
              refine SeqG.mk (Value × Value) (fun y => [(4, .sl 92 y.1), (5, .sl 97 y.2)]) (fun y => [(92, .arr y.1 3 1 false (List.map I l54)), (97, .arr y.2 3 1 false (List.map I l55))]) (fun _ => True) ?_ ?_
              · conv => whnf
                refine Side.mk rfl (Ln.mk _ (List.length_map _) ?_)
                conv => whnf
                refine LoopG.mk (Nat × (Int × Int × (List Int) × (List Int)) × Value × Value) (fun y => [(4, .sl 92 y.2.2.1), (5, .sl 97 y.2.2.2), (10, .sl 54 hd17), (56, .sl 54 hd17), (57, .d (I y.2.1.1)), (58, .d (I y.2.1.2.1))]) (fun y => [(92, .arr y.2.2.1 3 1 false (List.map I y.2.1.2.2.1)), (97, .arr y.2.2.2 3 1 false (List.map I y.2.1.2.2.2)), (54, .arr hd17 50 2 false (List.map FrameRange.enc l11))]) (fun y => loopN (fun rr x => frameAhead_b5 N l11 rr x.1 x.2.1 x.2.2.1 x.2.2.2) y.1 y.2.1 = some (l54, l55)) (fun y => y.1) (N, ((l11.length : Int), 0, [], []), (.slice none 0 0), (.slice none 0 0)) hx257 (Sub.eq rfl ?_ ?_) ?_
                · repeat ((conv => whnf); refine Need.mk rfl ?_)
                  exact trivial
                · conv => whnf
                  refine Need.mk (OLe.nil _ _ _ _) ?_
                  conv => whnf
                  refine Need.mk (OLe.nil _ _ _ _) ?_
                  conv => whnf
                  refine Need.mk (OLe.refl _) ?_
                  exact trivial
                · rintro ⟨n24, ⟨v459, v460, l78, l79⟩, hd120, hd121⟩ hl24
                  obtain ⟨n24, rfl, hl24⟩ := loopN_some hl24
                  replace hl24 : frameAhead_b5 N l11 (loopN (fun rr x => frameAhead_b5 N l11 rr x.1 x.2.1 x.2.2.1 x.2.2.2) n24) v459 v460 l78 l79 = some (l54, l55) := hl24
                  rw [frameAhead_b5] at hl24
                  conv => whnf
                  refine Br.mk (fun hc654 => ?_) (fun hc654 => ?_)
                  · replace hl24 := ite_t hc654 hl24
                    obtain ⟨⟨l83, l84⟩, hx421, hl24⟩ := obind hl24
                    conv => whnf
                    refine SeqG.mk (Value × Value) (fun y => [(4, .sl 92 y.1), (5, .sl 97 y.2), (10, .sl 54 hd17), (56, .sl 54 hd17), (57, .d (I v459)), (58, .d (I v460))]) (fun y => [(92, .arr y.1 3 1 false (List.map I l83)), (97, .arr y.2 3 1 false (List.map I l84)), (54, .arr hd17 50 2 false (List.map FrameRange.enc l11))]) (fun _ => True) ?_ ?_
                    · obtain ⟨x344, hx423, hx421⟩ := obind hx421
                      conv => whnf
                      refine Side.mk ⟨rfl, rfl⟩ (Need.mk (idx_need _ hx423) ?_)
                      conv => whnf
                      refine Side.mk ⟨rfl, rfl⟩ ⟨_, Int.natCast_nonneg _, idx_el _ hx423, ?_⟩
                      conv => whnf
                      intro b320
                      conv => whnf
                      refine Side.mk rfl ?_
                      conv => whnf
                      refine SeqG.mk Bool (fun y => [(4, .sl 92 hd120), (5, .sl 97 hd121), (10, .sl 54 hd17), (13, .d (I v460)), (15, .d (.bool y)), (56, .sl 54 hd17), (57, .d (I v459)), (58, .d (I v460))]) (fun y => [(92, .arr hd120 3 1 false (List.map I l78)), (97, .arr hd121 3 1 false (List.map I l79)), (54, .arr hd17 50 2 false (List.map FrameRange.enc l11))]) (fun y => frameAhead_k2 N v460 l78 l79 y = some (l83, l84)) ?_ ?_
                      · conv => whnf
                        refine Side.mk rfl (Ln.mk _ (List.length_map _) ?_)
                        conv => whnf
                        refine LoopG.mk (Nat × (Bool × Int × Int)) (fun y => [(4, .sl 92 hd120), (5, .sl 97 hd121), (10, .sl 54 hd17), (13, .d (I v460)), (14, .ptr 14 b320 0), (15, .d (.bool y.2.1)), (56, .sl 54 hd17), (57, .d (I v459)), (58, .d (I v460)), (63, .sl 54 hd17), (64, .d (I y.2.2.1)), (65, .d (I y.2.2.2))]) (fun y => [(92, .arr hd120 3 1 false (List.map I l78)), (97, .arr hd121 3 1 false (List.map I l79)), (54, .arr hd17 50 2 false (List.map FrameRange.enc l11)), (14, .cells b320 [.d (I x344.fLo), .d (I x344.fHi)])]) (fun y => loopN (fun rr x => frameAhead_b4 N l11 v460 l78 l79 x344 rr x.1 x.2.1 x.2.2) y.1 y.2 = some (l83, l84)) (fun y => y.1) (N, (true, (l11.length : Int), 0)) hx421 (Sub.eq rfl ?_ ?_) ?_
                        · repeat ((conv => whnf); refine Need.mk rfl ?_)
                          exact trivial
                        · conv => whnf
                          refine Need.mk (OLe.refl _) ?_
                          conv => whnf
                          refine Need.mk (OLe.refl _) ?_
                          conv => whnf
                          refine Need.mk (OLe.refl _) ?_
                          conv => whnf
                          refine Need.mk (OLe.refl _) ?_
                          exact trivial
                        · rintro ⟨n28, ⟨v535, v536, v537⟩⟩ hl28
                          obtain ⟨n28, rfl, hl28⟩ := loopN_some hl28
                          replace hl28 : frameAhead_b4 N l11 v460 l78 l79 x344 (loopN (fun rr x => frameAhead_b4 N l11 v460 l78 l79 x344 rr x.1 x.2.1 x.2.2) n28) v535 v536 v537 = some (l83, l84) := hl28
                          rw [frameAhead_b4] at hl28
                          conv => whnf
                          refine Br.mk (fun hc760 => ?_) (fun hc760 => ?_)
                          · replace hl28 := ite_t hc760 hl28
                            conv => whnf
                            refine SeqG.mk Bool (fun y => [(4, .sl 92 hd120), (5, .sl 97 hd121), (10, .sl 54 hd17), (13, .d (I v460)), (14, .ptr 14 b320 0), (15, .d (.bool y)), (56, .sl 54 hd17), (57, .d (I v459)), (58, .d (I v460)), (63, .sl 54 hd17), (64, .d (I v536)), (65, .d (I v537))]) (fun y => [(92, .arr hd120 3 1 false (List.map I l78)), (97, .arr hd121 3 1 false (List.map I l79)), (54, .arr hd17 50 2 false (List.map FrameRange.enc l11)), (14, .cells b320 [.d (I x344.fLo), .d (I x344.fHi)])]) (fun y => frameAhead_k3 N v536 v537 (loopN (fun rr x => frameAhead_b4 N l11 v460 l78 l79 x344 rr x.1 x.2.1 x.2.2) n28) y = some (l83, l84)) ?_ ?_
                            · obtain ⟨x368, hx450, hl28⟩ := obind hl28
                              conv => whnf
                              refine Side.mk ⟨rfl, rfl⟩ (Need.mk (idx_need _ hx450) ?_)
                              conv => whnf
                              refine Side.mk ⟨rfl, rfl⟩ ⟨_, Int.natCast_nonneg _, idx_el _ hx450, ?_⟩
                              conv => whnf
                              intro b344
                              conv => whnf
                              refine Side.mk rfl ?_
                              conv => whnf
                              refine Side.mk rfl ?_
                              conv => whnf
                              refine Side.mk rfl ?_
                              conv => whnf
                              refine Br.mk (fun hc766 => ?_) (fun hc766 => ?_)
                              · replace hl28 := ite_t hc766 hl28
                                cases hl28
                                conv => whnf
                                refine ⟨(hd120, hd121), trivial, Sub.eq rfl ?_ ?_⟩
                                · repeat ((conv => whnf); refine Need.mk rfl ?_)
                                  exact trivial
                                · conv => whnf
                                  refine Need.mk (OLe.refl _) ?_
                                  conv => whnf
                                  refine Need.mk (OLe.refl _) ?_
                                  conv => whnf
                                  refine Need.mk (OLe.refl _) ?_
                                  exact trivial
                              · replace hl28 := ite_f hc766 hl28
                                conv => whnf
                                refine Br.mk (fun hc767 => ?_) (fun hc767 => ?_)
                                · replace hl28 := ite_t hc767 hl28
                                  conv => whnf
                                  refine Br.mk (fun hc768 => ?_) (fun hc768 => ?_)
                                  · replace hl28 := ite_f hc768 hl28
                                    conv => whnf
                                    refine Side.mk rfl ?_
                                    conv => whnf
                                    refine Side.mk rfl ?_
                                    conv => whnf
                                    refine ⟨decide (x368.fHi < x344.fLo), hl28, Sub.eq rfl ?_ ?_⟩
                                    · repeat ((conv => whnf); refine Need.mk rfl ?_)
                                      exact trivial
                                    · conv => whnf
                                      refine Need.mk (OLe.refl _) ?_
                                      conv => whnf
                                      refine Need.mk (OLe.refl _) ?_
                                      conv => whnf
                                      refine Need.mk (OLe.refl _) ?_
                                      conv => whnf
                                      refine Need.mk (OLe.refl _) ?_
                                      exact trivial
                                  · replace hl28 := ite_t hc768 hl28
                                    conv => whnf
                                    refine ⟨true, hl28, Sub.eq rfl ?_ ?_⟩
                                    · repeat ((conv => whnf); refine Need.mk rfl ?_)
                                      exact trivial
                                    · conv => whnf
                                      refine Need.mk (OLe.refl _) ?_
                                      conv => whnf
                                      refine Need.mk (OLe.refl _) ?_
                                      conv => whnf
                                      refine Need.mk (OLe.refl _) ?_
                                      conv => whnf
                                      refine Need.mk (OLe.refl _) ?_
                                      exact trivial
                                · replace hl28 := ite_f hc767 hl28
                                  conv => whnf
                                  refine ⟨false, hl28, Sub.eq rfl ?_ ?_⟩
                                  · repeat ((conv => whnf); refine Need.mk rfl ?_)
                                    exact trivial
                                  · conv => whnf
                                    refine Need.mk (OLe.refl _) ?_
                                    conv => whnf
                                    refine Need.mk (OLe.refl _) ?_
                                    conv => whnf
                                    refine Need.mk (OLe.refl _) ?_
                                    conv => whnf
                                    refine Need.mk (OLe.refl _) ?_
                                    exact trivial
                            · rintro v538 h
                              unfold frameAhead_k3 at h
                              conv => whnf
                              refine ⟨(n28, (v538, v536, w64 (v537 + 1))), h, Sub.eq rfl ?_ ?_, Nat.lt_succ_self _⟩
                              · repeat ((conv => whnf); refine Need.mk rfl ?_)
                                exact trivial
                              · conv => whnf
                                refine Need.mk (OLe.refl _) ?_
                                conv => whnf
                                refine Need.mk (OLe.refl _) ?_
                                conv => whnf
                                refine Need.mk (OLe.refl _) ?_
                                conv => whnf
                                refine Need.mk (OLe.refl _) ?_
                                exact trivial
                          · replace hl28 := ite_f hc760 hl28
                            conv => whnf
                            refine ⟨v535, hl28, Sub.eq rfl ?_ ?_⟩
                            · repeat ((conv => whnf); refine Need.mk rfl ?_)
                              exact trivial
                            · conv => whnf
                              refine Need.mk (OLe.refl _) ?_
                              conv => whnf
                              refine Need.mk (OLe.refl _) ?_
                              conv => whnf
                              refine Need.mk (OLe.refl _) ?_
                              exact trivial
                      · rintro v519 h
                        unfold frameAhead_k2 at h
                        conv => whnf
                        intro hd132
                        obtain ⟨l86, hx437, h⟩ := obind h
                        conv => whnf
                        refine Side.mk ⟨rfl, rfl⟩ ?_
                        conv => whnf
                        refine Side.mk ⟨rfl, rfl, rfl⟩ (Need.mk (app_need hN hx437 (by decide)) (Eqv.mk (List.map I l86) (app_map _ hx437) ?_))
                        conv => whnf
                        intro hd133
                        conv => whnf
                        refine Br.mk (fun hc740 => ?_) (fun hc740 => ?_)
                        · replace h := ite_t hc740 h
                          conv => whnf
                          intro hd134
                          obtain ⟨l87, hx438, h⟩ := obind h
                          conv => whnf
                          refine Side.mk ⟨rfl, rfl⟩ ?_
                          conv => whnf
                          refine Side.mk ⟨rfl, rfl, rfl⟩ (Need.mk (app_need hN hx438 (by decide)) (Eqv.mk (List.map I l87) (app_map _ hx438) ?_))
                          conv => whnf
                          intro hd135
                          cases h
                          conv => whnf
                          refine ⟨(hd133, hd135), trivial, Sub.eq rfl ?_ ?_⟩
                          · repeat ((conv => whnf); refine Need.mk rfl ?_)
                            exact trivial
                          · conv => whnf
                            refine Need.mk (OLe.refl _) ?_
                            conv => whnf
                            refine Need.mk (OLe.refl _) ?_
                            conv => whnf
                            refine Need.mk (OLe.refl _) ?_
                            exact trivial
                        · replace h := ite_f hc740 h
                          cases h
                          conv => whnf
                          refine ⟨(hd133, hd121), trivial, Sub.eq rfl ?_ ?_⟩
                          · repeat ((conv => whnf); refine Need.mk rfl ?_)
                            exact trivial
                          · conv => whnf
                            refine Need.mk (OLe.refl _) ?_
                            conv => whnf
                            refine Need.mk (OLe.refl _) ?_
                            conv => whnf
                            refine Need.mk (OLe.refl _) ?_
                            exact trivial
                    · rintro ⟨hd128, hd129⟩ _
                      conv => whnf
                      refine ⟨(n24, (v459, w64 (v460 + 1), l83, l84), hd128, hd129), hl24, Sub.eq rfl ?_ ?_, Nat.lt_succ_self _⟩
                      · repeat ((conv => whnf); refine Need.mk rfl ?_)
                        exact trivial
                      · conv => whnf
                        refine Need.mk (OLe.refl _) ?_
                        conv => whnf
                        refine Need.mk (OLe.refl _) ?_
                        conv => whnf
                        refine Need.mk (OLe.refl _) ?_
                        exact trivial
                  · replace hl24 := ite_f hc654 hl24
                    cases hl24
                    conv => whnf
                    refine ⟨(hd120, hd121), trivial, Sub.eq rfl ?_ ?_⟩
                    · repeat ((conv => whnf); refine Need.mk rfl ?_)
                      exact trivial
                    · conv => whnf
                      refine Need.mk (OLe.refl _) ?_
                      conv => whnf
                      refine Need.mk (OLe.refl _) ?_
                      exact trivial
              · rintro ⟨hd84, hd85⟩ _
                conv => whnf
                refine Side.mk rfl ?_
                conv => whnf
                refine Side.mk rfl ?_
                conv => whnf
                cases h
                exact rfl
end Go.Proofs.Ythjafigloabfpaa
