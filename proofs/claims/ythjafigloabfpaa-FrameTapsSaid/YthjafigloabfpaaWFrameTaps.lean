/-
  The walk of the law FrameTaps.
-/
import Derived.Test.YthjafigloabfpaaDFrameTaps
import Derived.Test.YthjafigloabfpaaWd
namespace Go.Proofs.Ythjafigloabfpaa
open Go Go.Abs Go.Kp
set_option maxRecDepth 100000
set_option maxHeartbeats 8000000
set_option linter.all false

theorem law01FrameTapsC {N : Nat} (hN : N ≤ 1073741824) {a1 : Ref01Law} {a2 : List Int} {a3 : Int} {r : Bool} (h : law01FrameTaps N a1 a2 a3 = some r) :
    ACalls Try.prog 13 [.d (.agg [I a1.fFrames, I a1.fPins, I a1.fBalls, I a1.fTap]), .d (.list 1 (List.map I a2)), .d (.int .u8 a3)] [] fun e os => e = .ret (.d (.bool r)) ∧ os = [] := by
  refine acalls_f (fresh := false) tt_ok dr_ok ⟨[3], [], [], [], [7, 9, 17, 1011, 1016], 0⟩ Try.func13 rfl Try.call13 rfl ?_
  unfold law01FrameTaps at h
  obtain ⟨r6, hx6, h⟩ := obind h
  conv => whnf
  refine CallG.pure _ (law01ReadyC hN hx6) ?_
  conv => whnf
  refine Br.mk (fun hc2 => ?_) (fun hc2 => ?_)
  · replace h := ite_t hc2 h
    obtain ⟨r8, hx8, h⟩ := obind h
    conv => whnf
    refine CallG.pure _ (law01WakesC hN hx8) ?_
    conv => whnf
    cases h
    exact rfl
  · replace h := ite_f hc2 h
    conv => whnf
    intro b2
    conv => whnf
    refine Side.mk rfl ?_
    obtain ⟨_, hx10, h⟩ := obind h
    conv => whnf
    refine Need.mk (nz_ne hx10) ?_
    conv => whnf
    refine Side.mk rfl ?_
    obtain ⟨r11, hx14, h⟩ := obind h
    conv => whnf
    refine CallG.pure _ (law01LawC hN hx14) ?_
    obtain ⟨r12, hx15, h⟩ := obind h
    conv => whnf
    refine CallG.fresh 31 (law01ListC hN hx15) ?_
    intro hd2
    obtain ⟨⟨ra2, rb2⟩, hx16, h⟩ := obind h
    conv => whnf
    refine Side.mk rfl ?_
    conv => whnf
    refine CallG.pure _ (frameReadC hN hx16) ?_
    conv => whnf
    intro b4
    conv => whnf
    refine Side.mk rfl ?_
    conv => whnf
    refine Side.mk rfl ?_
    obtain ⟨r15, hx20, h⟩ := obind h
    conv => whnf
    refine CallG.pure _ (law01LawC hN hx20) ?_
    obtain ⟨r16, hx21, h⟩ := obind h
    conv => whnf
    refine CallG.fresh 39 (law01ListC hN hx21) ?_
    intro hd4
    obtain ⟨⟨ra4, rb4⟩, hx22, h⟩ := obind h
    conv => whnf
    refine Side.mk rfl ?_
    conv => whnf
    refine CallG.pure _ (frameReadC hN hx22) ?_
    conv => whnf
    intro b6
    conv => whnf
    refine Side.mk rfl ?_
    obtain ⟨v2, hx24, h⟩ := obind h
    conv => whnf
    refine SeqG.mk Unit (fun y => [(8, .ptr 8 b4 0), (10, .ptr 10 b6 0), (11, .d (I rb4)), (52, .d (.bool v2))]) (fun y => [(8, .cells b4 [.d (.list 1 (List.map (fun x => .list 1 (List.map I x)) ra2.fFrames)), .d (.list 1 (List.map I ra2.fCounts)), .d (I ra2.fStanding), .d (.bool ra2.fDone)]), (10, .cells b6 [.d (.list 1 (List.map (fun x => .list 1 (List.map I x)) ra4.fFrames)), .d (.list 1 (List.map I ra4.fCounts)), .d (I ra4.fStanding), .d (.bool ra4.fDone)])]) (fun _ => True) ?_ ?_
    · conv => whnf
      refine Br.mk (fun hc10 => ?_) (fun hc10 => ?_)
      · replace hx24 := ite_f hc10 hx24
        conv => whnf
        refine Br.mk (fun hc11 => ?_) (fun hc11 => ?_)
        · replace hx24 := ite_t hc11 hx24
          cases hx24
          conv => whnf
          refine ⟨(), trivial, Sub.eq rfl ?_ ?_⟩
          · repeat ((conv => whnf); refine Need.mk rfl ?_)
            exact trivial
          · conv => whnf
            refine Need.mk (OLe.refl _) ?_
            conv => whnf
            refine Need.mk (OLe.refl _) ?_
            exact trivial
        · replace hx24 := ite_f hc11 hx24
          cases hx24
          conv => whnf
          refine ⟨(), trivial, Sub.eq rfl ?_ ?_⟩
          · repeat ((conv => whnf); refine Need.mk rfl ?_)
            exact trivial
          · conv => whnf
            refine Need.mk (OLe.refl _) ?_
            conv => whnf
            refine Need.mk (OLe.refl _) ?_
            exact trivial
      · replace hx24 := ite_t hc10 hx24
        cases hx24
        conv => whnf
        refine ⟨(), trivial, Sub.eq rfl ?_ ?_⟩
        · repeat ((conv => whnf); refine Need.mk rfl ?_)
          exact trivial
        · conv => whnf
          refine Need.mk (OLe.refl _) ?_
          conv => whnf
          refine Need.mk (OLe.refl _) ?_
          exact trivial
    · rintro _ _
      conv => whnf
      refine Br.mk (fun hc12 => ?_) (fun hc12 => ?_)
      · replace h := ite_t hc12 h
        conv => whnf
        cases h
        exact rfl
      · replace h := ite_f hc12 h
        obtain ⟨v4, hx28, h⟩ := obind h
        conv => whnf
        refine SeqG.mk Unit (fun y => [(8, .ptr 8 b4 0), (10, .ptr 10 b6 0), (63, .d (.bool v4))]) (fun y => [(8, .cells b4 [.d (.list 1 (List.map (fun x => .list 1 (List.map I x)) ra2.fFrames)), .d (.list 1 (List.map I ra2.fCounts)), .d (I ra2.fStanding), .d (.bool ra2.fDone)]), (10, .cells b6 [.d (.list 1 (List.map (fun x => .list 1 (List.map I x)) ra4.fFrames)), .d (.list 1 (List.map I ra4.fCounts)), .d (I ra4.fStanding), .d (.bool ra4.fDone)])]) (fun _ => True) ?_ ?_
        · conv => whnf
          refine Br.mk (fun hc17 => ?_) (fun hc17 => ?_)
          · replace hx28 := ite_f hc17 hx28
            conv => whnf
            refine Side.mk rfl ?_
            conv => whnf
            refine Ln.mk _ (List.length_map _) ?_
            conv => whnf
            refine Side.mk rfl ?_
            conv => whnf
            refine Ln.mk _ (List.length_map _) ?_
            cases hx28
            conv => whnf
            refine ⟨(), trivial, Sub.eq rfl ?_ ?_⟩
            · repeat ((conv => whnf); refine Need.mk rfl ?_)
              exact trivial
            · conv => whnf
              refine Need.mk (OLe.refl _) ?_
              conv => whnf
              refine Need.mk (OLe.refl _) ?_
              exact trivial
          · replace hx28 := ite_t hc17 hx28
            cases hx28
            conv => whnf
            refine ⟨(), trivial, Sub.eq rfl ?_ ?_⟩
            · repeat ((conv => whnf); refine Need.mk rfl ?_)
              exact trivial
            · conv => whnf
              refine Need.mk (OLe.refl _) ?_
              conv => whnf
              refine Need.mk (OLe.refl _) ?_
              exact trivial
        · rintro _ _
          conv => whnf
          refine Br.mk (fun hc18 => ?_) (fun hc18 => ?_)
          · replace h := ite_t hc18 h
            obtain ⟨r20, hx30, h⟩ := obind h
            conv => whnf
            refine CallG.pure _ (law01WakesC hN hx30) ?_
            conv => whnf
            cases h
            exact rfl
          · replace h := ite_f hc18 h
            conv => whnf
            refine SeqG.mk Unit (fun y => [(8, .ptr 8 b4 0), (10, .ptr 10 b6 0)]) (fun y => [(8, .cells b4 [.d (.list 1 (List.map (fun x => .list 1 (List.map I x)) ra2.fFrames)), .d (.list 1 (List.map I ra2.fCounts)), .d (I ra2.fStanding), .d (.bool ra2.fDone)]), (10, .cells b6 [.d (.list 1 (List.map (fun x => .list 1 (List.map I x)) ra4.fFrames)), .d (.list 1 (List.map I ra4.fCounts)), .d (I ra4.fStanding), .d (.bool ra4.fDone)])]) (fun y => law01FrameTaps_k3 N ra2 ra4 = some r) ?_ ?_
            · conv => whnf
              refine LoopG.mk (Nat × Int) (fun y => [(8, .ptr 8 b4 0), (10, .ptr 10 b6 0), (12, .d (I y.2))]) (fun y => [(8, .cells b4 [.d (.list 1 (List.map (fun x => .list 1 (List.map I x)) ra2.fFrames)), .d (.list 1 (List.map I ra2.fCounts)), .d (I ra2.fStanding), .d (.bool ra2.fDone)]), (10, .cells b6 [.d (.list 1 (List.map (fun x => .list 1 (List.map I x)) ra4.fFrames)), .d (.list 1 (List.map I ra4.fCounts)), .d (I ra4.fStanding), .d (.bool ra4.fDone)])]) (fun y => loopN (fun rr x => law01FrameTaps_b4 N ra2 ra4 rr x) y.1 y.2 = some r) (fun y => y.1) (N, 0) h (Sub.eq rfl ?_ ?_) ?_
              · repeat ((conv => whnf); refine Need.mk rfl ?_)
                exact trivial
              · conv => whnf
                refine Need.mk (OLe.refl _) ?_
                conv => whnf
                refine Need.mk (OLe.refl _) ?_
                exact trivial
              · rintro ⟨n4, v32⟩ hl4
                obtain ⟨n4, rfl, hl4⟩ := loopN_some hl4
                replace hl4 : law01FrameTaps_b4 N ra2 ra4 (loopN (fun rr x => law01FrameTaps_b4 N ra2 ra4 rr x) n4) v32 = some r := hl4
                rw [law01FrameTaps_b4] at hl4
                conv => whnf
                refine Side.mk rfl ?_
                conv => whnf
                refine Ln.mk _ (List.length_map _) ?_
                conv => whnf
                refine Br.mk (fun hc88 => ?_) (fun hc88 => ?_)
                · replace hl4 := ite_t hc88 hl4
                  obtain ⟨x95, hx184, hl4⟩ := obind hl4
                  obtain ⟨x96, hx185, hl4⟩ := obind hl4
                  obtain ⟨r68, hx186, hl4⟩ := obind hl4
                  conv => whnf
                  refine DrawG.mk (.take 0 (.take 1 (.take 2 (.take 3 (.take 4 (.take 5 (.take 6 (.take 7 (.take 8 (.take 9 (.alt 10 [8, 7, 6, 5, 3, 2, 1, 0] (.take 11 .done) .nil))))))))))) (by kernel_rfl) ?_
                  conv => whnf
                  refine Side.mk rfl ?_
                  conv => whnf
                  refine Side.mk rfl ⟨_, idx_0 hx184, idx_map _ hx184, ?_⟩
                  conv => whnf
                  refine Side.mk rfl ?_
                  conv => whnf
                  refine Side.mk rfl ⟨_, idx_0 hx185, idx_map _ hx185, ?_⟩
                  conv => whnf
                  refine Both.mk ?_ trivial
                  conv => whnf
                  refine CallG.pure _ (law01IntsC hN hx186) ?_
                  conv => whnf
                  refine Side.mk rfl ⟨_, idx_0 hx185, idx_map _ hx185, ?_⟩
                  conv => whnf
                  refine Need.mk (AV.le_refl _) ?_
                  conv => whnf
                  refine Need.mk (AV.le_refl _) ?_
                  conv => whnf
                  refine Side.mk rfl ?_
                  conv => whnf
                  refine Need.mk (AV.le_refl _) ?_
                  conv => whnf
                  refine Need.mk (AV.le_refl _) ?_
                  conv => whnf
                  refine Side.mk rfl ⟨_, idx_0 hx184, idx_map _ hx184, ?_⟩
                  conv => whnf
                  refine Need.mk (AV.le_refl _) ?_
                  conv => whnf
                  refine Need.mk (AV.le_refl _) ?_
                  conv => whnf
                  refine Side.mk rfl ?_
                  conv => whnf
                  refine Need.mk (AV.le_refl _) ?_
                  conv => whnf
                  refine Need.mk (AV.le_refl _) ?_
                  conv => whnf
                  refine Br.mk (fun hc90 => ?_) (fun hc90 => ?_)
                  · replace hl4 := ite_t hc90 hl4
                    obtain ⟨r70, hx188, hl4⟩ := obind hl4
                    conv => whnf
                    refine CallG.pure _ (law01WakesC hN hx188) ?_
                    conv => whnf
                    cases hl4
                    exact rfl
                  · replace hl4 := ite_f hc90 hl4
                    conv => whnf
                    refine ⟨(n4, w64 (v32 + 1)), hl4, Sub.eq rfl ?_ ?_, Nat.lt_succ_self _⟩
                    · repeat ((conv => whnf); refine Need.mk rfl ?_)
                      exact trivial
                    · conv => whnf
                      refine Need.mk (OLe.refl _) ?_
                      conv => whnf
                      refine Need.mk (OLe.refl _) ?_
                      exact trivial
                · replace hl4 := ite_f hc88 hl4
                  conv => whnf
                  refine ⟨(), hl4, Sub.eq rfl ?_ ?_⟩
                  · repeat ((conv => whnf); refine Need.mk rfl ?_)
                    exact trivial
                  · conv => whnf
                    refine Need.mk (OLe.refl _) ?_
                    conv => whnf
                    refine Need.mk (OLe.refl _) ?_
                    exact trivial
            · clear h
              rintro _ h
              unfold law01FrameTaps_k3 at h
              conv => whnf
              refine SeqG.mk Unit (fun y => []) (fun y => []) (fun y => law01FrameTaps_k1 N = some r) ?_ ?_
              · conv => whnf
                refine LoopG.mk (Nat × Int) (fun y => [(8, .ptr 8 b4 0), (10, .ptr 10 b6 0), (13, .d (I y.2))]) (fun y => [(8, .cells b4 [.d (.list 1 (List.map (fun x => .list 1 (List.map I x)) ra2.fFrames)), .d (.list 1 (List.map I ra2.fCounts)), .d (I ra2.fStanding), .d (.bool ra2.fDone)]), (10, .cells b6 [.d (.list 1 (List.map (fun x => .list 1 (List.map I x)) ra4.fFrames)), .d (.list 1 (List.map I ra4.fCounts)), .d (I ra4.fStanding), .d (.bool ra4.fDone)])]) (fun y => loopN (fun rr x => law01FrameTaps_b2 N ra2 ra4 rr x) y.1 y.2 = some r) (fun y => y.1) (N, 0) h (Sub.eq rfl ?_ ?_) ?_
                · repeat ((conv => whnf); refine Need.mk rfl ?_)
                  exact trivial
                · conv => whnf
                  refine Need.mk (OLe.refl _) ?_
                  conv => whnf
                  refine Need.mk (OLe.refl _) ?_
                  exact trivial
                · rintro ⟨n3, v26⟩ hl3
                  obtain ⟨n3, rfl, hl3⟩ := loopN_some hl3
                  replace hl3 : law01FrameTaps_b2 N ra2 ra4 (loopN (fun rr x => law01FrameTaps_b2 N ra2 ra4 rr x) n3) v26 = some r := hl3
                  rw [law01FrameTaps_b2] at hl3
                  obtain ⟨v28, hx132, hl3⟩ := obind hl3
                  conv => whnf
                  refine SeqG.mk Unit (fun y => [(8, .ptr 8 b4 0), (10, .ptr 10 b6 0), (13, .d (I v26)), (96, .d (.bool v28))]) (fun y => [(8, .cells b4 [.d (.list 1 (List.map (fun x => .list 1 (List.map I x)) ra2.fFrames)), .d (.list 1 (List.map I ra2.fCounts)), .d (I ra2.fStanding), .d (.bool ra2.fDone)]), (10, .cells b6 [.d (.list 1 (List.map (fun x => .list 1 (List.map I x)) ra4.fFrames)), .d (.list 1 (List.map I ra4.fCounts)), .d (I ra4.fStanding), .d (.bool ra4.fDone)])]) (fun _ => True) ?_ ?_
                  · conv => whnf
                    refine Side.mk rfl ?_
                    conv => whnf
                    refine Ln.mk _ (List.length_map _) ?_
                    conv => whnf
                    refine Br.mk (fun hc75 => ?_) (fun hc75 => ?_)
                    · replace hx132 := ite_t hc75 hx132
                      conv => whnf
                      refine Side.mk rfl ?_
                      conv => whnf
                      refine Ln.mk _ (List.length_map _) ?_
                      cases hx132
                      conv => whnf
                      refine ⟨(), trivial, Sub.eq rfl ?_ ?_⟩
                      · repeat ((conv => whnf); refine Need.mk rfl ?_)
                        exact trivial
                      · conv => whnf
                        refine Need.mk (OLe.refl _) ?_
                        conv => whnf
                        refine Need.mk (OLe.refl _) ?_
                        exact trivial
                    · replace hx132 := ite_f hc75 hx132
                      cases hx132
                      conv => whnf
                      refine ⟨(), trivial, Sub.eq rfl ?_ ?_⟩
                      · repeat ((conv => whnf); refine Need.mk rfl ?_)
                        exact trivial
                      · conv => whnf
                        refine Need.mk (OLe.refl _) ?_
                        conv => whnf
                        refine Need.mk (OLe.refl _) ?_
                        exact trivial
                  · rintro _ _
                    conv => whnf
                    refine Br.mk (fun hc76 => ?_) (fun hc76 => ?_)
                    · replace hl3 := ite_t hc76 hl3
                      obtain ⟨x71, hx139, hl3⟩ := obind hl3
                      obtain ⟨x72, hx140, hl3⟩ := obind hl3
                      conv => whnf
                      refine DrawG.mk (.take 0 (.take 1 (.take 2 (.take 3 (.take 4 (.take 5 (.take 6 (.take 7 (.take 8 (.take 9 (.take 10 .done))))))))))) (by kernel_rfl) ?_
                      conv => whnf
                      refine Side.mk rfl ?_
                      conv => whnf
                      refine Side.mk rfl ⟨_, idx_0 hx139, idx_map _ hx139, ?_⟩
                      conv => whnf
                      refine Side.mk rfl ?_
                      conv => whnf
                      refine Side.mk rfl ⟨_, idx_0 hx140, idx_map _ hx140, ?_⟩
                      conv => whnf
                      refine Br.mk (fun hc78 => ?_) (fun hc78 => ?_)
                      · replace hl3 := ite_t hc78 hl3
                        conv => whnf
                        cases hl3
                        exact rfl
                      · replace hl3 := ite_f hc78 hl3
                        conv => whnf
                        refine ⟨(n3, w64 (v26 + 1)), hl3, Sub.eq rfl ?_ ?_, Nat.lt_succ_self _⟩
                        · repeat ((conv => whnf); refine Need.mk rfl ?_)
                          exact trivial
                        · conv => whnf
                          refine Need.mk (OLe.refl _) ?_
                          conv => whnf
                          refine Need.mk (OLe.refl _) ?_
                          exact trivial
                    · replace hl3 := ite_f hc76 hl3
                      conv => whnf
                      refine ⟨(), hl3, Sub.eq rfl ?_ ?_⟩
                      · repeat ((conv => whnf); refine Need.mk rfl ?_)
                        exact trivial
                      · exact trivial
              · clear h
                rintro _ h
                unfold law01FrameTaps_k1 at h
                obtain ⟨r46, hx110, h⟩ := obind h
                conv => whnf
                refine CallG.pure _ (law01WakesC hN hx110) ?_
                conv => whnf
                cases h
                exact rfl
end Go.Proofs.Ythjafigloabfpaa
