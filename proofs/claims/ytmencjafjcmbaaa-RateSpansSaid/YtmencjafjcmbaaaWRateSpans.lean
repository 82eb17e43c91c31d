/-
  The walk of the law RateSpans.
-/
import Derived.Test.YtmencjafjcmbaaaDRateSpans
import Derived.Test.YtmencjafjcmbaaaWd
namespace Go.Proofs.Ytmencjafjcmbaaa
open Go Go.Abs Go.Kp
set_option maxRecDepth 100000
set_option maxHeartbeats 8000000
set_option linter.all false

theorem law07RateSpansC {N : Nat} (hN : N ≤ 1073741824) {b1 : Ref07Book} {bowler1 : Int} {week1 : Int} {weeks1 : List Int} {r : Bool} (h : law07RateSpans N b1 bowler1 week1 weeks1 = some r) :
    ACalls Try.prog 7 [.d (.agg [I b1.fLaw.fBase, I b1.fLaw.fPercent, I b1.fLaw.fCap, I b1.fLaw.fLeast, I b1.fLaw.fBlind, .list 1 (List.map I b1.fBowlers), .list 6 (List.map Ref07Sheet.enc b1.fSheets), .list 1 (List.map I b1.fWithdrawn)]), .d (I bowler1), .d (I week1), .d (.list 1 (List.map I weeks1))] [] fun e os => e = .ret (.d (.bool r)) ∧ os = [] := by
  refine acalls_f (fresh := false) tt_ok dr_ok ⟨[4], [], [], [], [1, 8, 10, 1005], 0, []⟩ Try.func7 rfl Try.call7 rfl ?_
  unfold law07RateSpans at h
  obtain ⟨v2, hx7, h⟩ := obind h
  conv => whnf
  refine SeqG.mk Unit (fun y => [(1, .d (I bowler1)), (2, .d (I week1)), (3, .d (.list 1 (List.map I weeks1))), (4, .d (.ref (.agg [I b1.fLaw.fBase, I b1.fLaw.fPercent, I b1.fLaw.fCap, I b1.fLaw.fLeast, I b1.fLaw.fBlind, .list 1 (List.map I b1.fBowlers), .list 6 (List.map Ref07Sheet.enc b1.fSheets), .list 1 (List.map I b1.fWithdrawn)]))), (20, .d (.bool v2))]) (fun y => []) (fun _ => True) ?_ ?_
  · obtain ⟨r6, hx8, hx7⟩ := obind hx7
    conv => whnf
    refine CallG.pure _ (law07ThinC hN hx8) ?_
    conv => whnf
    refine Br.mk (fun hc5 => ?_) (fun hc5 => ?_)
    · replace hx7 := ite_f hc5 hx7
      conv => whnf
      refine LnA.mk _ (List.length_map _) ?_
      cases hx7
      conv => whnf
      refine ⟨(), trivial, Sub.eq rfl ?_ ?_⟩
      · repeat ((conv => whnf); refine Need.mk rfl ?_)
        exact trivial
      · exact trivial
    · replace hx7 := ite_t hc5 hx7
      cases hx7
      conv => whnf
      refine ⟨(), trivial, Sub.eq rfl ?_ ?_⟩
      · repeat ((conv => whnf); refine Need.mk rfl ?_)
        exact trivial
      · exact trivial
  · rintro _ _
    conv => whnf
    refine Br.mk (fun hc6 => ?_) (fun hc6 => ?_)
    · replace h := ite_t hc6 h
      obtain ⟨r8, hx10, h⟩ := obind h
      conv => whnf
      refine CallG.pure _ (law07WakesC hN hx10) ?_
      conv => whnf
      cases h
      exact rfl
    · replace h := ite_f hc6 h
      obtain ⟨r11, hx14, h⟩ := obind h
      conv => whnf
      refine CallG.pure _ (law07BookC hN hx14) ?_
      obtain ⟨r12, hx15, h⟩ := obind h
      conv => whnf
      refine CallG.fresh 28 (law07ListC hN hx15) ?_
      intro hd2
      obtain ⟨⟨ra2, rb2⟩, hx16, h⟩ := obind h
      conv => whnf
      refine Side.mk rfl ?_
      conv => whnf
      refine CallG.pure _ (rateSpanC hN hx16) ?_
      conv => whnf
      intro b3
      conv => whnf
      refine Side.mk rfl ?_
      obtain ⟨r14, hx18, h⟩ := obind h
      conv => whnf
      refine CallG.pure _ (law07AskedC hN hx18) ?_
      obtain ⟨want1, hx20, h⟩ := obind h
      conv => whnf
      refine SeqG.mk Unit (fun y => [(1, .d (I bowler1)), (2, .d (I week1)), (3, .d (.list 1 (List.map I weeks1))), (4, .d (.ref (.agg [I b1.fLaw.fBase, I b1.fLaw.fPercent, I b1.fLaw.fCap, I b1.fLaw.fLeast, I b1.fLaw.fBlind, .list 1 (List.map I b1.fBowlers), .list 6 (List.map Ref07Sheet.enc b1.fSheets), .list 1 (List.map I b1.fWithdrawn)]))), (9, .ptr 9 b3 0), (10, .d (I rb2)), (11, .d (I want1))]) (fun y => [(9, .cells b3 [.d (I ra2.fLo), .d (I ra2.fHi)])]) (fun _ => True) ?_ ?_
      · conv => whnf
        refine Br.mk (fun hc8 => ?_) (fun hc8 => ?_)
        · replace hx20 := ite_t hc8 hx20
          obtain ⟨r16, hx21, hx20⟩ := obind hx20
          conv => whnf
          refine CallG.pure _ (ref07WeeksFaultC hN hx21) ?_
          cases hx20
          conv => whnf
          refine ⟨(), trivial, Sub.eq rfl ?_ ?_⟩
          · repeat ((conv => whnf); refine Need.mk rfl ?_)
            exact trivial
          · conv => whnf
            refine Need.mk (OLe.refl _) ?_
            exact trivial
        · replace hx20 := ite_f hc8 hx20
          cases hx20
          conv => whnf
          refine ⟨(), trivial, Sub.eq rfl ?_ ?_⟩
          · repeat ((conv => whnf); refine Need.mk rfl ?_)
            exact trivial
          · conv => whnf
            refine Need.mk (OLe.refl _) ?_
            exact trivial
      · rintro _ _
        conv => whnf
        refine Br.mk (fun hc14 => ?_) (fun hc14 => ?_)
        · replace h := ite_t hc14 h
          obtain ⟨v4, hx26, h⟩ := obind h
          conv => whnf
          refine SeqG.mk Unit (fun y => [(8, .d (.bool v4))]) (fun y => []) (fun _ => True) ?_ ?_
          · conv => whnf
            refine Br.mk (fun hc17 => ?_) (fun hc17 => ?_)
            · replace hx26 := ite_t hc17 hx26
              conv => whnf
              refine Side.mk rfl ?_
              conv => whnf
              refine Need.mk ⟨rfl, rfl⟩ (EqB.mk _ (RateRange.eqc ra2 (RateRange.mk 0 0)) ?_)
              conv => whnf
              refine Br.mk (fun hc18 => ?_) (fun hc18 => ?_)
              · replace hx26 := ite_t hc18 hx26
                obtain ⟨r20, hx27, hx26⟩ := obind hx26
                conv => whnf
                refine CallG.pure _ (law07WakesC hN hx27) ?_
                cases hx26
                conv => whnf
                refine ⟨(), trivial, Sub.eq rfl ?_ ?_⟩
                · repeat ((conv => whnf); refine Need.mk rfl ?_)
                  exact trivial
                · exact trivial
              · replace hx26 := ite_f hc18 hx26
                cases hx26
                conv => whnf
                refine ⟨(), trivial, Sub.eq rfl ?_ ?_⟩
                · repeat ((conv => whnf); refine Need.mk rfl ?_)
                  exact trivial
                · exact trivial
            · replace hx26 := ite_f hc17 hx26
              cases hx26
              conv => whnf
              refine ⟨(), trivial, Sub.eq rfl ?_ ?_⟩
              · repeat ((conv => whnf); refine Need.mk rfl ?_)
                exact trivial
              · exact trivial
          · rintro _ _
            conv => whnf
            cases h
            exact rfl
        · replace h := ite_f hc14 h
          conv => whnf
          refine LnA.mk _ (List.length_map _) ?_
          obtain ⟨v5, hx31, h⟩ := obind h
          conv => whnf
          refine SeqG.mk Unit (fun y => [(8, .d (.bool v5))]) (fun y => []) (fun _ => True) ?_ ?_
          · conv => whnf
            refine DrawG.mk (.take 0 (.take 1 (.take 2 (.spl 61 (.take 3 (.take 4 (.take 5 (.take 6 (.take 7 (.take 9 (.take 10 (.take 11 (.take 12 (.take 13 (.take 14 (.alt 8 [14, 13, 12, 11, 10, 9, 3, 1, 0] (.alt 15 [13, 3, 1, 0] (.alt 16 [13, 3, 1, 0] (.take 17 (.take 18 (.take 19 (.spl 78 (.alt 20 [18, 17, 13, 3, 1, 0] (.take 21 (.take 22 .done)) .nil))))) .nil) .nil) .nil)))))))))))))))) (by kernel_rfl) ?_
            conv => whnf
            refine Br.mk (fun hc21 => ?_) (fun hc21 => ?_)
            · replace hx31 := ite_t hc21 hx31
              obtain ⟨r24, hx32, hx31⟩ := obind hx31
              obtain ⟨r25, hx33, hx31⟩ := obind hx31
              conv => whnf
              refine Side.mk rfl ?_
              conv => whnf
              refine Both.mk ?_ trivial
              conv => whnf
              refine CallG.pure _ (ref07AverageC hN hx32) ?_
              conv => whnf
              refine Need.mk (AV.le_refl _) ?_
              conv => whnf
              refine Need.mk (AV.le_refl _) ?_
              conv => whnf
              refine Need.mk (AV.le_refl _) ?_
              conv => whnf
              refine Need.mk (AV.le_refl _) ?_
              conv => whnf
              refine Need.mk (AV.le_refl _) ?_
              conv => whnf
              refine Need.mk (AV.le_refl _) ?_
              conv => whnf
              refine Side.mk rfl ?_
              conv => whnf
              refine Need.mk (AV.le_refl _) ?_
              conv => whnf
              refine Need.mk (AV.le_refl _) ?_
              conv => whnf
              refine Need.mk (AV.le_refl _) ?_
              conv => whnf
              refine Both.mk ?_ trivial
              conv => whnf
              refine CallG.pure _ (ref07AverageC hN hx33) ?_
              conv => whnf
              refine Need.mk (AV.le_refl _) ?_
              conv => whnf
              refine Side.mk rfl ?_
              conv => whnf
              refine Need.mk (AV.le_refl _) ?_
              conv => whnf
              refine Need.mk (AV.le_refl _) ?_
              conv => whnf
              refine Need.mk (AV.le_refl _) ?_
              conv => whnf
              refine Both.mk ?_ trivial
              conv => whnf
              refine Need.mk (AV.le_refl _) ?_
              conv => whnf
              refine Side.mk rfl ?_
              conv => whnf
              refine Need.mk (AV.le_refl _) ?_
              conv => whnf
              refine Need.mk (AV.le_refl _) ?_
              conv => whnf
              refine Need.mk (AV.le_refl _) ?_
              conv => whnf
              refine Need.mk ⟨rfl, rfl⟩ (EqB.mk _ (RateRange.eqc ra2 (RateRange.mk r24 r25)) ?_)
              conv => whnf
              refine Br.mk (fun hc22 => ?_) (fun hc22 => ?_)
              · replace hx31 := ite_t hc22 hx31
                obtain ⟨r26, hx34, hx31⟩ := obind hx31
                conv => whnf
                refine Both.mk ?_ trivial
                conv => whnf
                refine CallG.pure _ (law07WakesC hN hx34) ?_
                conv => whnf
                refine Need.mk (AV.le_refl _) ?_
                conv => whnf
                refine Need.mk ⟨rfl, rfl⟩ (EqB.mk _ (RateRange.eqc ra2 (RateRange.mk r24 r25)) ?_)
                conv => whnf
                refine Need.mk (AV.le_refl _) ?_
                conv => whnf
                refine Need.mk (AV.le_refl _) ?_
                conv => whnf
                refine Side.mk rfl ?_
                conv => whnf
                refine Need.mk (AV.le_refl _) ?_
                conv => whnf
                refine Need.mk (AV.le_refl _) ?_
                conv => whnf
                refine Need.mk (AV.le_refl _) ?_
                cases hx31
                conv => whnf
                refine ⟨(), trivial, Sub.eq rfl ?_ ?_⟩
                · repeat ((conv => whnf); refine Need.mk rfl ?_)
                  exact trivial
                · exact trivial
              · replace hx31 := ite_f hc22 hx31
                conv => whnf
                refine Both.mk ?_ trivial
                conv => whnf
                refine Need.mk (AV.le_refl _) ?_
                conv => whnf
                refine Need.mk ⟨rfl, rfl⟩ (EqB.mk _ (RateRange.eqc ra2 (RateRange.mk r24 r25)) ?_)
                conv => whnf
                refine Need.mk (AV.le_refl _) ?_
                conv => whnf
                refine Need.mk (AV.le_refl _) ?_
                conv => whnf
                refine Side.mk rfl ?_
                conv => whnf
                refine Need.mk (AV.le_refl _) ?_
                conv => whnf
                refine Need.mk (AV.le_refl _) ?_
                conv => whnf
                refine Need.mk (AV.le_refl _) ?_
                cases hx31
                conv => whnf
                refine ⟨(), trivial, Sub.eq rfl ?_ ?_⟩
                · repeat ((conv => whnf); refine Need.mk rfl ?_)
                  exact trivial
                · exact trivial
            · replace hx31 := ite_f hc21 hx31
              conv => whnf
              refine Both.mk ?_ trivial
              conv => whnf
              refine Need.mk rfl ?_
              conv => whnf
              refine Need.mk rfl ?_
              conv => whnf
              refine Need.mk rfl ?_
              conv => whnf
              refine Need.mk rfl ?_
              conv => whnf
              refine Need.mk rfl ?_
              conv => whnf
              refine Need.mk rfl ?_
              conv => whnf
              refine Need.mk rfl ?_
              conv => whnf
              refine Need.mk (AV.le_refl _) ?_
              conv => whnf
              refine Need.mk (AV.le_refl _) ?_
              conv => whnf
              refine Both.mk ?_ trivial
              conv => whnf
              refine Need.mk rfl ?_
              conv => whnf
              refine Need.mk rfl ?_
              conv => whnf
              refine Need.mk (AV.le_refl _) ?_
              conv => whnf
              refine Need.mk (AV.le_refl _) ?_
              conv => whnf
              refine Both.mk ?_ trivial
              conv => whnf
              refine Need.mk rfl ?_
              conv => whnf
              refine Need.mk rfl ?_
              conv => whnf
              refine Need.mk (AV.le_refl _) ?_
              conv => whnf
              refine Need.mk (AV.le_refl _) ?_
              conv => whnf
              refine Both.mk ?_ trivial
              conv => whnf
              refine Need.mk (AV.le_refl _) ?_
              conv => whnf
              refine Need.mk rfl ?_
              conv => whnf
              refine Need.mk rfl ?_
              conv => whnf
              refine Need.mk rfl ?_
              conv => whnf
              refine Need.mk (AV.le_refl _) ?_
              conv => whnf
              refine Need.mk (AV.le_refl _) ?_
              cases hx31
              conv => whnf
              refine ⟨(), trivial, Sub.eq rfl ?_ ?_⟩
              · repeat ((conv => whnf); refine Need.mk rfl ?_)
                exact trivial
              · exact trivial
          · rintro _ _
            conv => whnf
            cases h
            exact rfl
end Go.Proofs.Ytmencjafjcmbaaa
