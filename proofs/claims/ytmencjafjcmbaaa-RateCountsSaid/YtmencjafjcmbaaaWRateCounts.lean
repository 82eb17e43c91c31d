/-
  The walk of the law RateCounts.
-/
import Derived.Test.YtmencjafjcmbaaaDRateCounts
import Derived.Test.YtmencjafjcmbaaaWd
namespace Go.Proofs.Ytmencjafjcmbaaa
open Go Go.Abs Go.Kp
set_option maxRecDepth 100000
set_option maxHeartbeats 8000000
set_option linter.all false

theorem law07RateCountsC {N : Nat} (hN : N ≤ 1073741824) {b1 : Ref07Book} {r : Bool} (h : law07RateCounts N b1 = some r) :
    ACalls Try.prog 3 [.d (.agg [I b1.fLaw.fBase, I b1.fLaw.fPercent, I b1.fLaw.fCap, I b1.fLaw.fLeast, I b1.fLaw.fBlind, .list 1 (List.map I b1.fBowlers), .list 6 (List.map Ref07Sheet.enc b1.fSheets), .list 1 (List.map I b1.fWithdrawn)])] [] fun e os => e = .ret (.d (.bool r)) ∧ os = [] := by
  refine acalls_f (fresh := false) tt_ok dr_ok ⟨[1], [], [], [], [9, 10], 0, []⟩ Try.func3 rfl Try.call3 rfl ?_
  unfold law07RateCounts at h
  obtain ⟨r6, hx6, h⟩ := obind h
  conv => whnf
  refine CallG.pure _ (law07ThinC hN hx6) ?_
  conv => whnf
  refine Br.mk (fun hc2 => ?_) (fun hc2 => ?_)
  · replace h := ite_t hc2 h
    obtain ⟨r8, hx8, h⟩ := obind h
    conv => whnf
    refine CallG.pure _ (law07WakesC hN hx8) ?_
    conv => whnf
    cases h
    exact rfl
  · replace h := ite_f hc2 h
    obtain ⟨r11, hx11, h⟩ := obind h
    conv => whnf
    refine CallG.pure _ (law07BookC hN hx11) ?_
    obtain ⟨r12, hx12, h⟩ := obind h
    conv => whnf
    refine CallG.pure _ (rateCheckBookC hN hx12) ?_
    obtain ⟨r14, hx15, h⟩ := obind h
    conv => whnf
    refine CallG.pure _ (law07BookC hN hx15) ?_
    obtain ⟨⟨ra2, rb2⟩, hx16, h⟩ := obind h
    conv => whnf
    refine CallG.pure _ (rateCountingC hN hx16) ?_
    obtain ⟨r16, hx18, h⟩ := obind h
    conv => whnf
    refine CallG.pure _ (law07FaultC hN hx18) ?_
    conv => whnf
    refine Br.mk (fun hc4 => ?_) (fun hc4 => ?_)
    · replace h := ite_t hc4 h
      conv => whnf
      cases h
      exact rfl
    · replace h := ite_f hc4 h
      conv => whnf
      refine Br.mk (fun hc10 => ?_) (fun hc10 => ?_)
      · replace h := ite_t hc10 h
        obtain ⟨v2, hx23, h⟩ := obind h
        conv => whnf
        refine SeqG.mk Unit (fun y => [(2, .d (.bool v2))]) (fun y => []) (fun _ => True) ?_ ?_
        · conv => whnf
          refine Br.mk (fun hc13 => ?_) (fun hc13 => ?_)
          · replace hx23 := ite_t hc13 hx23
            conv => whnf
            refine LnA.mk _ (List.length_map _) ?_
            conv => whnf
            refine Br.mk (fun hc14 => ?_) (fun hc14 => ?_)
            · replace hx23 := ite_t hc14 hx23
              obtain ⟨r20, hx24, hx23⟩ := obind hx23
              conv => whnf
              refine CallG.pure _ (law07WakesC hN hx24) ?_
              cases hx23
              conv => whnf
              refine ⟨(), trivial, Sub.eq rfl ?_ ?_⟩
              · repeat ((conv => whnf); refine Need.mk rfl ?_)
                exact trivial
              · exact trivial
            · replace hx23 := ite_f hc14 hx23
              cases hx23
              conv => whnf
              refine ⟨(), trivial, Sub.eq rfl ?_ ?_⟩
              · repeat ((conv => whnf); refine Need.mk rfl ?_)
                exact trivial
              · exact trivial
          · replace hx23 := ite_f hc13 hx23
            cases hx23
            conv => whnf
            refine ⟨(), trivial, Sub.eq rfl ?_ ?_⟩
            · repeat ((conv => whnf); refine Need.mk rfl ?_)
              exact trivial
            · exact trivial
        · rintro _ _
          conv => whnf
          cases h
          exact rfl
      · replace h := ite_f hc10 h
        obtain ⟨v3, hx28, h⟩ := obind h
        conv => whnf
        refine SeqG.mk Unit (fun y => [(2, .d (.bool v3))]) (fun y => []) (fun _ => True) ?_ ?_
        · conv => whnf
          refine Br.mk (fun hc17 => ?_) (fun hc17 => ?_)
          · replace hx28 := ite_t hc17 hx28
            obtain ⟨r24, hx29, hx28⟩ := obind hx28
            conv => whnf
            refine CallG.pure _ (ref07CountingC hN hx29) ?_
            obtain ⟨r25, hx30, hx28⟩ := obind hx28
            conv => whnf
            refine CallG.pure _ (law07IntsC hN hx30) ?_
            conv => whnf
            refine Br.mk (fun hc18 => ?_) (fun hc18 => ?_)
            · replace hx28 := ite_t hc18 hx28
              obtain ⟨r26, hx31, hx28⟩ := obind hx28
              conv => whnf
              refine CallG.pure _ (law07WakesC hN hx31) ?_
              cases hx28
              conv => whnf
              refine ⟨(), trivial, Sub.eq rfl ?_ ?_⟩
              · repeat ((conv => whnf); refine Need.mk rfl ?_)
                exact trivial
              · exact trivial
            · replace hx28 := ite_f hc18 hx28
              cases hx28
              conv => whnf
              refine ⟨(), trivial, Sub.eq rfl ?_ ?_⟩
              · repeat ((conv => whnf); refine Need.mk rfl ?_)
                exact trivial
              · exact trivial
          · replace hx28 := ite_f hc17 hx28
            cases hx28
            conv => whnf
            refine ⟨(), trivial, Sub.eq rfl ?_ ?_⟩
            · repeat ((conv => whnf); refine Need.mk rfl ?_)
              exact trivial
            · exact trivial
        · rintro _ _
          conv => whnf
          cases h
          exact rfl
end Go.Proofs.Ytmencjafjcmbaaa
