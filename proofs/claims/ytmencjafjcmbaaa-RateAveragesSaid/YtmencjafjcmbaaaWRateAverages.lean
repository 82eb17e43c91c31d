/-
  The walk of the law RateAverages.
-/
import Derived.Test.YtmencjafjcmbaaaDRateAverages
import Derived.Test.YtmencjafjcmbaaaWd
namespace Go.Proofs.Ytmencjafjcmbaaa
open Go Go.Abs Go.Kp
set_option maxRecDepth 100000
set_option maxHeartbeats 8000000
set_option linter.all false

theorem law07RateAveragesC {N : Nat} (hN : N ≤ 1073741824) {b1 : Ref07Book} {bowler1 : Int} {week1 : Int} {r : Bool} (h : law07RateAverages N b1 bowler1 week1 = some r) :
    ACalls Try.prog 4 [.d (.agg [I b1.fLaw.fBase, I b1.fLaw.fPercent, I b1.fLaw.fCap, I b1.fLaw.fLeast, I b1.fLaw.fBlind, .list 1 (List.map I b1.fBowlers), .list 6 (List.map Ref07Sheet.enc b1.fSheets), .list 1 (List.map I b1.fWithdrawn)]), .d (I bowler1), .d (I week1)] [] fun e os => e = .ret (.d (.bool r)) ∧ os = [] := by
  refine acalls_f (fresh := false) tt_ok dr_ok ⟨[3], [], [], [], [6, 7], 0, []⟩ Try.func4 rfl Try.call4 rfl ?_
  unfold law07RateAverages at h
  obtain ⟨r6, hx6, h⟩ := obind h
  conv => whnf
  refine CallG.pure _ (law07ThinC hN hx6) ?_
  conv => whnf
  refine Br.mk (fun hc2 => ?_) (fun hc2 => ?_)
  · replace h := ite_t hc2 h
    obtain ⟨r8, hx8, h⟩ := obind h
    conv => whnf
    refine CallG.pure _ (law07WakesC hN hx8) ?_
    conv => whnf
    cases h
    exact rfl
  · replace h := ite_f hc2 h
    obtain ⟨r10, hx11, h⟩ := obind h
    conv => whnf
    refine CallG.pure _ (law07BookC hN hx11) ?_
    obtain ⟨⟨ra2, rb2⟩, hx12, h⟩ := obind h
    conv => whnf
    refine CallG.pure _ (rateAverageC hN hx12) ?_
    obtain ⟨r16, hx19, h⟩ := obind h
    conv => whnf
    refine CallG.pure _ (law07AskedC hN hx19) ?_
    conv => whnf
    refine Br.mk (fun hc8 => ?_) (fun hc8 => ?_)
    · replace h := ite_t hc8 h
      obtain ⟨v2, hx21, h⟩ := obind h
      conv => whnf
      refine SeqG.mk Unit (fun y => [(6, .d (.bool v2))]) (fun y => []) (fun _ => True) ?_ ?_
      · conv => whnf
        refine Br.mk (fun hc11 => ?_) (fun hc11 => ?_)
        · replace hx21 := ite_t hc11 hx21
          conv => whnf
          refine Br.mk (fun hc12 => ?_) (fun hc12 => ?_)
          · replace hx21 := ite_t hc12 hx21
            obtain ⟨r18, hx22, hx21⟩ := obind hx21
            conv => whnf
            refine CallG.pure _ (law07WakesC hN hx22) ?_
            cases hx21
            conv => whnf
            refine ⟨(), trivial, Sub.eq rfl ?_ ?_⟩
            · repeat ((conv => whnf); refine Need.mk rfl ?_)
              exact trivial
            · exact trivial
          · replace hx21 := ite_f hc12 hx21
            cases hx21
            conv => whnf
            refine ⟨(), trivial, Sub.eq rfl ?_ ?_⟩
            · repeat ((conv => whnf); refine Need.mk rfl ?_)
              exact trivial
            · exact trivial
        · replace hx21 := ite_f hc11 hx21
          cases hx21
          conv => whnf
          refine ⟨(), trivial, Sub.eq rfl ?_ ?_⟩
          · repeat ((conv => whnf); refine Need.mk rfl ?_)
            exact trivial
          · exact trivial
      · rintro _ _
        conv => whnf
        cases h
        exact rfl
    · replace h := ite_f hc8 h
      obtain ⟨v3, hx25, h⟩ := obind h
      conv => whnf
      refine SeqG.mk Unit (fun y => [(6, .d (.bool v3))]) (fun y => []) (fun _ => True) ?_ ?_
      · conv => whnf
        refine Br.mk (fun hc15 => ?_) (fun hc15 => ?_)
        · replace hx25 := ite_t hc15 hx25
          obtain ⟨r21, hx26, hx25⟩ := obind hx25
          conv => whnf
          refine CallG.pure _ (ref07AverageC hN hx26) ?_
          conv => whnf
          refine Br.mk (fun hc16 => ?_) (fun hc16 => ?_)
          · replace hx25 := ite_t hc16 hx25
            obtain ⟨r22, hx27, hx25⟩ := obind hx25
            conv => whnf
            refine CallG.pure _ (law07WakesC hN hx27) ?_
            cases hx25
            conv => whnf
            refine ⟨(), trivial, Sub.eq rfl ?_ ?_⟩
            · repeat ((conv => whnf); refine Need.mk rfl ?_)
              exact trivial
            · exact trivial
          · replace hx25 := ite_f hc16 hx25
            cases hx25
            conv => whnf
            refine ⟨(), trivial, Sub.eq rfl ?_ ?_⟩
            · repeat ((conv => whnf); refine Need.mk rfl ?_)
              exact trivial
            · exact trivial
        · replace hx25 := ite_f hc15 hx25
          cases hx25
          conv => whnf
          refine ⟨(), trivial, Sub.eq rfl ?_ ?_⟩
          · repeat ((conv => whnf); refine Need.mk rfl ?_)
            exact trivial
          · exact trivial
      · rintro _ _
        conv => whnf
        cases h
        exact rfl
end Go.Proofs.Ytmencjafjcmbaaa
