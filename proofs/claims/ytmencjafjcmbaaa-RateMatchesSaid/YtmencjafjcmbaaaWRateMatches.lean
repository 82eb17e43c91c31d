/-
  The walk of the law RateMatches.
-/
import Derived.Test.YtmencjafjcmbaaaDRateMatches
import Derived.Test.YtmencjafjcmbaaaWd
namespace Go.Proofs.Ytmencjafjcmbaaa
open Go Go.Abs Go.Kp
set_option maxRecDepth 100000
set_option maxHeartbeats 8000000
set_option linter.all false

theorem law07RateMatchesC {N : Nat} (hN : N ≤ 1073741824) {b1 : Ref07Book} {week1 : Int} {home1 : List Int} {away1 : List Int} {r : Bool} (h : law07RateMatches N b1 week1 home1 away1 = some r) :
    ACalls Try.prog 6 [.d (.agg [I b1.fLaw.fBase, I b1.fLaw.fPercent, I b1.fLaw.fCap, I b1.fLaw.fLeast, I b1.fLaw.fBlind, .list 1 (List.map I b1.fBowlers), .list 6 (List.map Ref07Sheet.enc b1.fSheets), .list 1 (List.map I b1.fWithdrawn)]), .d (I week1), .d (.list 1 (List.map I home1)), .d (.list 1 (List.map I away1))] [] fun e os => e = .ret (.d (.bool r)) ∧ os = [] := by
  refine acalls_f (fresh := false) tt_ok dr_ok ⟨[4], [], [], [], [1, 5, 10, 12, 1005, 1007], 0, []⟩ Try.func6 rfl Try.call6 rfl ?_
  unfold law07RateMatches at h
  obtain ⟨v2, hx7, h⟩ := obind h
  conv => whnf
  refine SeqG.mk Unit (fun y => [(1, .d (I week1)), (2, .d (.list 1 (List.map I home1))), (3, .d (.list 1 (List.map I away1))), (4, .d (.ref (.agg [I b1.fLaw.fBase, I b1.fLaw.fPercent, I b1.fLaw.fCap, I b1.fLaw.fLeast, I b1.fLaw.fBlind, .list 1 (List.map I b1.fBowlers), .list 6 (List.map Ref07Sheet.enc b1.fSheets), .list 1 (List.map I b1.fWithdrawn)]))), (27, .d (.bool v2))]) (fun y => []) (fun _ => True) ?_ ?_
  · obtain ⟨r6, hx8, hx7⟩ := obind hx7
    conv => whnf
    refine CallG.pure _ (law07ThinC hN hx8) ?_
    conv => whnf
    refine Br.mk (fun hc8 => ?_) (fun hc8 => ?_)
    · replace hx7 := ite_f hc8 hx7
      conv => whnf
      refine LnA.mk _ (List.length_map _) ?_
      conv => whnf
      refine Br.mk (fun hc9 => ?_) (fun hc9 => ?_)
      · replace hx7 := ite_f hc9 hx7
        conv => whnf
        refine LnA.mk _ (List.length_map _) ?_
        cases hx7
        conv => whnf
        refine ⟨(), trivial, Sub.eq rfl ?_ ?_⟩
        · repeat ((conv => whnf); refine Need.mk rfl ?_)
          exact trivial
        · exact trivial
      · replace hx7 := ite_t hc9 hx7
        cases hx7
        conv => whnf
        refine ⟨(), trivial, Sub.eq rfl ?_ ?_⟩
        · repeat ((conv => whnf); refine Need.mk rfl ?_)
          exact trivial
        · exact trivial
    · replace hx7 := ite_t hc8 hx7
      cases hx7
      conv => whnf
      refine ⟨(), trivial, Sub.eq rfl ?_ ?_⟩
      · repeat ((conv => whnf); refine Need.mk rfl ?_)
        exact trivial
      · exact trivial
  · rintro _ _
    conv => whnf
    refine Br.mk (fun hc10 => ?_) (fun hc10 => ?_)
    · replace h := ite_t hc10 h
      obtain ⟨r8, hx10, h⟩ := obind h
      conv => whnf
      refine CallG.pure _ (law07WakesC hN hx10) ?_
      conv => whnf
      cases h
      exact rfl
    · replace h := ite_f hc10 h
      obtain ⟨r12, hx15, h⟩ := obind h
      conv => whnf
      refine CallG.pure _ (law07BookC hN hx15) ?_
      obtain ⟨r13, hx16, h⟩ := obind h
      conv => whnf
      refine CallG.fresh 34 (law07ListC hN hx16) ?_
      intro hd3
      obtain ⟨r14, hx17, h⟩ := obind h
      conv => whnf
      refine CallG.fresh 36 (law07ListC hN hx17) ?_
      intro hd4
      obtain ⟨⟨ra2, rb2, rc2⟩, hx18, h⟩ := obind h
      conv => whnf
      refine Side.mk rfl ?_
      conv => whnf
      refine Side.mk rfl ?_
      conv => whnf
      refine CallG.pure _ (rateMatchC hN hx18) ?_
      obtain ⟨r16, hx20, h⟩ := obind h
      conv => whnf
      refine CallG.pure _ (law07FaultC hN hx20) ?_
      obtain ⟨want1, hx24, h⟩ := obind h
      conv => whnf
      refine SeqG.mk Unit (fun y => [(1, .d (I week1)), (2, .d (.list 1 (List.map I home1))), (3, .d (.list 1 (List.map I away1))), (4, .d (.ref (.agg [I b1.fLaw.fBase, I b1.fLaw.fPercent, I b1.fLaw.fCap, I b1.fLaw.fLeast, I b1.fLaw.fBlind, .list 1 (List.map I b1.fBowlers), .list 6 (List.map Ref07Sheet.enc b1.fSheets), .list 1 (List.map I b1.fWithdrawn)]))), (9, .d (I ra2)), (10, .d (I rb2)), (11, .d (I rc2)), (12, .d (I want1))]) (fun y => []) (fun _ => True) ?_ ?_
      · obtain ⟨v4, hx26, hx24⟩ := obind hx24
        conv => whnf
        refine SeqG.mk Unit (fun y => [(1, .d (I week1)), (2, .d (.list 1 (List.map I home1))), (3, .d (.list 1 (List.map I away1))), (4, .d (.ref (.agg [I b1.fLaw.fBase, I b1.fLaw.fPercent, I b1.fLaw.fCap, I b1.fLaw.fLeast, I b1.fLaw.fBlind, .list 1 (List.map I b1.fBowlers), .list 6 (List.map Ref07Sheet.enc b1.fSheets), .list 1 (List.map I b1.fWithdrawn)]))), (9, .d (I ra2)), (10, .d (I rb2)), (11, .d (I rc2)), (12, .d (I r16)), (49, .d (.bool v4))]) (fun y => []) (fun _ => True) ?_ ?_
        · conv => whnf
          refine Br.mk (fun hc15 => ?_) (fun hc15 => ?_)
          · replace hx26 := ite_t hc15 hx26
            obtain ⟨r20, hx27, hx26⟩ := obind hx26
            conv => whnf
            refine CallG.pure _ (ref07InC hN hx27) ?_
            cases hx26
            conv => whnf
            refine ⟨(), trivial, Sub.eq rfl ?_ ?_⟩
            · repeat ((conv => whnf); refine Need.mk rfl ?_)
              exact trivial
            · exact trivial
          · replace hx26 := ite_f hc15 hx26
            cases hx26
            conv => whnf
            refine ⟨(), trivial, Sub.eq rfl ?_ ?_⟩
            · repeat ((conv => whnf); refine Need.mk rfl ?_)
              exact trivial
            · exact trivial
        · rintro _ _
          conv => whnf
          refine Br.mk (fun hc16 => ?_) (fun hc16 => ?_)
          · replace hx24 := ite_t hc16 hx24
            cases hx24
            conv => whnf
            refine ⟨(), trivial, Sub.eq rfl ?_ ?_⟩
            · repeat ((conv => whnf); refine Need.mk rfl ?_)
              exact trivial
            · exact trivial
          · replace hx24 := ite_f hc16 hx24
            cases hx24
            conv => whnf
            refine ⟨(), trivial, Sub.eq rfl ?_ ?_⟩
            · repeat ((conv => whnf); refine Need.mk rfl ?_)
              exact trivial
            · exact trivial
      · rintro _ _
        obtain ⟨want2, hx29, h⟩ := obind h
        conv => whnf
        refine SeqG.mk Unit (fun y => [(1, .d (I week1)), (2, .d (.list 1 (List.map I home1))), (3, .d (.list 1 (List.map I away1))), (4, .d (.ref (.agg [I b1.fLaw.fBase, I b1.fLaw.fPercent, I b1.fLaw.fCap, I b1.fLaw.fLeast, I b1.fLaw.fBlind, .list 1 (List.map I b1.fBowlers), .list 6 (List.map Ref07Sheet.enc b1.fSheets), .list 1 (List.map I b1.fWithdrawn)]))), (9, .d (I ra2)), (10, .d (I rb2)), (11, .d (I rc2)), (12, .d (I want2))]) (fun y => []) (fun _ => True) ?_ ?_
        · conv => whnf
          refine Br.mk (fun hc18 => ?_) (fun hc18 => ?_)
          · replace hx29 := ite_t hc18 hx29
            obtain ⟨r22, hx30, hx29⟩ := obind hx29
            conv => whnf
            refine CallG.pure _ (ref07TeamsFaultC hN hx30) ?_
            cases hx29
            conv => whnf
            refine ⟨(), trivial, Sub.eq rfl ?_ ?_⟩
            · repeat ((conv => whnf); refine Need.mk rfl ?_)
              exact trivial
            · exact trivial
          · replace hx29 := ite_f hc18 hx29
            cases hx29
            conv => whnf
            refine ⟨(), trivial, Sub.eq rfl ?_ ?_⟩
            · repeat ((conv => whnf); refine Need.mk rfl ?_)
              exact trivial
            · exact trivial
        · rintro _ _
          conv => whnf
          refine Br.mk (fun hc26 => ?_) (fun hc26 => ?_)
          · replace h := ite_t hc26 h
            obtain ⟨v6, hx35, h⟩ := obind h
            conv => whnf
            refine SeqG.mk Unit (fun y => [(8, .d (.bool v6))]) (fun y => []) (fun _ => True) ?_ ?_
            · conv => whnf
              refine Br.mk (fun hc30 => ?_) (fun hc30 => ?_)
              · replace hx35 := ite_t hc30 hx35
                conv => whnf
                refine Br.mk (fun hc31 => ?_) (fun hc31 => ?_)
                · replace hx35 := ite_t hc31 hx35
                  conv => whnf
                  refine Br.mk (fun hc32 => ?_) (fun hc32 => ?_)
                  · replace hx35 := ite_t hc32 hx35
                    obtain ⟨r26, hx36, hx35⟩ := obind hx35
                    conv => whnf
                    refine CallG.pure _ (law07WakesC hN hx36) ?_
                    cases hx35
                    conv => whnf
                    refine ⟨(), trivial, Sub.eq rfl ?_ ?_⟩
                    · repeat ((conv => whnf); refine Need.mk rfl ?_)
                      exact trivial
                    · exact trivial
                  · replace hx35 := ite_f hc32 hx35
                    cases hx35
                    conv => whnf
                    refine ⟨(), trivial, Sub.eq rfl ?_ ?_⟩
                    · repeat ((conv => whnf); refine Need.mk rfl ?_)
                      exact trivial
                    · exact trivial
                · replace hx35 := ite_f hc31 hx35
                  cases hx35
                  conv => whnf
                  refine ⟨(), trivial, Sub.eq rfl ?_ ?_⟩
                  · repeat ((conv => whnf); refine Need.mk rfl ?_)
                    exact trivial
                  · exact trivial
              · replace hx35 := ite_f hc30 hx35
                cases hx35
                conv => whnf
                refine ⟨(), trivial, Sub.eq rfl ?_ ?_⟩
                · repeat ((conv => whnf); refine Need.mk rfl ?_)
                  exact trivial
                · exact trivial
            · rintro _ _
              conv => whnf
              cases h
              exact rfl
          · replace h := ite_f hc26 h
            obtain ⟨⟨ra4, rb4⟩, hx38, h⟩ := obind h
            conv => whnf
            refine CallG.pure _ (ref07MatchC hN hx38) ?_
            obtain ⟨v7, hx40, h⟩ := obind h
            conv => whnf
            refine SeqG.mk Unit (fun y => [(8, .d (.bool v7))]) (fun y => []) (fun _ => True) ?_ ?_
            · conv => whnf
              refine Br.mk (fun hc36 => ?_) (fun hc36 => ?_)
              · replace hx40 := ite_t hc36 hx40
                conv => whnf
                refine Br.mk (fun hc37 => ?_) (fun hc37 => ?_)
                · replace hx40 := ite_t hc37 hx40
                  conv => whnf
                  refine Br.mk (fun hc38 => ?_) (fun hc38 => ?_)
                  · replace hx40 := ite_t hc38 hx40
                    obtain ⟨r28, hx41, hx40⟩ := obind hx40
                    conv => whnf
                    refine CallG.pure _ (law07WakesC hN hx41) ?_
                    cases hx40
                    conv => whnf
                    refine ⟨(), trivial, Sub.eq rfl ?_ ?_⟩
                    · repeat ((conv => whnf); refine Need.mk rfl ?_)
                      exact trivial
                    · exact trivial
                  · replace hx40 := ite_f hc38 hx40
                    cases hx40
                    conv => whnf
                    refine ⟨(), trivial, Sub.eq rfl ?_ ?_⟩
                    · repeat ((conv => whnf); refine Need.mk rfl ?_)
                      exact trivial
                    · exact trivial
                · replace hx40 := ite_f hc37 hx40
                  cases hx40
                  conv => whnf
                  refine ⟨(), trivial, Sub.eq rfl ?_ ?_⟩
                  · repeat ((conv => whnf); refine Need.mk rfl ?_)
                    exact trivial
                  · exact trivial
              · replace hx40 := ite_f hc36 hx40
                cases hx40
                conv => whnf
                refine ⟨(), trivial, Sub.eq rfl ?_ ?_⟩
                · repeat ((conv => whnf); refine Need.mk rfl ?_)
                  exact trivial
                · exact trivial
            · rintro _ _
              conv => whnf
              cases h
              exact rfl
end Go.Proofs.Ytmencjafjcmbaaa
