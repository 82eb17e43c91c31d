/-
  The walk of the law FrameBads.
-/
import Derived.Test.YthjafigloabfpaaDFrameBads
import Derived.Test.YthjafigloabfpaaWd
namespace Go.Proofs.Ythjafigloabfpaa
open Go Go.Abs Go.Kp
set_option maxRecDepth 100000
set_option maxHeartbeats 8000000
set_option linter.all false

theorem law01FrameBadsC {N : Nat} (hN : N ≤ 1073741824) {a1 : Ref01Law} {a2 : List Int} {r : Bool} (h : law01FrameBads N a1 a2 = some r) :
    ACalls Try.prog 3 [.d (.agg [I a1.fFrames, I a1.fPins, I a1.fBalls, I a1.fTap]), .d (.list 1 (List.map I a2))] [] fun e os => e = .ret (.d (.bool r)) ∧ os = [] := by
  refine acalls_f (fresh := false) tt_ok dr_ok ⟨[2], [], [], [], [5, 10, 13, 14], 0⟩ Try.func3 rfl Try.call3 rfl ?_
  unfold law01FrameBads at h
  conv => whnf
  refine Ln.mk _ (List.length_map _) ?_
  conv => whnf
  refine Br.mk (fun hc2 => ?_) (fun hc2 => ?_)
  · replace h := ite_t hc2 h
    obtain ⟨r4, hx4, h⟩ := obind h
    conv => whnf
    refine CallG.pure _ (law01WakesC hN hx4) ?_
    conv => whnf
    cases h
    exact rfl
  · replace h := ite_f hc2 h
    obtain ⟨r7, hx7, h⟩ := obind h
    conv => whnf
    refine CallG.pure _ (law01LawC hN hx7) ?_
    obtain ⟨r8, hx8, h⟩ := obind h
    conv => whnf
    refine CallG.pure _ (frameCheckLawC hN hx8) ?_
    obtain ⟨r11, hx12, h⟩ := obind h
    conv => whnf
    refine CallG.pure _ (law01LawC hN hx12) ?_
    obtain ⟨r12, hx13, h⟩ := obind h
    conv => whnf
    refine CallG.fresh 22 (law01ListC hN hx13) ?_
    intro hd2
    obtain ⟨⟨ra2, rb2⟩, hx14, h⟩ := obind h
    conv => whnf
    refine Side.mk rfl ?_
    conv => whnf
    refine CallG.pure _ (frameBadC hN hx14) ?_
    obtain ⟨v2, hx19, h⟩ := obind h
    conv => whnf
    refine SeqG.mk Unit (fun y => [(1, .d (.list 1 (List.map I a2))), (2, .d (.ref (.agg [I a1.fFrames, I a1.fPins, I a1.fBalls, I a1.fTap]))), (6, .d (I ra2)), (7, .d (I rb2)), (38, .d (.bool v2))]) (fun y => []) (fun _ => True) ?_ ?_
    · obtain ⟨r16, hx20, hx19⟩ := obind hx19
      conv => whnf
      refine CallG.pure _ (ref01IsLawC hN hx20) ?_
      conv => whnf
      refine Br.mk (fun hc10 => ?_) (fun hc10 => ?_)
      · replace hx19 := ite_f hc10 hx19
        conv => whnf
        refine Br.mk (fun hc11 => ?_) (fun hc11 => ?_)
        · replace hx19 := ite_t hc11 hx19
          cases hx19
          conv => whnf
          refine ⟨(), trivial, Sub.eq rfl ?_ ?_⟩
          · repeat ((conv => whnf); refine Need.mk rfl ?_)
            exact trivial
          · exact trivial
        · replace hx19 := ite_f hc11 hx19
          cases hx19
          conv => whnf
          refine ⟨(), trivial, Sub.eq rfl ?_ ?_⟩
          · repeat ((conv => whnf); refine Need.mk rfl ?_)
            exact trivial
          · exact trivial
      · replace hx19 := ite_t hc10 hx19
        cases hx19
        conv => whnf
        refine ⟨(), trivial, Sub.eq rfl ?_ ?_⟩
        · repeat ((conv => whnf); refine Need.mk rfl ?_)
          exact trivial
        · exact trivial
    · rintro _ _
      conv => whnf
      refine Br.mk (fun hc12 => ?_) (fun hc12 => ?_)
      · replace h := ite_t hc12 h
        conv => whnf
        cases h
        exact rfl
      · replace h := ite_f hc12 h
        obtain ⟨r18, hx22, h⟩ := obind h
        conv => whnf
        refine CallG.pure _ (law01FaultC hN hx22) ?_
        conv => whnf
        refine Br.mk (fun hc23 => ?_) (fun hc23 => ?_)
        · replace h := ite_t hc23 h
          obtain ⟨v5, hx32, h⟩ := obind h
          conv => whnf
          refine SeqG.mk Unit (fun y => [(4, .d (.bool v5))]) (fun y => []) (fun _ => True) ?_ ?_
          · conv => whnf
            refine Br.mk (fun hc26 => ?_) (fun hc26 => ?_)
            · replace hx32 := ite_t hc26 hx32
              conv => whnf
              refine Br.mk (fun hc27 => ?_) (fun hc27 => ?_)
              · replace hx32 := ite_t hc27 hx32
                obtain ⟨r24, hx33, hx32⟩ := obind hx32
                conv => whnf
                refine CallG.pure _ (law01WakesC hN hx33) ?_
                cases hx32
                conv => whnf
                refine ⟨(), trivial, Sub.eq rfl ?_ ?_⟩
                · repeat ((conv => whnf); refine Need.mk rfl ?_)
                  exact trivial
                · exact trivial
              · replace hx32 := ite_f hc27 hx32
                cases hx32
                conv => whnf
                refine ⟨(), trivial, Sub.eq rfl ?_ ?_⟩
                · repeat ((conv => whnf); refine Need.mk rfl ?_)
                  exact trivial
                · exact trivial
            · replace hx32 := ite_f hc26 hx32
              cases hx32
              conv => whnf
              refine ⟨(), trivial, Sub.eq rfl ?_ ?_⟩
              · repeat ((conv => whnf); refine Need.mk rfl ?_)
                exact trivial
              · exact trivial
          · rintro _ _
            conv => whnf
            cases h
            exact rfl
        · replace h := ite_f hc23 h
          conv => whnf
          refine Br.mk (fun hc28 => ?_) (fun hc28 => ?_)
          · replace h := ite_t hc28 h
            obtain ⟨⟨ra6, rb6⟩, hx35, h⟩ := obind h
            conv => whnf
            refine CallG.pure _ (ref01PlayC hN hx35) ?_
            conv => whnf
            intro b4
            conv => whnf
            refine Side.mk rfl ?_
            obtain ⟨v6, hx37, h⟩ := obind h
            conv => whnf
            refine SeqG.mk Unit (fun y => [(4, .d (.bool v6))]) (fun y => []) (fun _ => True) ?_ ?_
            · conv => whnf
              refine Br.mk (fun hc31 => ?_) (fun hc31 => ?_)
              · replace hx37 := ite_t hc31 hx37
                conv => whnf
                refine Ln.mk _ (List.length_map _) ?_
                conv => whnf
                refine Br.mk (fun hc32 => ?_) (fun hc32 => ?_)
                · replace hx37 := ite_t hc32 hx37
                  obtain ⟨r26, hx38, hx37⟩ := obind hx37
                  conv => whnf
                  refine CallG.pure _ (law01WakesC hN hx38) ?_
                  cases hx37
                  conv => whnf
                  refine ⟨(), trivial, Sub.eq rfl ?_ ?_⟩
                  · repeat ((conv => whnf); refine Need.mk rfl ?_)
                    exact trivial
                  · exact trivial
                · replace hx37 := ite_f hc32 hx37
                  cases hx37
                  conv => whnf
                  refine ⟨(), trivial, Sub.eq rfl ?_ ?_⟩
                  · repeat ((conv => whnf); refine Need.mk rfl ?_)
                    exact trivial
                  · exact trivial
              · replace hx37 := ite_f hc31 hx37
                cases hx37
                conv => whnf
                refine ⟨(), trivial, Sub.eq rfl ?_ ?_⟩
                · repeat ((conv => whnf); refine Need.mk rfl ?_)
                  exact trivial
                · exact trivial
            · rintro _ _
              conv => whnf
              cases h
              exact rfl
          · replace h := ite_f hc28 h
            obtain ⟨v7, hx40, h⟩ := obind h
            conv => whnf
            refine SeqG.mk Unit (fun y => [(4, .d (.bool v7))]) (fun y => []) (fun _ => True) ?_ ?_
            · conv => whnf
              refine Br.mk (fun hc35 => ?_) (fun hc35 => ?_)
              · replace hx40 := ite_t hc35 hx40
                conv => whnf
                refine Br.mk (fun hc36 => ?_) (fun hc36 => ?_)
                · replace hx40 := ite_t hc36 hx40
                  obtain ⟨r28, hx41, hx40⟩ := obind hx40
                  conv => whnf
                  refine CallG.pure _ (law01WakesC hN hx41) ?_
                  cases hx40
                  conv => whnf
                  refine ⟨(), trivial, Sub.eq rfl ?_ ?_⟩
                  · repeat ((conv => whnf); refine Need.mk rfl ?_)
                    exact trivial
                  · exact trivial
                · replace hx40 := ite_f hc36 hx40
                  cases hx40
                  conv => whnf
                  refine ⟨(), trivial, Sub.eq rfl ?_ ?_⟩
                  · repeat ((conv => whnf); refine Need.mk rfl ?_)
                    exact trivial
                  · exact trivial
              · replace hx40 := ite_f hc35 hx40
                cases hx40
                conv => whnf
                refine ⟨(), trivial, Sub.eq rfl ?_ ?_⟩
                · repeat ((conv => whnf); refine Need.mk rfl ?_)
                  exact trivial
                · exact trivial
            · rintro _ _
              conv => whnf
              cases h
              exact rfl
end Go.Proofs.Ythjafigloabfpaa
