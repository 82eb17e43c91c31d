/-
  The walk of the law FrameSpans.
-/
import Derived.Test.YthjafigloabfpaaDFrameSpans
import Derived.Test.YthjafigloabfpaaWd
namespace Go.Proofs.Ythjafigloabfpaa
open Go Go.Abs Go.Kp
set_option maxRecDepth 100000
set_option maxHeartbeats 8000000
set_option linter.all false

theorem law01FrameSpansC {N : Nat} (hN : N ≤ 1073741824) {l1 : Ref01Law} {sheet1 : List Int} {r : Bool} (h : law01FrameSpans N l1 sheet1 = some r) :
    ACalls Try.prog 5 [.d (.agg [I l1.fFrames, I l1.fPins, I l1.fBalls, I l1.fTap]), .d (.list 1 (List.map I sheet1))] [] fun e os => e = .ret (.d (.bool r)) ∧ os = [] := by
  refine acalls_f (fresh := false) tt_ok dr_ok ⟨[2], [], [], [], [6, 8], 0⟩ Try.func5 rfl Try.call5 rfl ?_
  unfold law01FrameSpans at h
  conv => whnf
  refine Ln.mk _ (List.length_map _) ?_
  conv => whnf
  refine Br.mk (fun hc2 => ?_) (fun hc2 => ?_)
  · replace h := ite_t hc2 h
    obtain ⟨r4, hx4, h⟩ := obind h
    conv => whnf
    refine CallG.pure _ (law01WakesC hN hx4) ?_
    conv => whnf
    cases h
    exact rfl
  · replace h := ite_f hc2 h
    obtain ⟨r7, hx8, h⟩ := obind h
    conv => whnf
    refine CallG.pure _ (law01LawC hN hx8) ?_
    obtain ⟨r8, hx9, h⟩ := obind h
    conv => whnf
    refine CallG.fresh 17 (law01ListC hN hx9) ?_
    intro hd2
    obtain ⟨⟨ra2, rb2⟩, hx10, h⟩ := obind h
    conv => whnf
    refine Side.mk rfl ?_
    conv => whnf
    refine CallG.pure _ (frameSpanC hN hx10) ?_
    conv => whnf
    intro b2
    conv => whnf
    refine Side.mk rfl ?_
    obtain ⟨r14, hx17, h⟩ := obind h
    conv => whnf
    refine CallG.pure _ (law01FaultC hN hx17) ?_
    conv => whnf
    refine Br.mk (fun hc8 => ?_) (fun hc8 => ?_)
    · replace h := ite_t hc8 h
      obtain ⟨v2, hx19, h⟩ := obind h
      conv => whnf
      refine SeqG.mk Unit (fun y => [(4, .d (.bool v2))]) (fun y => []) (fun _ => True) ?_ ?_
      · conv => whnf
        refine Br.mk (fun hc11 => ?_) (fun hc11 => ?_)
        · replace hx19 := ite_t hc11 hx19
          conv => whnf
          refine Side.mk rfl ?_
          conv => whnf
          refine Need.mk ⟨rfl, rfl⟩ (EqB.mk _ (FrameRange.eqc ra2 (FrameRange.mk 0 0)) ?_)
          conv => whnf
          refine Br.mk (fun hc12 => ?_) (fun hc12 => ?_)
          · replace hx19 := ite_t hc12 hx19
            obtain ⟨r16, hx20, hx19⟩ := obind hx19
            conv => whnf
            refine CallG.pure _ (law01WakesC hN hx20) ?_
            cases hx19
            conv => whnf
            refine ⟨(), trivial, Sub.eq rfl ?_ ?_⟩
            · repeat ((conv => whnf); refine Need.mk rfl ?_)
              exact trivial
            · exact trivial
          · replace hx19 := ite_f hc12 hx19
            cases hx19
            conv => whnf
            refine ⟨(), trivial, Sub.eq rfl ?_ ?_⟩
            · repeat ((conv => whnf); refine Need.mk rfl ?_)
              exact trivial
            · exact trivial
        · replace hx19 := ite_f hc11 hx19
          cases hx19
          conv => whnf
          refine ⟨(), trivial, Sub.eq rfl ?_ ?_⟩
          · repeat ((conv => whnf); refine Need.mk rfl ?_)
            exact trivial
          · exact trivial
      · rintro _ _
        conv => whnf
        cases h
        exact rfl
    · replace h := ite_f hc8 h
      obtain ⟨r18, hx22, h⟩ := obind h
      conv => whnf
      refine CallG.pure _ (ref01SpanC hN hx22) ?_
      conv => whnf
      intro b4
      conv => whnf
      refine Side.mk rfl ?_
      obtain ⟨v3, hx24, h⟩ := obind h
      conv => whnf
      refine SeqG.mk Unit (fun y => [(4, .d (.bool v3))]) (fun y => []) (fun _ => True) ?_ ?_
      · conv => whnf
        refine Br.mk (fun hc15 => ?_) (fun hc15 => ?_)
        · replace hx24 := ite_t hc15 hx24
          conv => whnf
          refine Side.mk rfl ?_
          conv => whnf
          refine Side.mk rfl ?_
          conv => whnf
          refine Side.mk rfl ?_
          conv => whnf
          refine Need.mk ⟨rfl, rfl⟩ (EqB.mk _ (FrameRange.eqc ra2 (FrameRange.mk r18.fLo r18.fHi)) ?_)
          conv => whnf
          refine Br.mk (fun hc16 => ?_) (fun hc16 => ?_)
          · replace hx24 := ite_t hc16 hx24
            obtain ⟨r20, hx25, hx24⟩ := obind hx24
            conv => whnf
            refine CallG.pure _ (law01WakesC hN hx25) ?_
            cases hx24
            conv => whnf
            refine ⟨(), trivial, Sub.eq rfl ?_ ?_⟩
            · repeat ((conv => whnf); refine Need.mk rfl ?_)
              exact trivial
            · exact trivial
          · replace hx24 := ite_f hc16 hx24
            cases hx24
            conv => whnf
            refine ⟨(), trivial, Sub.eq rfl ?_ ?_⟩
            · repeat ((conv => whnf); refine Need.mk rfl ?_)
              exact trivial
            · exact trivial
        · replace hx24 := ite_f hc15 hx24
          cases hx24
          conv => whnf
          refine ⟨(), trivial, Sub.eq rfl ?_ ?_⟩
          · repeat ((conv => whnf); refine Need.mk rfl ?_)
            exact trivial
          · exact trivial
      · rintro _ _
        conv => whnf
        cases h
        exact rfl
end Go.Proofs.Ythjafigloabfpaa
