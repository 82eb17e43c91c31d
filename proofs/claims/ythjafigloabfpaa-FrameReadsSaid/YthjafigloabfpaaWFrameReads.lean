/-
  The walk of the law FrameReads.
-/
import Derived.Test.YthjafigloabfpaaDFrameReads
import Derived.Test.YthjafigloabfpaaWd
namespace Go.Proofs.Ythjafigloabfpaa
open Go Go.Abs Go.Kp
set_option maxRecDepth 100000
set_option maxHeartbeats 8000000
set_option linter.all false

theorem law01FrameReadsC {N : Nat} (hN : N ≤ 1073741824) {l1 : Ref01Law} {sheet1 : List Int} {r : Bool} (h : law01FrameReads N l1 sheet1 = some r) :
    ACalls Try.prog 4 [.d (.agg [I l1.fFrames, I l1.fPins, I l1.fBalls, I l1.fTap]), .d (.list 1 (List.map I sheet1))] [] fun e os => e = .ret (.d (.bool r)) ∧ os = [] := by
  refine acalls_f (fresh := false) tt_ok dr_ok ⟨[2], [], [], [], [6, 7], 0⟩ Try.func4 rfl Try.call4 rfl ?_
  unfold law01FrameReads at h
  conv => whnf
  refine Ln.mk _ (List.length_map _) ?_
  conv => whnf
  refine Br.mk (fun hc2 => ?_) (fun hc2 => ?_)
  · replace h := ite_t hc2 h
    obtain ⟨r4, hx4, h⟩ := obind h
    conv => whnf
    refine CallG.pure _ (law01WakesC hN hx4) ?_
    conv => whnf
    cases h
    exact rfl
  · replace h := ite_f hc2 h
    obtain ⟨r7, hx8, h⟩ := obind h
    conv => whnf
    refine CallG.pure _ (law01LawC hN hx8) ?_
    obtain ⟨r8, hx9, h⟩ := obind h
    conv => whnf
    refine CallG.fresh 16 (law01ListC hN hx9) ?_
    intro hd2
    obtain ⟨⟨ra2, rb2⟩, hx10, h⟩ := obind h
    conv => whnf
    refine Side.mk rfl ?_
    conv => whnf
    refine CallG.pure _ (frameReadC hN hx10) ?_
    conv => whnf
    intro b2
    conv => whnf
    refine Side.mk rfl ?_
    obtain ⟨r16, hx19, h⟩ := obind h
    conv => whnf
    refine CallG.pure _ (law01FaultC hN hx19) ?_
    conv => whnf
    refine Br.mk (fun hc8 => ?_) (fun hc8 => ?_)
    · replace h := ite_t hc8 h
      obtain ⟨v2, hx22, h⟩ := obind h
      conv => whnf
      refine SeqG.mk Unit (fun y => [(4, .d (.bool v2))]) (fun y => []) (fun _ => True) ?_ ?_
      · conv => whnf
        refine Br.mk (fun hc11 => ?_) (fun hc11 => ?_)
        · replace hx22 := ite_t hc11 hx22
          conv => whnf
          refine Side.mk rfl ?_
          obtain ⟨r19, hx23, hx22⟩ := obind hx22
          conv => whnf
          refine CallG.pure _ (law01SameC hN hx23) ?_
          conv => whnf
          refine Br.mk (fun hc12 => ?_) (fun hc12 => ?_)
          · replace hx22 := ite_t hc12 hx22
            obtain ⟨r20, hx24, hx22⟩ := obind hx22
            conv => whnf
            refine CallG.pure _ (law01WakesC hN hx24) ?_
            cases hx22
            conv => whnf
            refine ⟨(), trivial, Sub.eq rfl ?_ ?_⟩
            · repeat ((conv => whnf); refine Need.mk rfl ?_)
              exact trivial
            · exact trivial
          · replace hx22 := ite_f hc12 hx22
            cases hx22
            conv => whnf
            refine ⟨(), trivial, Sub.eq rfl ?_ ?_⟩
            · repeat ((conv => whnf); refine Need.mk rfl ?_)
              exact trivial
            · exact trivial
        · replace hx22 := ite_f hc11 hx22
          cases hx22
          conv => whnf
          refine ⟨(), trivial, Sub.eq rfl ?_ ?_⟩
          · repeat ((conv => whnf); refine Need.mk rfl ?_)
            exact trivial
          · exact trivial
      · rintro _ _
        conv => whnf
        cases h
        exact rfl
    · replace h := ite_f hc8 h
      obtain ⟨v3, hx28, h⟩ := obind h
      conv => whnf
      refine SeqG.mk Unit (fun y => [(4, .d (.bool v3))]) (fun y => []) (fun _ => True) ?_ ?_
      · conv => whnf
        refine DrawG.mk (.take 0 (.take 1 (.take 2 (.spl 38 (.take 3 (.take 4 (.take 5 (.alt 6 [3, 1, 0] (.alt 7 [1, 0] (.take 8 (.take 9 (.spl 45 (.alt 10 [8, 1, 0] (.take 11 (.take 12 .done)) .nil)))) .nil) .nil)))))))) (by kernel_rfl) ?_
        conv => whnf
        refine Br.mk (fun hc15 => ?_) (fun hc15 => ?_)
        · replace hx28 := ite_t hc15 hx28
          obtain ⟨r24, hx29, hx28⟩ := obind hx28
          obtain ⟨r25, hx30, hx28⟩ := obind hx28
          conv => whnf
          refine Side.mk rfl ?_
          conv => whnf
          refine Both.mk ?_ trivial
          conv => whnf
          refine CallG.pure _ (ref01ReadC hN hx29) ?_
          conv => whnf
          refine Side.mk rfl ?_
          conv => whnf
          refine Need.mk (AV.le_refl _) ?_
          conv => whnf
          refine Need.mk (AV.le_refl _) ?_
          conv => whnf
          refine Need.mk (AV.le_refl _) ?_
          conv => whnf
          refine Both.mk ?_ trivial
          conv => whnf
          refine CallG.pure _ (law01SameC hN hx30) ?_
          conv => whnf
          refine Need.mk (AV.le_refl _) ?_
          conv => whnf
          refine Need.mk (AV.le_refl _) ?_
          conv => whnf
          refine Br.mk (fun hc16 => ?_) (fun hc16 => ?_)
          · replace hx28 := ite_t hc16 hx28
            obtain ⟨r26, hx31, hx28⟩ := obind hx28
            conv => whnf
            refine Both.mk ?_ trivial
            conv => whnf
            refine CallG.pure _ (law01WakesC hN hx31) ?_
            conv => whnf
            refine Need.mk (AV.le_refl _) ?_
            conv => whnf
            refine Need.mk (AV.le_refl _) ?_
            conv => whnf
            refine Need.mk (AV.le_refl _) ?_
            cases hx28
            conv => whnf
            refine ⟨(), trivial, Sub.eq rfl ?_ ?_⟩
            · repeat ((conv => whnf); refine Need.mk rfl ?_)
              exact trivial
            · exact trivial
          · replace hx28 := ite_f hc16 hx28
            conv => whnf
            refine Both.mk ?_ trivial
            conv => whnf
            refine Need.mk (AV.le_refl _) ?_
            conv => whnf
            refine Need.mk (AV.le_refl _) ?_
            conv => whnf
            refine Need.mk (AV.le_refl _) ?_
            cases hx28
            conv => whnf
            refine ⟨(), trivial, Sub.eq rfl ?_ ?_⟩
            · repeat ((conv => whnf); refine Need.mk rfl ?_)
              exact trivial
            · exact trivial
        · replace hx28 := ite_f hc15 hx28
          conv => whnf
          refine Both.mk ?_ trivial
          conv => whnf
          refine Need.mk rfl ?_
          conv => whnf
          refine Need.mk (AV.le_refl _) ?_
          conv => whnf
          refine Need.mk (AV.le_refl _) ?_
          conv => whnf
          refine Both.mk ?_ trivial
          conv => whnf
          refine Need.mk (AV.le_refl _) ?_
          conv => whnf
          refine Need.mk (AV.le_refl _) ?_
          conv => whnf
          refine Both.mk ?_ trivial
          conv => whnf
          refine Need.mk (AV.le_refl _) ?_
          conv => whnf
          refine Need.mk (AV.le_refl _) ?_
          conv => whnf
          refine Need.mk (AV.le_refl _) ?_
          cases hx28
          conv => whnf
          refine ⟨(), trivial, Sub.eq rfl ?_ ?_⟩
          · repeat ((conv => whnf); refine Need.mk rfl ?_)
            exact trivial
          · exact trivial
      · rintro _ _
        conv => whnf
        cases h
        exact rfl
end Go.Proofs.Ythjafigloabfpaa
