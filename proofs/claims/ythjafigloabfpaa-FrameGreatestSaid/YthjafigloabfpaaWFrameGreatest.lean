/-
  The walk of the law FrameGreatest.
-/
import Derived.Test.YthjafigloabfpaaDFrameGreatest
import Derived.Test.YthjafigloabfpaaWd
namespace Go.Proofs.Ythjafigloabfpaa
open Go Go.Abs Go.Kp
set_option maxRecDepth 100000
set_option maxHeartbeats 8000000
set_option linter.all false

theorem law01FrameGreatestC {N : Nat} (hN : N ≤ 1073741824) {l1 : Ref01Law} {r : Bool} (h : law01FrameGreatest N l1 = some r) :
    ACalls Try.prog 11 [.d (.agg [I l1.fFrames, I l1.fPins, I l1.fBalls, I l1.fTap])] [] fun e os => e = .ret (.d (.bool r)) ∧ os = [] := by
  refine acalls_f (fresh := false) tt_ok dr_ok ⟨[1], [], [], [], [3, 4], 0⟩ Try.func11 rfl Try.call11 rfl ?_
  unfold law01FrameGreatest at h
  obtain ⟨r2, hx3, h⟩ := obind h
  conv => whnf
  refine CallG.pure _ (law01LawC hN hx3) ?_
  obtain ⟨⟨ra2, rb2⟩, hx4, h⟩ := obind h
  conv => whnf
  refine CallG.pure _ (frameSpanC hN hx4) ?_
  conv => whnf
  intro b2
  conv => whnf
  refine Side.mk rfl ?_
  obtain ⟨r8, hx11, h⟩ := obind h
  conv => whnf
  refine CallG.pure _ (ref01IsLawC hN hx11) ?_
  conv => whnf
  refine Br.mk (fun hc6 => ?_) (fun hc6 => ?_)
  · replace h := ite_t hc6 h
    obtain ⟨v2, hx13, h⟩ := obind h
    conv => whnf
    refine SeqG.mk Unit (fun y => [(2, .d (.bool v2))]) (fun y => []) (fun _ => True) ?_ ?_
    · conv => whnf
      refine Br.mk (fun hc9 => ?_) (fun hc9 => ?_)
      · replace hx13 := ite_t hc9 hx13
        conv => whnf
        refine Side.mk rfl ?_
        conv => whnf
        refine Need.mk ⟨rfl, rfl⟩ (EqB.mk _ (FrameRange.eqc ra2 (FrameRange.mk 0 0)) ?_)
        conv => whnf
        refine Br.mk (fun hc10 => ?_) (fun hc10 => ?_)
        · replace hx13 := ite_t hc10 hx13
          obtain ⟨r10, hx14, hx13⟩ := obind hx13
          conv => whnf
          refine CallG.pure _ (law01WakesC hN hx14) ?_
          cases hx13
          conv => whnf
          refine ⟨(), trivial, Sub.eq rfl ?_ ?_⟩
          · repeat ((conv => whnf); refine Need.mk rfl ?_)
            exact trivial
          · exact trivial
        · replace hx13 := ite_f hc10 hx13
          cases hx13
          conv => whnf
          refine ⟨(), trivial, Sub.eq rfl ?_ ?_⟩
          · repeat ((conv => whnf); refine Need.mk rfl ?_)
            exact trivial
          · exact trivial
      · replace hx13 := ite_f hc9 hx13
        cases hx13
        conv => whnf
        refine ⟨(), trivial, Sub.eq rfl ?_ ?_⟩
        · repeat ((conv => whnf); refine Need.mk rfl ?_)
          exact trivial
        · exact trivial
    · rintro _ _
      conv => whnf
      cases h
      exact rfl
  · replace h := ite_f hc6 h
    obtain ⟨v3, hx16, h⟩ := obind h
    conv => whnf
    refine SeqG.mk Unit (fun y => [(2, .d (.bool v3))]) (fun y => []) (fun _ => True) ?_ ?_
    · conv => whnf
      refine Br.mk (fun hc13 => ?_) (fun hc13 => ?_)
      · replace hx16 := ite_t hc13 hx16
        conv => whnf
        refine Side.mk rfl ?_
        conv => whnf
        refine Need.mk ⟨rfl, rfl⟩ (EqB.mk _ (FrameRange.eqc ra2 ((FrameRange.mk 0 (w64 ((w64 (3 * l1.fPins)) * l1.fFrames))))) ?_)
        conv => whnf
        refine Br.mk (fun hc14 => ?_) (fun hc14 => ?_)
        · replace hx16 := ite_t hc14 hx16
          obtain ⟨r12, hx17, hx16⟩ := obind hx16
          conv => whnf
          refine CallG.pure _ (law01WakesC hN hx17) ?_
          cases hx16
          conv => whnf
          refine ⟨(), trivial, Sub.eq rfl ?_ ?_⟩
          · repeat ((conv => whnf); refine Need.mk rfl ?_)
            exact trivial
          · exact trivial
        · replace hx16 := ite_f hc14 hx16
          cases hx16
          conv => whnf
          refine ⟨(), trivial, Sub.eq rfl ?_ ?_⟩
          · repeat ((conv => whnf); refine Need.mk rfl ?_)
            exact trivial
          · exact trivial
      · replace hx16 := ite_f hc13 hx16
        cases hx16
        conv => whnf
        refine ⟨(), trivial, Sub.eq rfl ?_ ?_⟩
        · repeat ((conv => whnf); refine Need.mk rfl ?_)
          exact trivial
        · exact trivial
    · rintro _ _
      conv => whnf
      cases h
      exact rfl
end Go.Proofs.Ythjafigloabfpaa
