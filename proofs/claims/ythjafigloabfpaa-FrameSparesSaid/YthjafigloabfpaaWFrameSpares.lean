/-
  The walk of the law FrameSpares.
-/
import Derived.Test.YthjafigloabfpaaDFrameSpares
import Derived.Test.YthjafigloabfpaaWd
namespace Go.Proofs.Ythjafigloabfpaa
open Go Go.Abs Go.Kp
set_option maxRecDepth 100000
set_option maxHeartbeats 8000000
set_option linter.all false

theorem law01FrameSparesC {N : Nat} (hN : N ≤ 1073741824) {a1 : Ref01Law} {a2 : Int} {r : Bool} (h : law01FrameSpares N a1 a2 = some r) :
    ACalls Try.prog 12 [.d (.agg [I a1.fFrames, I a1.fPins, I a1.fBalls, I a1.fTap]), .d (.int .u8 a2)] [] fun e os => e = .ret (.d (.bool r)) ∧ os = [] := by
  refine acalls_f (fresh := false) tt_ok dr_ok ⟨[2], [], [], [], [10, 1005], 0⟩ Try.func12 rfl Try.call12 rfl ?_
  unfold law01FrameSpares at h
  obtain ⟨r6, hx6, h⟩ := obind h
  conv => whnf
  refine CallG.pure _ (ref01IsLawC hN hx6) ?_
  conv => whnf
  refine Br.mk (fun hc2 => ?_) (fun hc2 => ?_)
  · replace h := ite_t hc2 h
    obtain ⟨r8, hx8, h⟩ := obind h
    conv => whnf
    refine CallG.pure _ (law01WakesC hN hx8) ?_
    conv => whnf
    cases h
    exact rfl
  · replace h := ite_f hc2 h
    obtain ⟨_, hx10, h⟩ := obind h
    conv => whnf
    refine Need.mk (nz_ne hx10) ?_
    obtain ⟨⟨v10, l11⟩, hx17, h⟩ := obind h
    conv => whnf
    refine SeqG.mk Value (fun y => [(2, .d (.ref (.agg [I a1.fFrames, I a1.fPins, I a1.fBalls, I a1.fTap]))), (5, .d (I v10)), (6, .sl 32 y)]) (fun y => [(32, .arr y 3 1 false (List.map I l11))]) (fun _ => True) ?_ ?_
    · conv => whnf
      refine LoopG.mk (Nat × (Int × Int × (List Int)) × Value) (fun y => [(2, .d (.ref (.agg [I a1.fFrames, I a1.fPins, I a1.fBalls, I a1.fTap]))), (5, .d (I y.2.1.1)), (6, .sl 32 y.2.2), (7, .d (I y.2.1.2.1))]) (fun y => [(32, .arr y.2.2 3 1 false (List.map I y.2.1.2.2))]) (fun y => loopN (fun rr x => law01FrameSpares_b1 N a1 rr x.1 x.2.1 x.2.2) y.1 y.2.1 = some (v10, l11)) (fun y => y.1) (N, (Int.tmod (w64 a2) a1.fTap, 0, []), (.slice none 0 0)) hx17 (Sub.eq rfl ?_ ?_) ?_
      · repeat ((conv => whnf); refine Need.mk rfl ?_)
        exact trivial
      · conv => whnf
        refine Need.mk (OLe.nil _ _ _ _) ?_
        exact trivial
      · rintro ⟨n2, ⟨v18, v19, l19⟩, hd29⟩ hl2
        obtain ⟨n2, rfl, hl2⟩ := loopN_some hl2
        replace hl2 : law01FrameSpares_b1 N a1 (loopN (fun rr x => law01FrameSpares_b1 N a1 rr x.1 x.2.1 x.2.2) n2) v18 v19 l19 = some (v10, l11) := hl2
        rw [law01FrameSpares_b1] at hl2
        conv => whnf
        refine Br.mk (fun hc14 => ?_) (fun hc14 => ?_)
        · replace hl2 := ite_t hc14 hl2
          conv => whnf
          intro hd32
          obtain ⟨l21, hx23, hl2⟩ := obind hl2
          conv => whnf
          refine Side.mk ⟨rfl, rfl⟩ ?_
          conv => whnf
          refine Side.mk ⟨rfl, rfl, rfl⟩ (Need.mk (app_need hN hx23 (by decide)) (Eqv.mk (List.map I l21) (app_map _ hx23) ?_))
          conv => whnf
          intro hd33
          conv => whnf
          refine ⟨(n2, (v18, w64 (v19 + 1), l21), hd33), hl2, Sub.eq rfl ?_ ?_, Nat.lt_succ_self _⟩
          · repeat ((conv => whnf); refine Need.mk rfl ?_)
            exact trivial
          · conv => whnf
            refine Need.mk (OLe.refl _) ?_
            exact trivial
        · replace hl2 := ite_f hc14 hl2
          cases hl2
          conv => whnf
          refine ⟨hd29, trivial, Sub.eq rfl ?_ ?_⟩
          · repeat ((conv => whnf); refine Need.mk rfl ?_)
            exact trivial
          · conv => whnf
            refine Need.mk (OLe.refl _) ?_
            exact trivial
    · rintro hd17 _
      obtain ⟨r10, hx27, h⟩ := obind h
      conv => whnf
      refine CallG.pure _ (law01LawC hN hx27) ?_
      conv => whnf
      intro hd36
      obtain ⟨l23, hx28, h⟩ := obind h
      conv => whnf
      refine Side.mk ⟨rfl, rfl⟩ ?_
      conv => whnf
      refine Side.mk ⟨rfl, rfl, rfl⟩ (Need.mk (app_need hN hx28 (by decide)) (Eqv.mk (List.map I l23) (app_map _ hx28) ?_))
      conv => whnf
      intro hd37
      obtain ⟨⟨ra2, rb2⟩, hx29, h⟩ := obind h
      conv => whnf
      refine Side.mk rfl ?_
      conv => whnf
      refine CallG.pure _ (frameReadC hN hx29) ?_
      conv => whnf
      intro b2
      conv => whnf
      refine Side.mk rfl ?_
      obtain ⟨v20, hx32, h⟩ := obind h
      conv => whnf
      refine SeqG.mk Unit (fun y => [(4, .d (.bool v20))]) (fun y => []) (fun _ => True) ?_ ?_
      · conv => whnf
        refine DrawG.mk (.take 0 (.take 1 (.take 2 (.spl 45 (.take 3 (.take 4 (.take 5 (.take 6 (.spl 49 (.take 7 (.take 8 (.take 9 (.take 10 (.take 11 (.take 12 (.take 13 (.take 14 (.spl 57 (.take 15 (.take 16 (.take 17 (.take 18 (.take 19 (.take 20 (.take 21 (.take 22 (.take 23 (.take 24 (.take 25 (.take 26 (.take 27 (.take 28 (.take 29 (.take 30 (.take 31 (.spl 74 (.alt 32 [30, 29, 28, 27, 26, 25, 24, 23, 22, 21, 20, 19, 18, 17, 16, 15, 14, 13, 12, 11, 10, 9, 8, 7, 6, 5, 4, 3, 2, 1, 0] (.take 33 (.take 34 .done)) .nil))))))))))))))))))))))))))))))))))))) (by kernel_rfl) ?_
        conv => whnf
        refine Br.mk (fun hc19 => ?_) (fun hc19 => ?_)
        · replace hx32 := ite_t hc19 hx32
          conv => whnf
          refine Side.mk rfl ?_
          conv => whnf
          refine Br.mk (fun hc20 => ?_) (fun hc20 => ?_)
          · replace hx32 := ite_t hc20 hx32
            conv => whnf
            refine Side.mk rfl ?_
            conv => whnf
            refine Ln.mk _ (List.length_map _) ?_
            conv => whnf
            refine Br.mk (fun hc21 => ?_) (fun hc21 => ?_)
            · replace hx32 := ite_t hc21 hx32
              obtain ⟨x2, hx33, hx32⟩ := obind hx32
              conv => whnf
              refine Side.mk rfl ?_
              conv => whnf
              refine Side.mk rfl ⟨_, idx_0 hx33, idx_map _ hx33, ?_⟩
              conv => whnf
              refine Br.mk (fun hc22 => ?_) (fun hc22 => ?_)
              · replace hx32 := ite_t hc22 hx32
                obtain ⟨r12, hx34, hx32⟩ := obind hx32
                conv => whnf
                refine Both.mk ?_ trivial
                conv => whnf
                refine CallG.pure _ (law01WakesC hN hx34) ?_
                conv => whnf
                refine Need.mk (AV.le_refl _) ?_
                conv => whnf
                refine Need.mk (AV.le_refl _) ?_
                conv => whnf
                refine Need.mk (AV.le_refl _) ?_
                conv => whnf
                refine Need.mk (AV.le_refl _) ?_
                conv => whnf
                refine Need.mk (AV.le_refl _) ?_
                conv => whnf
                refine Need.mk (AV.le_refl _) ?_
                conv => whnf
                refine Need.mk (AV.le_refl _) ?_
                conv => whnf
                refine Need.mk (AV.le_refl _) ?_
                conv => whnf
                refine Need.mk (AV.le_refl _) ?_
                conv => whnf
                refine Need.mk (AV.le_refl _) ?_
                conv => whnf
                refine Side.mk rfl ⟨_, idx_0 hx33, idx_map _ hx33, ?_⟩
                conv => whnf
                refine Need.mk (AV.le_refl _) ?_
                conv => whnf
                refine Need.mk (AV.le_refl _) ?_
                conv => whnf
                refine Need.mk (AV.le_refl _) ?_
                conv => whnf
                refine Need.mk (AV.le_refl _) ?_
                conv => whnf
                refine Side.mk rfl ?_
                conv => whnf
                refine Need.mk (AV.le_refl _) ?_
                conv => whnf
                refine Need.mk (AV.le_refl _) ?_
                conv => whnf
                refine Need.mk (AV.le_bool hc21) ?_
                conv => whnf
                refine Need.mk (AV.le_refl _) ?_
                conv => whnf
                refine Need.mk (AV.le_refl _) ?_
                conv => whnf
                refine Need.mk (AV.le_refl _) ?_
                conv => whnf
                refine Need.mk (AV.le_refl _) ?_
                conv => whnf
                refine Ln.mk _ (List.length_map _) ?_
                conv => whnf
                refine Need.mk (AV.le_refl _) ?_
                conv => whnf
                refine Side.mk rfl ?_
                conv => whnf
                refine Need.mk (AV.le_refl _) ?_
                conv => whnf
                refine Need.mk (AV.le_refl _) ?_
                conv => whnf
                refine Need.mk (AV.le_bool hc20) ?_
                conv => whnf
                refine Need.mk (AV.le_refl _) ?_
                conv => whnf
                refine Side.mk rfl ?_
                conv => whnf
                refine Need.mk (AV.le_refl _) ?_
                conv => whnf
                refine Need.mk (AV.le_refl _) ?_
                conv => whnf
                refine Need.mk (AV.le_bool hc19) ?_
                conv => whnf
                refine Need.mk (AV.le_refl _) ?_
                conv => whnf
                refine Need.mk (AV.le_refl _) ?_
                cases hx32
                conv => whnf
                refine ⟨(), trivial, Sub.eq rfl ?_ ?_⟩
                · repeat ((conv => whnf); refine Need.mk rfl ?_)
                  exact trivial
                · exact trivial
              · replace hx32 := ite_f hc22 hx32
                conv => whnf
                refine Both.mk ?_ trivial
                conv => whnf
                refine Need.mk (AV.le_refl _) ?_
                conv => whnf
                refine Need.mk (AV.le_refl _) ?_
                conv => whnf
                refine Need.mk (AV.le_refl _) ?_
                conv => whnf
                refine Need.mk (AV.le_refl _) ?_
                conv => whnf
                refine Need.mk (AV.le_refl _) ?_
                conv => whnf
                refine Need.mk (AV.le_refl _) ?_
                conv => whnf
                refine Need.mk (AV.le_refl _) ?_
                conv => whnf
                refine Need.mk (AV.le_refl _) ?_
                conv => whnf
                refine Need.mk (AV.le_refl _) ?_
                conv => whnf
                refine Need.mk (AV.le_refl _) ?_
                conv => whnf
                refine Side.mk rfl ⟨_, idx_0 hx33, idx_map _ hx33, ?_⟩
                conv => whnf
                refine Need.mk (AV.le_refl _) ?_
                conv => whnf
                refine Need.mk (AV.le_refl _) ?_
                conv => whnf
                refine Need.mk (AV.le_refl _) ?_
                conv => whnf
                refine Need.mk (AV.le_refl _) ?_
                conv => whnf
                refine Side.mk rfl ?_
                conv => whnf
                refine Need.mk (AV.le_refl _) ?_
                conv => whnf
                refine Need.mk (AV.le_refl _) ?_
                conv => whnf
                refine Need.mk (AV.le_bool hc21) ?_
                conv => whnf
                refine Need.mk (AV.le_refl _) ?_
                conv => whnf
                refine Need.mk (AV.le_refl _) ?_
                conv => whnf
                refine Need.mk (AV.le_refl _) ?_
                conv => whnf
                refine Need.mk (AV.le_refl _) ?_
                conv => whnf
                refine Ln.mk _ (List.length_map _) ?_
                conv => whnf
                refine Need.mk (AV.le_refl _) ?_
                conv => whnf
                refine Side.mk rfl ?_
                conv => whnf
                refine Need.mk (AV.le_refl _) ?_
                conv => whnf
                refine Need.mk (AV.le_refl _) ?_
                conv => whnf
                refine Need.mk (AV.le_bool hc20) ?_
                conv => whnf
                refine Need.mk (AV.le_refl _) ?_
                conv => whnf
                refine Side.mk rfl ?_
                conv => whnf
                refine Need.mk (AV.le_refl _) ?_
                conv => whnf
                refine Need.mk (AV.le_refl _) ?_
                conv => whnf
                refine Need.mk (AV.le_bool hc19) ?_
                conv => whnf
                refine Need.mk (AV.le_refl _) ?_
                conv => whnf
                refine Need.mk (AV.le_refl _) ?_
                cases hx32
                conv => whnf
                refine ⟨(), trivial, Sub.eq rfl ?_ ?_⟩
                · repeat ((conv => whnf); refine Need.mk rfl ?_)
                  exact trivial
                · exact trivial
            · replace hx32 := ite_f hc21 hx32
              conv => whnf
              refine Both.mk ?_ trivial
              conv => whnf
              refine Need.mk (AV.le_refl _) ?_
              conv => whnf
              refine Need.mk rfl ?_
              conv => whnf
              refine Need.mk rfl ?_
              conv => whnf
              refine Need.mk rfl ?_
              conv => whnf
              refine Need.mk rfl ?_
              conv => whnf
              refine Need.mk rfl ?_
              conv => whnf
              refine Need.mk rfl ?_
              conv => whnf
              refine Need.mk rfl ?_
              conv => whnf
              refine Need.mk rfl ?_
              conv => whnf
              refine Need.mk rfl ?_
              conv => whnf
              refine Need.mk rfl ?_
              conv => whnf
              refine Need.mk rfl ?_
              conv => whnf
              refine Need.mk rfl ?_
              conv => whnf
              refine Need.mk rfl ?_
              conv => whnf
              refine Need.mk rfl ?_
              conv => whnf
              refine Need.mk rfl ?_
              conv => whnf
              refine Need.mk (AV.le_bool hc21) ?_
              conv => whnf
              refine Need.mk (AV.le_refl _) ?_
              conv => whnf
              refine Need.mk (AV.le_refl _) ?_
              conv => whnf
              refine Need.mk (AV.le_refl _) ?_
              conv => whnf
              refine Need.mk (AV.le_refl _) ?_
              conv => whnf
              refine Ln.mk _ (List.length_map _) ?_
              conv => whnf
              refine Need.mk (AV.le_refl _) ?_
              conv => whnf
              refine Side.mk rfl ?_
              conv => whnf
              refine Need.mk (AV.le_refl _) ?_
              conv => whnf
              refine Need.mk (AV.le_refl _) ?_
              conv => whnf
              refine Need.mk (AV.le_bool hc20) ?_
              conv => whnf
              refine Need.mk (AV.le_refl _) ?_
              conv => whnf
              refine Side.mk rfl ?_
              conv => whnf
              refine Need.mk (AV.le_refl _) ?_
              conv => whnf
              refine Need.mk (AV.le_refl _) ?_
              conv => whnf
              refine Need.mk (AV.le_bool hc19) ?_
              conv => whnf
              refine Need.mk (AV.le_refl _) ?_
              conv => whnf
              refine Need.mk (AV.le_refl _) ?_
              cases hx32
              conv => whnf
              refine ⟨(), trivial, Sub.eq rfl ?_ ?_⟩
              · repeat ((conv => whnf); refine Need.mk rfl ?_)
                exact trivial
              · exact trivial
          · replace hx32 := ite_f hc20 hx32
            conv => whnf
            refine Both.mk ?_ trivial
            conv => whnf
            refine Need.mk (AV.le_refl _) ?_
            conv => whnf
            refine Need.mk rfl ?_
            conv => whnf
            refine Need.mk rfl ?_
            conv => whnf
            refine Need.mk rfl ?_
            conv => whnf
            refine Need.mk rfl ?_
            conv => whnf
            refine Need.mk rfl ?_
            conv => whnf
            refine Need.mk rfl ?_
            conv => whnf
            refine Need.mk rfl ?_
            conv => whnf
            refine Need.mk rfl ?_
            conv => whnf
            refine Need.mk rfl ?_
            conv => whnf
            refine Need.mk rfl ?_
            conv => whnf
            refine Need.mk rfl ?_
            conv => whnf
            refine Need.mk rfl ?_
            conv => whnf
            refine Need.mk rfl ?_
            conv => whnf
            refine Need.mk rfl ?_
            conv => whnf
            refine Need.mk rfl ?_
            conv => whnf
            refine Need.mk (AV.le_refl _) ?_
            conv => whnf
            refine Need.mk (AV.le_refl _) ?_
            conv => whnf
            refine Need.mk rfl ?_
            conv => whnf
            refine Need.mk rfl ?_
            conv => whnf
            refine Need.mk rfl ?_
            conv => whnf
            refine Need.mk rfl ?_
            conv => whnf
            refine Need.mk rfl ?_
            conv => whnf
            refine Need.mk rfl ?_
            conv => whnf
            refine Need.mk (AV.le_bool hc20) ?_
            conv => whnf
            refine Need.mk (AV.le_refl _) ?_
            conv => whnf
            refine Side.mk rfl ?_
            conv => whnf
            refine Need.mk (AV.le_refl _) ?_
            conv => whnf
            refine Need.mk (AV.le_refl _) ?_
            conv => whnf
            refine Need.mk (AV.le_bool hc19) ?_
            conv => whnf
            refine Need.mk (AV.le_refl _) ?_
            conv => whnf
            refine Need.mk (AV.le_refl _) ?_
            cases hx32
            conv => whnf
            refine ⟨(), trivial, Sub.eq rfl ?_ ?_⟩
            · repeat ((conv => whnf); refine Need.mk rfl ?_)
              exact trivial
            · exact trivial
        · replace hx32 := ite_f hc19 hx32
          conv => whnf
          refine Both.mk ?_ trivial
          conv => whnf
          refine Need.mk (AV.le_refl _) ?_
          conv => whnf
          refine Need.mk rfl ?_
          conv => whnf
          refine Need.mk rfl ?_
          conv => whnf
          refine Need.mk rfl ?_
          conv => whnf
          refine Need.mk rfl ?_
          conv => whnf
          refine Need.mk rfl ?_
          conv => whnf
          refine Need.mk rfl ?_
          conv => whnf
          refine Need.mk rfl ?_
          conv => whnf
          refine Need.mk rfl ?_
          conv => whnf
          refine Need.mk rfl ?_
          conv => whnf
          refine Need.mk rfl ?_
          conv => whnf
          refine Need.mk rfl ?_
          conv => whnf
          refine Need.mk rfl ?_
          conv => whnf
          refine Need.mk rfl ?_
          conv => whnf
          refine Need.mk rfl ?_
          conv => whnf
          refine Need.mk rfl ?_
          conv => whnf
          refine Need.mk (AV.le_refl _) ?_
          conv => whnf
          refine Need.mk (AV.le_refl _) ?_
          conv => whnf
          refine Need.mk rfl ?_
          conv => whnf
          refine Need.mk rfl ?_
          conv => whnf
          refine Need.mk rfl ?_
          conv => whnf
          refine Need.mk rfl ?_
          conv => whnf
          refine Need.mk rfl ?_
          conv => whnf
          refine Need.mk rfl ?_
          conv => whnf
          refine Need.mk (AV.le_refl _) ?_
          conv => whnf
          refine Need.mk (AV.le_refl _) ?_
          conv => whnf
          refine Need.mk rfl ?_
          conv => whnf
          refine Need.mk rfl ?_
          conv => whnf
          refine Need.mk (AV.le_bool hc19) ?_
          conv => whnf
          refine Need.mk (AV.le_refl _) ?_
          conv => whnf
          refine Need.mk (AV.le_refl _) ?_
          cases hx32
          conv => whnf
          refine ⟨(), trivial, Sub.eq rfl ?_ ?_⟩
          · repeat ((conv => whnf); refine Need.mk rfl ?_)
            exact trivial
          · exact trivial
      · rintro _ _
        conv => whnf
        cases h
        exact rfl
end Go.Proofs.Ythjafigloabfpaa
