/-
  The walk of the law RateLater.
-/
import Derived.Test.YtmencjafjcmbaaaDRateLater
import Derived.Test.YtmencjafjcmbaaaWd
namespace Go.Proofs.Ytmencjafjcmbaaa
open Go Go.Abs Go.Kp
set_option maxRecDepth 100000
set_option maxHeartbeats 8000000
set_option linter.all false

theorem law07RateLaterC {N : Nat} (hN : N ≤ 1073741824) {b1 : Ref07Book} {bowler1 : Int} {week1 : Int} {r : Bool} (h : law07RateLater N b1 bowler1 week1 = some r) :
    ACalls Try.prog 11 [.d (.agg [I b1.fLaw.fBase, I b1.fLaw.fPercent, I b1.fLaw.fCap, I b1.fLaw.fLeast, I b1.fLaw.fBlind, .list 1 (List.map I b1.fBowlers), .list 6 (List.map Ref07Sheet.enc b1.fSheets), .list 1 (List.map I b1.fWithdrawn)]), .d (.int .u8 bowler1), .d (.int .u8 week1)] [] fun e os => e = .ret (.d (.bool r)) ∧ os = [] := by
  refine acalls_f (fresh := false) tt_ok dr_ok ⟨[3], [], [], [], [1, 10, 12, 1006, 1009], 0, []⟩ Try.func11 rfl Try.call11 rfl ?_
  unfold law07RateLater at h
  obtain ⟨v2, hx7, h⟩ := obind h
  conv => whnf
  refine SeqG.mk Unit (fun y => [(1, .d (.int .u8 bowler1)), (2, .d (.int .u8 week1)), (3, .d (.ref (.agg [I b1.fLaw.fBase, I b1.fLaw.fPercent, I b1.fLaw.fCap, I b1.fLaw.fLeast, I b1.fLaw.fBlind, .list 1 (List.map I b1.fBowlers), .list 6 (List.map Ref07Sheet.enc b1.fSheets), .list 1 (List.map I b1.fWithdrawn)]))), (20, .d (.bool v2))]) (fun y => []) (fun _ => True) ?_ ?_
  ·obtain ⟨r6, hx8, hx7⟩ := obind hx7
   conv => whnf
   refine CallG.pure _ (law07ReadyC hN hx8) ?_
   conv => whnf
   refine Br.mk (fun hc5 => ?_) (fun hc5 => ?_)
   ·replace hx7 := ite_f hc5 hx7
    conv => whnf
    refine LnA.mk _ (List.length_map _) ?_
    cases hx7
    conv => whnf
    refine ⟨(), trivial, Sub.eq rfl ?_ ?_⟩
    ·repeat ((conv => whnf); refine Need.mk rfl ?_)
     exact trivial
    ·exact trivial
   ·replace hx7 := ite_t hc5 hx7
    cases hx7
    conv => whnf
    refine ⟨(), trivial, Sub.eq rfl ?_ ?_⟩
    ·repeat ((conv => whnf); refine Need.mk rfl ?_)
     exact trivial
    ·exact trivial
  ·rintro _ _
   conv => whnf
   refine Br.mk (fun hc6 => ?_) (fun hc6 => ?_)
   ·replace h := ite_t hc6 h
    obtain ⟨r8, hx10, h⟩ := obind h
    conv => whnf
    refine CallG.pure _ (law07WakesC hN hx10) ?_
    conv => whnf
    cases h
    exact rfl
   ·replace h := ite_f hc6 h
    conv => whnf
    refine LnA.mk _ (List.length_map _) ?_
    obtain ⟨_, hx12, h⟩ := obind h
    conv => whnf
    refine Need.mk (nz_ne hx12) ?_
    conv => whnf
    refine Need.mk (by decide) ?_
    conv => whnf
    intro b3
    conv => whnf
    refine Side.mk rfl ?_
    conv => whnf
    refine Side.mk rfl ?_
    obtain ⟨⟨k6, w6, l14⟩, hx40, h⟩ := obind h
    conv => whnf
    refine SeqG.mk Value (fun y => [(3, .d (.ref (.agg [I b1.fLaw.fBase, I b1.fLaw.fPercent, I b1.fLaw.fCap, I b1.fLaw.fLeast, I b1.fLaw.fBlind, .list 1 (List.map I b1.fBowlers), .list 6 (List.map Ref07Sheet.enc b1.fSheets), .list 1 (List.map I b1.fWithdrawn)]))), (7, .d (I k6)), (8, .d (I w6)), (9, .ptr 9 b3 0)]) (fun y => [(9, .cells b3 [.d (I b1.fLaw.fBase), .d (I b1.fLaw.fPercent), .d (I b1.fLaw.fCap), .d (I b1.fLaw.fLeast), .d (I b1.fLaw.fBlind), .d (.list 1 (List.map I b1.fBowlers)), .sl 60 y, .d (.list 1 (List.map I b1.fWithdrawn))]), (60, .arr y 68 6 false (List.map Ref07Sheet.enc l14))]) (fun _ => True) ?_ ?_
    ·conv => whnf
     refine LoopG.mk (Nat × (Int × Int × Int × (List Ref07Sheet)) × Value) (fun y => [(3, .d (.ref (.agg [I b1.fLaw.fBase, I b1.fLaw.fPercent, I b1.fLaw.fCap, I b1.fLaw.fLeast, I b1.fLaw.fBlind, .list 1 (List.map I b1.fBowlers), .list 6 (List.map Ref07Sheet.enc b1.fSheets), .list 1 (List.map I b1.fWithdrawn)]))), (7, .d (I y.2.1.1)), (8, .d (I y.2.1.2.1)), (9, .ptr 9 b3 0), (10, .d (I y.2.1.2.2.1))]) (fun y => [(9, .cells b3 [.d (I b1.fLaw.fBase), .d (I b1.fLaw.fPercent), .d (I b1.fLaw.fCap), .d (I b1.fLaw.fLeast), .d (I b1.fLaw.fBlind), .d (.list 1 (List.map I b1.fBowlers)), .sl 60 y.2.2, .d (.list 1 (List.map I b1.fWithdrawn))]), (60, .arr y.2.2 68 6 false (List.map Ref07Sheet.enc y.2.1.2.2.2))]) (fun y => loopN (fun rr x => law07RateLater_b1 N b1 rr x.1 x.2.1 x.2.2.1 x.2.2.2) y.1 y.2.1 = some (k6, w6, l14)) (fun y => y.1) (N, (Int.tmod (w64 bowler1) (b1.fBowlers.length : Int), w64 (1 + (Int.tmod (w64 week1) 30)), 0, []), (.slice none 0 0)) hx40 (Sub.eq rfl ?_ ?_) ?_
     ·repeat ((conv => whnf); refine Need.mk rfl ?_)
      exact trivial
     ·conv => whnf
      refine Need.mk (OLe.cells _ _ _ (by repeat (first | exact trivial | ((conv => whnf); refine Need.mk rfl ?_)))) ?_
      conv => whnf
      refine Need.mk (OLe.nil _ _ _ _) ?_
      exact trivial
     ·rintro ⟨n2, ⟨k11, w11, i8, l24⟩, hd34⟩ hl2
      obtain ⟨n2, rfl, hl2⟩ := loopN_some hl2
      replace hl2 : law07RateLater_b1 N b1 (loopN (fun rr x => law07RateLater_b1 N b1 rr x.1 x.2.1 x.2.2.1 x.2.2.2) n2) k11 w11 i8 l24 = some (k6, w6, l14) := hl2
      rw [law07RateLater_b1] at hl2
      conv => whnf
      refine LnA.mk _ (List.length_map _) ?_
      conv => whnf
      refine Br.mk (fun hc48 => ?_) (fun hc48 => ?_)
      ·replace hl2 := ite_t hc48 hl2
       obtain ⟨l26, hx63, hl2⟩ := obind hl2
       conv => whnf
       refine SeqG.mk Value (fun y => [(3, .d (.ref (.agg [I b1.fLaw.fBase, I b1.fLaw.fPercent, I b1.fLaw.fCap, I b1.fLaw.fLeast, I b1.fLaw.fBlind, .list 1 (List.map I b1.fBowlers), .list 6 (List.map Ref07Sheet.enc b1.fSheets), .list 1 (List.map I b1.fWithdrawn)]))), (7, .d (I k11)), (8, .d (I w11)), (9, .ptr 9 b3 0), (10, .d (I i8))]) (fun y => [(9, .cells b3 [.d (I b1.fLaw.fBase), .d (I b1.fLaw.fPercent), .d (I b1.fLaw.fCap), .d (I b1.fLaw.fLeast), .d (I b1.fLaw.fBlind), .d (.list 1 (List.map I b1.fBowlers)), .sl 60 y, .d (.list 1 (List.map I b1.fWithdrawn))]), (60, .arr y 68 6 false (List.map Ref07Sheet.enc l26))]) (fun _ => True) ?_ ?_
       ·obtain ⟨x24, hx65, hx63⟩ := obind hx63
        conv => whnf
        refine Side.mk rfl ⟨_, idx_0 hx65, idx_map _ hx65, ?_⟩
        conv => whnf
        intro b27
        conv => whnf
        refine Side.mk rfl ?_
        obtain ⟨v14, hx66, hx63⟩ := obind hx63
        conv => whnf
        refine SeqG.mk Unit (fun y => [(3, .d (.ref (.agg [I b1.fLaw.fBase, I b1.fLaw.fPercent, I b1.fLaw.fCap, I b1.fLaw.fLeast, I b1.fLaw.fBlind, .list 1 (List.map I b1.fBowlers), .list 6 (List.map Ref07Sheet.enc b1.fSheets), .list 1 (List.map I b1.fWithdrawn)]))), (7, .d (I k11)), (8, .d (I w11)), (9, .ptr 9 b3 0), (10, .d (I i8)), (11, .ptr 11 b27 0), (55, .d (.bool v14))]) (fun y => [(9, .cells b3 [.d (I b1.fLaw.fBase), .d (I b1.fLaw.fPercent), .d (I b1.fLaw.fCap), .d (I b1.fLaw.fLeast), .d (I b1.fLaw.fBlind), .d (.list 1 (List.map I b1.fBowlers)), .sl 60 hd34, .d (.list 1 (List.map I b1.fWithdrawn))]), (11, .cells b27 [.d (I x24.fNumber), .d (I x24.fBowler), .d (I x24.fWeek), .d (I x24.fGames.a0), .d (I x24.fGames.a1), .d (I x24.fGames.a2)]), (60, .arr hd34 68 6 false (List.map Ref07Sheet.enc l24))]) (fun _ => True) ?_ ?_
        ·conv => whnf
         refine Side.mk rfl ?_
         conv => whnf
         refine Br.mk (fun hc53 => ?_) (fun hc53 => ?_)
         ·replace hx66 := ite_t hc53 hx66
          conv => whnf
          refine Side.mk rfl ?_
          cases hx66
          conv => whnf
          refine ⟨(), trivial, Sub.eq rfl ?_ ?_⟩
          ·repeat ((conv => whnf); refine Need.mk rfl ?_)
           exact trivial
          ·conv => whnf
           refine Need.mk (OLe.refl _) ?_
           conv => whnf
           refine Need.mk (OLe.refl _) ?_
           conv => whnf
           refine Need.mk (OLe.refl _) ?_
           exact trivial
         ·replace hx66 := ite_f hc53 hx66
          cases hx66
          conv => whnf
          refine ⟨(), trivial, Sub.eq rfl ?_ ?_⟩
          ·repeat ((conv => whnf); refine Need.mk rfl ?_)
           exact trivial
          ·conv => whnf
           refine Need.mk (OLe.refl _) ?_
           conv => whnf
           refine Need.mk (OLe.refl _) ?_
           conv => whnf
           refine Need.mk (OLe.refl _) ?_
           exact trivial
        ·rintro _ _
         conv => whnf
         refine Br.mk (fun hc54 => ?_) (fun hc54 => ?_)
         ·replace hx63 := ite_t hc54 hx63
          conv => whnf
          refine Side.mk rfl ?_
          conv => whnf
          refine Side.mk rfl ?_
          conv => whnf
          intro hd38
          obtain ⟨l27, hx67, hx63⟩ := obind hx63
          conv => whnf
          refine Side.mk ⟨rfl, rfl⟩ ?_
          conv => whnf
          refine Side.mk ⟨rfl, rfl, rfl⟩ (Need.mk (app_need hN hx67 (by decide)) (Eqv.mk (List.map Ref07Sheet.enc l27) (app_map _ hx67) ?_))
          conv => whnf
          intro hd39
          conv => whnf
          refine Side.mk rfl ?_
          cases hx63
          conv => whnf
          refine ⟨hd39, trivial, Sub.eq rfl ?_ ?_⟩
          ·repeat ((conv => whnf); refine Need.mk rfl ?_)
           exact trivial
          ·conv => whnf
           refine Need.mk (OLe.refl _) ?_
           conv => whnf
           refine Need.mk (OLe.refl _) ?_
           exact trivial
         ·replace hx63 := ite_f hc54 hx63
          cases hx63
          conv => whnf
          refine ⟨hd34, trivial, Sub.eq rfl ?_ ?_⟩
          ·repeat ((conv => whnf); refine Need.mk rfl ?_)
           exact trivial
          ·conv => whnf
           refine Need.mk (OLe.refl _) ?_
           conv => whnf
           refine Need.mk (OLe.refl _) ?_
           exact trivial
       ·rintro hd37 _
        conv => whnf
        refine ⟨(n2, (k11, w11, w64 (i8 + 1), l26), hd37), hl2, Sub.eq rfl ?_ ?_, Nat.lt_succ_self _⟩
        ·repeat ((conv => whnf); refine Need.mk rfl ?_)
         exact trivial
        ·conv => whnf
         refine Need.mk (OLe.refl _) ?_
         conv => whnf
         refine Need.mk (OLe.refl _) ?_
         exact trivial
      ·replace hl2 := ite_f hc48 hl2
       cases hl2
       conv => whnf
       refine ⟨hd34, trivial, Sub.eq rfl ?_ ?_⟩
       ·repeat ((conv => whnf); refine Need.mk rfl ?_)
        exact trivial
       ·conv => whnf
        refine Need.mk (OLe.refl _) ?_
        conv => whnf
        refine Need.mk (OLe.refl _) ?_
        exact trivial
    ·rintro hd20 _
     obtain ⟨v15, hx70, h⟩ := obind h
     conv => whnf
     refine SeqG.mk Unit (fun y => [(6, .d (.bool v15))]) (fun y => []) (fun _ => True) ?_ ?_
     ·conv => whnf
      refine Side.mk rfl ?_
      obtain ⟨r11, hx71, hx70⟩ := obind hx70
      conv => whnf
      refine Side.mk rfl ?_
      conv => whnf
      refine CallG.pure _ (law07SameC hN hx71) ?_
      conv => whnf
      refine Br.mk (fun hc56 => ?_) (fun hc56 => ?_)
      ·replace hx70 := ite_t hc56 hx70
       obtain ⟨r12, hx72, hx70⟩ := obind hx70
       conv => whnf
       refine CallG.pure _ (law07WakesC hN hx72) ?_
       cases hx70
       conv => whnf
       refine ⟨(), trivial, Sub.eq rfl ?_ ?_⟩
       ·repeat ((conv => whnf); refine Need.mk rfl ?_)
        exact trivial
       ·exact trivial
      ·replace hx70 := ite_f hc56 hx70
       cases hx70
       conv => whnf
       refine ⟨(), trivial, Sub.eq rfl ?_ ?_⟩
       ·repeat ((conv => whnf); refine Need.mk rfl ?_)
        exact trivial
       ·exact trivial
     ·rintro _ _
      conv => whnf
      cases h
      exact rfl
end Go.Proofs.Ytmencjafjcmbaaa
