/-
  The walk of the law RatePoints.
-/
import Derived.Test.YtmencjafjcmbaaaDRatePoints
import Derived.Test.YtmencjafjcmbaaaWd
namespace Go.Proofs.Ytmencjafjcmbaaa
open Go Go.Abs Go.Kp
set_option maxRecDepth 100000
set_option maxHeartbeats 8000000
set_option linter.all false

theorem law07RatePointsC {N : Nat} (hN : N ≤ 1073741824) {b1 : Ref07Book} {week1 : Int} {home1 : List Int} {away1 : List Int} {r : Bool} (h : law07RatePoints N b1 week1 home1 away1 = some r) :
    ACalls Try.prog 14 [.d (.agg [I b1.fLaw.fBase, I b1.fLaw.fPercent, I b1.fLaw.fCap, I b1.fLaw.fLeast, I b1.fLaw.fBlind, .list 1 (List.map I b1.fBowlers), .list 6 (List.map Ref07Sheet.enc b1.fSheets), .list 1 (List.map I b1.fWithdrawn)]), .d (.int .u8 week1), .d (.list 1 (List.map I home1)), .d (.list 1 (List.map I away1))] [] fun e os => e = .ret (.d (.bool r)) ∧ os = [] := by
  refine acalls_f (fresh := false) tt_ok dr_ok ⟨[4], [], [], [], [1, 6, 13, 15, 1010, 1013], 0, []⟩ Try.func14 rfl Try.call14 rfl ?_
  unfold law07RatePoints at h
  obtain ⟨v2, hx10, h⟩ := obind h
  conv => whnf
  refine SeqG.mk Unit (fun y => [(1, .d (.int .u8 week1)), (2, .d (.list 1 (List.map I home1))), (3, .d (.list 1 (List.map I away1))), (4, .d (.ref (.agg [I b1.fLaw.fBase, I b1.fLaw.fPercent, I b1.fLaw.fCap, I b1.fLaw.fLeast, I b1.fLaw.fBlind, .list 1 (List.map I b1.fBowlers), .list 6 (List.map Ref07Sheet.enc b1.fSheets), .list 1 (List.map I b1.fWithdrawn)]))), (40, .d (.bool v2))]) (fun y => []) (fun _ => True) ?_ ?_
  ·obtain ⟨r9, hx11, hx10⟩ := obind hx10
   conv => whnf
   refine CallG.pure _ (law07ReadyC hN hx11) ?_
   conv => whnf
   refine Br.mk (fun hc11 => ?_) (fun hc11 => ?_)
   ·replace hx10 := ite_f hc11 hx10
    conv => whnf
    refine LnA.mk _ (List.length_map _) ?_
    conv => whnf
    refine Br.mk (fun hc12 => ?_) (fun hc12 => ?_)
    ·replace hx10 := ite_f hc12 hx10
     conv => whnf
     refine LnA.mk _ (List.length_map _) ?_
     conv => whnf
     refine Br.mk (fun hc13 => ?_) (fun hc13 => ?_)
     ·replace hx10 := ite_f hc13 hx10
      obtain ⟨r10, hx12, hx10⟩ := obind hx10
      conv => whnf
      refine CallG.pure _ (ref07TeamsFaultC hN hx12) ?_
      cases hx10
      conv => whnf
      refine ⟨(), trivial, Sub.eq rfl ?_ ?_⟩
      ·repeat ((conv => whnf); refine Need.mk rfl ?_)
       exact trivial
      ·exact trivial
     ·replace hx10 := ite_t hc13 hx10
      cases hx10
      conv => whnf
      refine ⟨(), trivial, Sub.eq rfl ?_ ?_⟩
      ·repeat ((conv => whnf); refine Need.mk rfl ?_)
       exact trivial
      ·exact trivial
    ·replace hx10 := ite_t hc12 hx10
     cases hx10
     conv => whnf
     refine ⟨(), trivial, Sub.eq rfl ?_ ?_⟩
     ·repeat ((conv => whnf); refine Need.mk rfl ?_)
      exact trivial
     ·exact trivial
   ·replace hx10 := ite_t hc11 hx10
    cases hx10
    conv => whnf
    refine ⟨(), trivial, Sub.eq rfl ?_ ?_⟩
    ·repeat ((conv => whnf); refine Need.mk rfl ?_)
     exact trivial
    ·exact trivial
  ·rintro _ _
   conv => whnf
   refine Br.mk (fun hc14 => ?_) (fun hc14 => ?_)
   ·replace h := ite_t hc14 h
    obtain ⟨r12, hx14, h⟩ := obind h
    conv => whnf
    refine CallG.pure _ (law07WakesC hN hx14) ?_
    conv => whnf
    cases h
    exact rfl
   ·replace h := ite_f hc14 h
    conv => whnf
    refine Need.mk (by decide) ?_
    obtain ⟨r16, hx19, h⟩ := obind h
    conv => whnf
    refine CallG.pure _ (law07BookC hN hx19) ?_
    obtain ⟨r17, hx20, h⟩ := obind h
    conv => whnf
    refine CallG.fresh 51 (law07ListC hN hx20) ?_
    intro hd3
    obtain ⟨r18, hx21, h⟩ := obind h
    conv => whnf
    refine CallG.fresh 53 (law07ListC hN hx21) ?_
    intro hd4
    obtain ⟨⟨ra2, rb2, rc2⟩, hx22, h⟩ := obind h
    conv => whnf
    refine Side.mk rfl ?_
    conv => whnf
    refine Side.mk rfl ?_
    conv => whnf
    refine CallG.pure _ (rateMatchC hN hx22) ?_
    obtain ⟨r22, hx27, h⟩ := obind h
    conv => whnf
    refine CallG.pure _ (law07BookC hN hx27) ?_
    obtain ⟨r23, hx28, h⟩ := obind h
    conv => whnf
    refine CallG.fresh 63 (law07ListC hN hx28) ?_
    intro hd7
    obtain ⟨r24, hx29, h⟩ := obind h
    conv => whnf
    refine CallG.fresh 65 (law07ListC hN hx29) ?_
    intro hd8
    obtain ⟨⟨ra4, rb4, rc4⟩, hx30, h⟩ := obind h
    conv => whnf
    refine Side.mk rfl ?_
    conv => whnf
    refine Side.mk rfl ?_
    conv => whnf
    refine CallG.pure _ (rateMatchC hN hx30) ?_
    obtain ⟨⟨w2, v4⟩, hx32, h⟩ := obind h
    conv => whnf
    refine SeqG.mk Unit (fun y => [(2, .d (.list 1 (List.map I home1))), (3, .d (.list 1 (List.map I away1))), (4, .d (.ref (.agg [I b1.fLaw.fBase, I b1.fLaw.fPercent, I b1.fLaw.fCap, I b1.fLaw.fLeast, I b1.fLaw.fBlind, .list 1 (List.map I b1.fBowlers), .list 6 (List.map Ref07Sheet.enc b1.fSheets), .list 1 (List.map I b1.fWithdrawn)]))), (9, .d (I w2)), (10, .d (I ra2)), (99, .d (.bool v4))]) (fun y => []) (fun _ => True) ?_ ?_
    ·conv => whnf
     refine Br.mk (fun hc34 => ?_) (fun hc34 => ?_)
     ·replace hx32 := ite_f hc34 hx32
      conv => whnf
      refine Br.mk (fun hc35 => ?_) (fun hc35 => ?_)
      ·replace hx32 := ite_f hc35 hx32
       conv => whnf
       refine Br.mk (fun hc36 => ?_) (fun hc36 => ?_)
       ·replace hx32 := ite_f hc36 hx32
        conv => whnf
        refine Br.mk (fun hc37 => ?_) (fun hc37 => ?_)
        ·replace hx32 := ite_f hc37 hx32
         conv => whnf
         refine Br.mk (fun hc38 => ?_) (fun hc38 => ?_)
         ·replace hx32 := ite_f hc38 hx32
          conv => whnf
          refine Br.mk (fun hc39 => ?_) (fun hc39 => ?_)
          ·replace hx32 := ite_f hc39 hx32
           cases hx32
           conv => whnf
           refine ⟨(), trivial, Sub.eq rfl ?_ ?_⟩
           ·repeat ((conv => whnf); refine Need.mk rfl ?_)
            exact trivial
           ·exact trivial
          ·replace hx32 := ite_t hc39 hx32
           cases hx32
           conv => whnf
           refine ⟨(), trivial, Sub.eq rfl ?_ ?_⟩
           ·repeat ((conv => whnf); refine Need.mk rfl ?_)
            exact trivial
           ·exact trivial
         ·replace hx32 := ite_t hc38 hx32
          cases hx32
          conv => whnf
          refine ⟨(), trivial, Sub.eq rfl ?_ ?_⟩
          ·repeat ((conv => whnf); refine Need.mk rfl ?_)
           exact trivial
          ·exact trivial
        ·replace hx32 := ite_t hc37 hx32
         cases hx32
         conv => whnf
         refine ⟨(), trivial, Sub.eq rfl ?_ ?_⟩
         ·repeat ((conv => whnf); refine Need.mk rfl ?_)
          exact trivial
         ·exact trivial
       ·replace hx32 := ite_t hc36 hx32
        cases hx32
        conv => whnf
        refine ⟨(), trivial, Sub.eq rfl ?_ ?_⟩
        ·repeat ((conv => whnf); refine Need.mk rfl ?_)
         exact trivial
        ·exact trivial
      ·replace hx32 := ite_t hc35 hx32
       cases hx32
       conv => whnf
       refine ⟨(), trivial, Sub.eq rfl ?_ ?_⟩
       ·repeat ((conv => whnf); refine Need.mk rfl ?_)
        exact trivial
       ·exact trivial
     ·replace hx32 := ite_t hc34 hx32
      cases hx32
      conv => whnf
      refine ⟨(), trivial, Sub.eq rfl ?_ ?_⟩
      ·repeat ((conv => whnf); refine Need.mk rfl ?_)
       exact trivial
      ·exact trivial
    ·rintro _ _
     conv => whnf
     refine Br.mk (fun hc40 => ?_) (fun hc40 => ?_)
     ·replace h := ite_t hc40 h
      conv => whnf
      cases h
      exact rfl
     ·replace h := ite_f hc40 h
      obtain ⟨r26, hx35, h⟩ := obind h
      conv => whnf
      refine CallG.fresh 101 (law07ListC hN hx35) ?_
      intro hd11
      obtain ⟨l2, hx36, h⟩ := obind h
      conv => whnf
      refine Side.mk rfl ?_
      conv => whnf
      refine Side.mk ⟨rfl, rfl, rfl⟩ (Need.mk (app_need hN hx36 (by decide)) (Eqv.mk (List.map I l2) (app_map _ hx36) ?_))
      conv => whnf
      intro hd12
      obtain ⟨absent8, hx70, h⟩ := obind h
      conv => whnf
      refine SeqG.mk Unit (fun y => [(10, .d (I ra2)), (17, .d (.bool absent8))]) (fun y => []) (fun _ => True) ?_ ?_
      ·conv => whnf
       refine LoopG.mk (Nat × (Bool × Int)) (fun y => [(4, .d (.ref (.agg [I b1.fLaw.fBase, I b1.fLaw.fPercent, I b1.fLaw.fCap, I b1.fLaw.fLeast, I b1.fLaw.fBlind, .list 1 (List.map I b1.fBowlers), .list 6 (List.map Ref07Sheet.enc b1.fSheets), .list 1 (List.map I b1.fWithdrawn)]))), (9, .d (I w2)), (10, .d (I ra2)), (16, .sl 101 hd12), (17, .d (.bool y.2.1)), (18, .d (I y.2.2))]) (fun y => [(101, .arr hd12 3 1 false (List.map I l2))]) (fun y => loopN (fun rr x => law07RatePoints_b1 N b1 w2 l2 rr x.1 x.2) y.1 y.2 = some absent8) (fun y => y.1) (N, (true, 0)) hx70 (Sub.eq rfl ?_ ?_) ?_
       ·repeat ((conv => whnf); refine Need.mk rfl ?_)
        exact trivial
       ·conv => whnf
        refine Need.mk (OLe.refl _) ?_
        exact trivial
       ·rintro ⟨n2, ⟨absent14, i8⟩⟩ hl2
        obtain ⟨n2, rfl, hl2⟩ := loopN_some hl2
        replace hl2 : law07RatePoints_b1 N b1 w2 l2 (loopN (fun rr x => law07RatePoints_b1 N b1 w2 l2 rr x.1 x.2) n2) absent14 i8 = some absent8 := hl2
        rw [law07RatePoints_b1] at hl2
        conv => whnf
        refine Side.mk rfl (LnA.mk _ (List.length_map _) ?_)
        conv => whnf
        refine Br.mk (fun hc58 => ?_) (fun hc58 => ?_)
        ·replace hl2 := ite_t hc58 hl2
         obtain ⟨absent15, hx98, hl2⟩ := obind hl2
         conv => whnf
         refine SeqG.mk Unit (fun y => [(4, .d (.ref (.agg [I b1.fLaw.fBase, I b1.fLaw.fPercent, I b1.fLaw.fCap, I b1.fLaw.fLeast, I b1.fLaw.fBlind, .list 1 (List.map I b1.fBowlers), .list 6 (List.map Ref07Sheet.enc b1.fSheets), .list 1 (List.map I b1.fWithdrawn)]))), (9, .d (I w2)), (10, .d (I ra2)), (16, .sl 101 hd12), (17, .d (.bool absent15)), (18, .d (I i8))]) (fun y => [(101, .arr hd12 3 1 false (List.map I l2))]) (fun _ => True) ?_ ?_
         ·obtain ⟨is12, hx101, hx98⟩ := obind hx98
          conv => whnf
          refine SeqG.mk Unit (fun y => [(4, .d (.ref (.agg [I b1.fLaw.fBase, I b1.fLaw.fPercent, I b1.fLaw.fCap, I b1.fLaw.fLeast, I b1.fLaw.fBlind, .list 1 (List.map I b1.fBowlers), .list 6 (List.map Ref07Sheet.enc b1.fSheets), .list 1 (List.map I b1.fWithdrawn)]))), (9, .d (I w2)), (10, .d (I ra2)), (16, .sl 101 hd12), (17, .d (.bool absent14)), (18, .d (I i8)), (20, .d (.bool is12))]) (fun y => [(101, .arr hd12 3 1 false (List.map I l2))]) (fun _ => True) ?_ ?_
          ·obtain ⟨x24, hx102, hx101⟩ := obind hx101
           obtain ⟨⟨ra28, rb28⟩, hx103, hx101⟩ := obind hx101
           conv => whnf
           refine DrawG.mk (.take 0 (.take 1 (.take 2 (.take 3 (.take 4 (.take 5 (.alt 6 [3, 2, 1] (.take 7 (.take 8 (.take 9 (.alt 10 [9, 8, 7, 3, 2, 1] (.alt 11 [9] (.take 12 .done) .nil) .nil)))) (.alt 10 [5, 4, 3, 2, 1, 0] (.alt 6 [3, 2, 1] (.take 7 (.take 8 (.take 9 (.alt 11 [9] (.take 12 .done) .nil)))) .nil) .nil)))))))) (by kernel_rfl) ?_
           conv => whnf
           refine Side.mk ⟨rfl, rfl⟩ (Need.mk (idx_need _ hx102) ?_)
           conv => whnf
           refine Side.mk ⟨rfl, rfl⟩ ⟨_, Int.natCast_nonneg _, idx_el _ hx102, ?_⟩
           conv => whnf
           refine Both.mk ?_ ?_
           ·conv => whnf
            refine CallG.pure _ (ref07OfC hN hx103) ?_
            conv => whnf
            refine Side.mk ⟨rfl, rfl⟩ (Need.mk (idx_need _ hx102) ?_)
            conv => whnf
            refine Need.mk (AV.le_refl _) ?_
            conv => whnf
            refine Need.mk (AV.le_refl _) ?_
            conv => whnf
            refine Need.mk (AV.le_refl _) ?_
            conv => whnf
            refine Both.mk ?_ trivial
            conv => whnf
            intro b72
            conv => whnf
            refine Need.mk (AV.le_refl _) ?_
            conv => whnf
            refine Need.mk (AV.le_refl _) ?_
            conv => whnf
            refine Need.mk (AV.le_refl _) ?_
            conv => whnf
            refine Side.mk ⟨rfl, rfl⟩ (Need.mk (idx_need _ hx102) ?_)
            conv => whnf
            refine Need.mk (AV.le_refl _) ?_
            conv => whnf
            refine Need.mk (AV.le_refl _) ?_
            conv => whnf
            refine Need.mk (AV.le_refl _) ?_
            conv => whnf
            refine Both.mk ?_ trivial
            conv => whnf
            refine Side.mk rfl ?_
            conv => whnf
            refine Need.mk (AV.le_refl _) ?_
            cases hx101
            conv => whnf
            refine ⟨(), trivial, Sub.eq rfl ?_ ?_⟩
            ·repeat ((conv => whnf); refine Need.mk rfl ?_)
             exact trivial
            ·conv => whnf
             refine Need.mk (OLe.refl _) ?_
             exact trivial
           ·conv => whnf
            refine Both.mk ?_ trivial
            conv => whnf
            intro b73
            conv => whnf
            refine Need.mk (AV.le_refl _) ?_
            conv => whnf
            refine Side.mk ⟨rfl, rfl⟩ ⟨_, Int.natCast_nonneg _, idx_el _ hx102, ?_⟩
            conv => whnf
            refine Need.mk (AV.le_refl _) ?_
            conv => whnf
            refine Side.mk ⟨rfl, rfl⟩ (Need.mk (idx_need _ hx102) ?_)
            conv => whnf
            refine Need.mk (AV.le_refl _) ?_
            conv => whnf
            refine Need.mk (AV.le_refl _) ?_
            conv => whnf
            refine Need.mk (AV.le_refl _) ?_
            conv => whnf
            refine Need.mk (AV.le_refl _) ?_
            conv => whnf
            refine Both.mk ?_ trivial
            conv => whnf
            refine CallG.pure _ (ref07OfC hN hx103) ?_
            conv => whnf
            refine Side.mk ⟨rfl, rfl⟩ (Need.mk (idx_need _ hx102) ?_)
            conv => whnf
            refine Need.mk (AV.le_refl _) ?_
            conv => whnf
            refine Need.mk (AV.le_refl _) ?_
            conv => whnf
            refine Need.mk (AV.le_refl _) ?_
            conv => whnf
            refine Both.mk ?_ trivial
            conv => whnf
            refine Side.mk rfl ?_
            conv => whnf
            refine Need.mk (AV.le_refl _) ?_
            cases hx101
            conv => whnf
            refine ⟨(), trivial, Sub.eq rfl ?_ ?_⟩
            ·repeat ((conv => whnf); refine Need.mk rfl ?_)
             exact trivial
            ·conv => whnf
             refine Need.mk (OLe.refl _) ?_
             exact trivial
          ·rintro _ _
           conv => whnf
           refine Br.mk (fun hc60 => ?_) (fun hc60 => ?_)
           ·replace hx98 := ite_t hc60 hx98
            cases hx98
            conv => whnf
            refine ⟨(), trivial, Sub.eq rfl ?_ ?_⟩
            ·repeat ((conv => whnf); refine Need.mk rfl ?_)
             exact trivial
            ·conv => whnf
             refine Need.mk (OLe.refl _) ?_
             exact trivial
           ·replace hx98 := ite_f hc60 hx98
            cases hx98
            conv => whnf
            refine ⟨(), trivial, Sub.eq rfl ?_ ?_⟩
            ·repeat ((conv => whnf); refine Need.mk rfl ?_)
             exact trivial
            ·conv => whnf
             refine Need.mk (OLe.refl _) ?_
             exact trivial
         ·rintro _ _
          conv => whnf
          refine ⟨(n2, (absent15, w64 (i8 + 1))), hl2, Sub.eq rfl ?_ ?_, Nat.lt_succ_self _⟩
          ·repeat ((conv => whnf); refine Need.mk rfl ?_)
           exact trivial
          ·conv => whnf
           refine Need.mk (OLe.refl _) ?_
           exact trivial
        ·replace hl2 := ite_f hc58 hl2
         cases hl2
         conv => whnf
         refine ⟨(), trivial, Sub.eq rfl ?_ ?_⟩
         ·repeat ((conv => whnf); refine Need.mk rfl ?_)
          exact trivial
         ·exact trivial
      ·rintro _ _
       obtain ⟨v9, hx108, h⟩ := obind h
       conv => whnf
       refine SeqG.mk Unit (fun y => [(8, .d (.bool v9))]) (fun y => []) (fun _ => True) ?_ ?_
       ·conv => whnf
        refine Br.mk (fun hc65 => ?_) (fun hc65 => ?_)
        ·replace hx108 := ite_f hc65 hx108
         conv => whnf
         refine Br.mk (fun hc66 => ?_) (fun hc66 => ?_)
         ·replace hx108 := ite_f hc66 hx108
          conv => whnf
          refine Br.mk (fun hc67 => ?_) (fun hc67 => ?_)
          ·replace hx108 := ite_f hc67 hx108
           conv => whnf
           refine Br.mk (fun hc68 => ?_) (fun hc68 => ?_)
           ·replace hx108 := ite_t hc68 hx108
            obtain ⟨r31, hx109, hx108⟩ := obind hx108
            conv => whnf
            refine CallG.pure _ (law07WakesC hN hx109) ?_
            cases hx108
            conv => whnf
            refine ⟨(), trivial, Sub.eq rfl ?_ ?_⟩
            ·repeat ((conv => whnf); refine Need.mk rfl ?_)
             exact trivial
            ·exact trivial
           ·replace hx108 := ite_f hc68 hx108
            cases hx108
            conv => whnf
            refine ⟨(), trivial, Sub.eq rfl ?_ ?_⟩
            ·repeat ((conv => whnf); refine Need.mk rfl ?_)
             exact trivial
            ·exact trivial
          ·replace hx108 := ite_t hc67 hx108
           obtain ⟨r32, hx110, hx108⟩ := obind hx108
           conv => whnf
           refine CallG.pure _ (law07WakesC hN hx110) ?_
           cases hx108
           conv => whnf
           refine ⟨(), trivial, Sub.eq rfl ?_ ?_⟩
           ·repeat ((conv => whnf); refine Need.mk rfl ?_)
            exact trivial
           ·exact trivial
         ·replace hx108 := ite_t hc66 hx108
          obtain ⟨r33, hx111, hx108⟩ := obind hx108
          conv => whnf
          refine CallG.pure _ (law07WakesC hN hx111) ?_
          cases hx108
          conv => whnf
          refine ⟨(), trivial, Sub.eq rfl ?_ ?_⟩
          ·repeat ((conv => whnf); refine Need.mk rfl ?_)
           exact trivial
          ·exact trivial
        ·replace hx108 := ite_t hc65 hx108
         obtain ⟨r34, hx112, hx108⟩ := obind hx108
         conv => whnf
         refine CallG.pure _ (law07WakesC hN hx112) ?_
         cases hx108
         conv => whnf
         refine ⟨(), trivial, Sub.eq rfl ?_ ?_⟩
         ·repeat ((conv => whnf); refine Need.mk rfl ?_)
          exact trivial
         ·exact trivial
       ·rintro _ _
        conv => whnf
        cases h
        exact rfl
end Go.Proofs.Ytmencjafjcmbaaa
