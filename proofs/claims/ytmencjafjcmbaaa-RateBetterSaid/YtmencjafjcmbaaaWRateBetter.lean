/-
  The walk of the law RateBetter.
-/
import Derived.Test.YtmencjafjcmbaaaDRateBetter
import Derived.Test.YtmencjafjcmbaaaWd
namespace Go.Proofs.Ytmencjafjcmbaaa
open Go Go.Abs Go.Kp
set_option maxRecDepth 100000
set_option maxHeartbeats 8000000
set_option linter.all false

theorem law07RateBetterC {N : Nat} (hN : N ≤ 1073741824) {b1 : Ref07Book} {which1 : Int} {game1 : Int} {by1 : Int} {away1 : List Int} {r : Bool} (h : law07RateBetter N b1 which1 game1 by1 away1 = some r) :
    ACalls Try.prog 15 [.d (.agg [I b1.fLaw.fBase, I b1.fLaw.fPercent, I b1.fLaw.fCap, I b1.fLaw.fLeast, I b1.fLaw.fBlind, .list 1 (List.map I b1.fBowlers), .list 6 (List.map Ref07Sheet.enc b1.fSheets), .list 1 (List.map I b1.fWithdrawn)]), .d (.int .u8 which1), .d (.int .u8 game1), .d (.int .u8 by1), .d (.list 1 (List.map I away1))] [] fun e os => e = .ret (.d (.bool r)) ∧ os = [] := by
  refine acalls_f (fresh := false) tt_ok dr_ok ⟨[5], [], [], [], [1, 4, 13, 14, 15, 20, 1008, 1011, 1017], 0, []⟩ Try.func15 rfl Try.call15 rfl ?_
  unfold law07RateBetter at h
  obtain ⟨v2, hx7, h⟩ := obind h
  conv => whnf
  refine SeqG.mk Unit (fun y => [(1, .d (.int .u8 which1)), (2, .d (.int .u8 game1)), (3, .d (.int .u8 by1)), (4, .d (.list 1 (List.map I away1))), (5, .d (.ref (.agg [I b1.fLaw.fBase, I b1.fLaw.fPercent, I b1.fLaw.fCap, I b1.fLaw.fLeast, I b1.fLaw.fBlind, .list 1 (List.map I b1.fBowlers), .list 6 (List.map Ref07Sheet.enc b1.fSheets), .list 1 (List.map I b1.fWithdrawn)]))), (34, .d (.bool v2))]) (fun y => []) (fun _ => True) ?_ ?_
  ·obtain ⟨r6, hx8, hx7⟩ := obind hx7
   conv => whnf
   refine CallG.pure _ (law07ReadyC hN hx8) ?_
   conv => whnf
   refine Br.mk (fun hc8 => ?_) (fun hc8 => ?_)
   ·replace hx7 := ite_f hc8 hx7
    conv => whnf
    refine LnA.mk _ (List.length_map _) ?_
    conv => whnf
    refine Br.mk (fun hc9 => ?_) (fun hc9 => ?_)
    ·replace hx7 := ite_f hc9 hx7
     conv => whnf
     refine LnA.mk _ (List.length_map _) ?_
     cases hx7
     conv => whnf
     refine ⟨(), trivial, Sub.eq rfl ?_ ?_⟩
     ·repeat ((conv => whnf); refine Need.mk rfl ?_)
      exact trivial
     ·exact trivial
    ·replace hx7 := ite_t hc9 hx7
     cases hx7
     conv => whnf
     refine ⟨(), trivial, Sub.eq rfl ?_ ?_⟩
     ·repeat ((conv => whnf); refine Need.mk rfl ?_)
      exact trivial
     ·exact trivial
   ·replace hx7 := ite_t hc8 hx7
    cases hx7
    conv => whnf
    refine ⟨(), trivial, Sub.eq rfl ?_ ?_⟩
    ·repeat ((conv => whnf); refine Need.mk rfl ?_)
     exact trivial
    ·exact trivial
  ·rintro _ _
   conv => whnf
   refine Br.mk (fun hc10 => ?_) (fun hc10 => ?_)
   ·replace h := ite_t hc10 h
    obtain ⟨r8, hx10, h⟩ := obind h
    conv => whnf
    refine CallG.pure _ (law07WakesC hN hx10) ?_
    conv => whnf
    cases h
    exact rfl
   ·replace h := ite_f hc10 h
    obtain ⟨_, hx13, h⟩ := obind h
    obtain ⟨x2, hx14, h⟩ := obind h
    conv => whnf
    refine DrawG.mk (.take 0 (.take 1 (.take 2 (.take 3 (.take 4 (.take 5 (.take 6 (.take 7 (.take 8 (.take 9 (.alt 10 [9, 8, 7, 6, 5, 4, 3, 2, 1, 0] (.alt 11 [] .done .nil) .nil))))))))))) (by kernel_rfl) ?_
    conv => whnf
    refine LnA.mk _ (List.length_map _) ?_
    conv => whnf
    refine Need.mk (nz_ne hx13) ?_
    conv => whnf
    refine Side.mk rfl ⟨_, idx_0 hx14, idx_map _ hx14, ?_⟩
    conv => whnf
    refine Both.mk ?_ trivial
    conv => whnf
    intro b5
    conv => whnf
    refine Need.mk (AV.le_refl _) ?_
    conv => whnf
    refine Side.mk rfl ⟨_, idx_0 hx14, idx_map _ hx14, ?_⟩
    conv => whnf
    refine Need.mk (AV.le_refl _) ?_
    conv => whnf
    refine Need.mk (nz_ne hx13) ?_
    conv => whnf
    refine Need.mk (AV.le_refl _) ?_
    conv => whnf
    refine LnA.mk _ (List.length_map _) ?_
    conv => whnf
    refine Need.mk (AV.le_refl _) ?_
    conv => whnf
    refine Need.mk (AV.le_refl _) ?_
    conv => whnf
    refine Need.mk (AV.le_refl _) ?_
    conv => whnf
    refine Need.mk (AV.le_refl _) ?_
    conv => whnf
    refine Need.mk (AV.le_refl _) ?_
    conv => whnf
    refine Need.mk (AV.le_refl _) ?_
    conv => whnf
    refine Need.mk (AV.le_refl _) ?_
    conv => whnf
    refine Both.mk ?_ trivial
    conv => whnf
    refine Side.mk rfl ?_
    obtain ⟨v4, hx24, h⟩ := obind h
    conv => whnf
    refine SeqG.mk Unit (fun y => [(2, .d (.int .u8 game1)), (3, .d (.int .u8 by1)), (4, .d (.list 1 (List.map I away1))), (5, .d (.ref (.agg [I b1.fLaw.fBase, I b1.fLaw.fPercent, I b1.fLaw.fCap, I b1.fLaw.fLeast, I b1.fLaw.fBlind, .list 1 (List.map I b1.fBowlers), .list 6 (List.map Ref07Sheet.enc b1.fSheets), .list 1 (List.map I b1.fWithdrawn)]))), (11, .ptr 11 b5 0), (58, .d (.bool v4))]) (fun y => [(11, .cells b5 [.d (I x2.fNumber), .d (I x2.fBowler), .d (I x2.fWeek), .d (I x2.fGames.a0), .d (I x2.fGames.a1), .d (I x2.fGames.a2)])]) (fun _ => True) ?_ ?_
    ·conv => whnf
     refine Side.mk rfl ?_
     obtain ⟨r17, hx25, hx24⟩ := obind hx24
     conv => whnf
     refine CallG.pure _ (ref07CountsC hN hx25) ?_
     conv => whnf
     refine Br.mk (fun hc15 => ?_) (fun hc15 => ?_)
     ·replace hx24 := ite_f hc15 hx24
      conv => whnf
      refine Side.mk rfl ?_
      conv => whnf
      intro hd4
      obtain ⟨r18, hx26, hx24⟩ := obind hx24
      conv => whnf
      refine Side.mk rfl ?_
      conv => whnf
      refine CallG.pure _ (ref07TeamsFaultC hN hx26) ?_
      cases hx24
      conv => whnf
      refine ⟨(), trivial, Sub.eq rfl ?_ ?_⟩
      ·repeat ((conv => whnf); refine Need.mk rfl ?_)
       exact trivial
      ·conv => whnf
       refine Need.mk (OLe.refl _) ?_
       exact trivial
     ·replace hx24 := ite_t hc15 hx24
      cases hx24
      conv => whnf
      refine ⟨(), trivial, Sub.eq rfl ?_ ?_⟩
      ·repeat ((conv => whnf); refine Need.mk rfl ?_)
       exact trivial
      ·conv => whnf
       refine Need.mk (OLe.refl _) ?_
       exact trivial
    ·rintro _ _
     conv => whnf
     refine Br.mk (fun hc16 => ?_) (fun hc16 => ?_)
     ·replace h := ite_t hc16 h
      obtain ⟨r20, hx28, h⟩ := obind h
      conv => whnf
      refine CallG.pure _ (law07WakesC hN hx28) ?_
      conv => whnf
      cases h
      exact rfl
     ·replace h := ite_f hc16 h
      conv => whnf
      intro b7
      conv => whnf
      refine Side.mk rfl ?_
      conv => whnf
      intro hd7
      obtain ⟨l2, hx30, h⟩ := obind h
      conv => whnf
      refine Side.mk rfl ?_
      conv => whnf
      refine Side.mk ⟨rfl, rfl, rfl⟩ (Need.mk (app_need hN hx30 (by decide)) (Eqv.mk (List.map Ref07Sheet.enc l2) (app_map _ hx30) ?_))
      conv => whnf
      intro hd8
      conv => whnf
      refine Side.mk rfl ?_
      obtain ⟨l10, hx46, h⟩ := obind h
      conv => whnf
      refine SeqG.mk Unit (fun y => [(3, .d (.int .u8 by1)), (4, .d (.list 1 (List.map I away1))), (5, .d (.ref (.agg [I b1.fLaw.fBase, I b1.fLaw.fPercent, I b1.fLaw.fCap, I b1.fLaw.fLeast, I b1.fLaw.fBlind, .list 1 (List.map I b1.fBowlers), .list 6 (List.map Ref07Sheet.enc b1.fSheets), .list 1 (List.map I b1.fWithdrawn)]))), (11, .ptr 11 b5 0), (12, .ptr 12 b7 0)]) (fun y => [(11, .cells b5 [.d (I x2.fNumber), .d (I x2.fBowler), .d (I x2.fWeek), .d (I x2.fGames.a0), .d (I x2.fGames.a1), .d (I x2.fGames.a2)]), (12, .cells b7 [.d (I b1.fLaw.fBase), .d (I b1.fLaw.fPercent), .d (I b1.fLaw.fCap), .d (I b1.fLaw.fLeast), .d (I b1.fLaw.fBlind), .d (.list 1 (List.map I b1.fBowlers)), .sl 61 hd8, .d (.list 1 (List.map I b1.fWithdrawn))]), (61, .arr hd8 68 6 false (List.map Ref07Sheet.enc l10))]) (fun _ => True) ?_ ?_
      ·conv => whnf
       refine LoopG.mk (Nat × (Int × (List Ref07Sheet))) (fun y => [(2, .d (.int .u8 game1)), (3, .d (.int .u8 by1)), (4, .d (.list 1 (List.map I away1))), (5, .d (.ref (.agg [I b1.fLaw.fBase, I b1.fLaw.fPercent, I b1.fLaw.fCap, I b1.fLaw.fLeast, I b1.fLaw.fBlind, .list 1 (List.map I b1.fBowlers), .list 6 (List.map Ref07Sheet.enc b1.fSheets), .list 1 (List.map I b1.fWithdrawn)]))), (11, .ptr 11 b5 0), (12, .ptr 12 b7 0), (13, .d (I y.2.1))]) (fun y => [(11, .cells b5 [.d (I x2.fNumber), .d (I x2.fBowler), .d (I x2.fWeek), .d (I x2.fGames.a0), .d (I x2.fGames.a1), .d (I x2.fGames.a2)]), (12, .cells b7 [.d (I b1.fLaw.fBase), .d (I b1.fLaw.fPercent), .d (I b1.fLaw.fCap), .d (I b1.fLaw.fLeast), .d (I b1.fLaw.fBlind), .d (.list 1 (List.map I b1.fBowlers)), .sl 61 hd8, .d (.list 1 (List.map I b1.fWithdrawn))]), (61, .arr hd8 68 6 false (List.map Ref07Sheet.enc y.2.2))]) (fun y => loopN (fun rr x => law07RateBetter_b1 N game1 by1 x2 rr x.1 x.2) y.1 y.2 = some l10) (fun y => y.1) (N, (0, l2)) hx46 (Sub.eq rfl ?_ ?_) ?_
       ·repeat ((conv => whnf); refine Need.mk rfl ?_)
        exact trivial
       ·conv => whnf
        refine Need.mk (OLe.refl _) ?_
        conv => whnf
        refine Need.mk (OLe.refl _) ?_
        conv => whnf
        refine Need.mk (OLe.refl _) ?_
        exact trivial
       ·rintro ⟨n2, ⟨i8, l16⟩⟩ hl2
        obtain ⟨n2, rfl, hl2⟩ := loopN_some hl2
        replace hl2 : law07RateBetter_b1 N game1 by1 x2 (loopN (fun rr x => law07RateBetter_b1 N game1 by1 x2 rr x.1 x.2) n2) i8 l16 = some l10 := hl2
        rw [law07RateBetter_b1] at hl2
        conv => whnf
        refine Side.mk rfl ?_
        conv => whnf
        refine Side.mk rfl (LnA.mk _ (List.length_map _) ?_)
        conv => whnf
        refine Br.mk (fun hc68 => ?_) (fun hc68 => ?_)
        ·replace hl2 := ite_t hc68 hl2
         obtain ⟨l17, hx59, hl2⟩ := obind hl2
         conv => whnf
         refine SeqG.mk Unit (fun y => [(2, .d (.int .u8 game1)), (3, .d (.int .u8 by1)), (4, .d (.list 1 (List.map I away1))), (5, .d (.ref (.agg [I b1.fLaw.fBase, I b1.fLaw.fPercent, I b1.fLaw.fCap, I b1.fLaw.fLeast, I b1.fLaw.fBlind, .list 1 (List.map I b1.fBowlers), .list 6 (List.map Ref07Sheet.enc b1.fSheets), .list 1 (List.map I b1.fWithdrawn)]))), (11, .ptr 11 b5 0), (12, .ptr 12 b7 0), (13, .d (I i8))]) (fun y => [(11, .cells b5 [.d (I x2.fNumber), .d (I x2.fBowler), .d (I x2.fWeek), .d (I x2.fGames.a0), .d (I x2.fGames.a1), .d (I x2.fGames.a2)]), (12, .cells b7 [.d (I b1.fLaw.fBase), .d (I b1.fLaw.fPercent), .d (I b1.fLaw.fCap), .d (I b1.fLaw.fLeast), .d (I b1.fLaw.fBlind), .d (.list 1 (List.map I b1.fBowlers)), .sl 61 hd8, .d (.list 1 (List.map I b1.fWithdrawn))]), (61, .arr hd8 68 6 false (List.map Ref07Sheet.enc l17))]) (fun _ => True) ?_ ?_
         ·obtain ⟨x26, hx61, hx59⟩ := obind hx59
          conv => whnf
          refine DrawG.mk (.take 0 (.take 1 (.take 2 (.take 3 (.take 4 (.take 5 (.take 6 (.take 7 (.take 8 .done))))))))) (by kernel_rfl) ?_
          conv => whnf
          refine Side.mk rfl ?_
          conv => whnf
          refine Side.mk ⟨rfl, rfl⟩ (Need.mk (idx_need _ hx61) ?_)
          conv => whnf
          refine Side.mk ⟨rfl, rfl⟩ ⟨_, Int.natCast_nonneg _, idx_el _ hx61, ?_⟩
          conv => whnf
          refine Side.mk rfl ?_
          conv => whnf
          refine Br.mk (fun hc73 => ?_) (fun hc73 => ?_)
          ·replace hx59 := ite_t hc73 hx59
           rcases bcases (decide (Int.tmod (w64 game1) 3 = 0)) with hc74 | hc74
           ·replace hx59 := ite_t hc74 hx59
            conv => whnf
            refine DrawG.mk (.take 0 (.take 1 (.take 2 (.take 3 (.take 4 (.take 5 (.take 6 (.take 7 (.take 8 (.take 9 (.take 10 (.take 11 (.take 12 (.take 13 (.take 14 (.take 15 (.take 16 (.take 17 (.take 18 (.take 19 (.alt 20 [18, 17] .done .nil))))))))))))))))))))) (by kernel_rfl) ?_
            conv => whnf
            refine Side.mk rfl ?_
            conv => whnf
            refine Need.mk (by decide) ?_
            conv => whnf
            refine Need.mk (by decide) ?_
            conv => whnf
            refine IxG.mk 0 (of_decide_eq_true hc74) (by decide) ?_
            conv => whnf
            refine Side.mk rfl ?_
            conv => whnf
            refine Need.mk (by decide) ?_
            conv => whnf
            refine Side.mk ⟨rfl, rfl⟩ (Need.mk (idx_need _ hx61) ?_)
            conv => whnf
            refine IxG.mk 0 (of_decide_eq_true hc74) (by decide) ?_
            conv => whnf
            refine Both.mk ?_ trivial
            conv => whnf
            refine Side.mk ⟨rfl, rfl⟩ ⟨_, Int.natCast_nonneg _, idx_el _ hx61, ?_⟩
            conv => whnf
            refine Eqv.mk (List.map Ref07Sheet.enc (List.set l16 (Int.toNat i8) ((Ref07Sheet.mk x26.fNumber x26.fBowler x26.fWeek (Ar3.mk (min 300 (w64 (x2.fGames.a0 + (Int.tmod (w64 by1) 60)))) x26.fGames.a1 x26.fGames.a2))))) (set_map _ _ _ _ rfl) ?_
            conv => whnf
            refine Need.mk (AV.le_refl _) ?_
            conv => whnf
            refine Side.mk ⟨rfl, rfl⟩ (Need.mk (idx_need_set _ hx61) ?_)
            conv => whnf
            refine Need.mk (AV.le_refl _) ?_
            cases hx59
            conv => whnf
            refine ⟨(), trivial, Sub.eq rfl ?_ ?_⟩
            ·repeat ((conv => whnf); refine Need.mk rfl ?_)
             exact trivial
            ·conv => whnf
             refine Need.mk (OLe.refl _) ?_
             conv => whnf
             refine Need.mk (OLe.refl _) ?_
             conv => whnf
             refine Need.mk (OLe.refl _) ?_
             exact trivial
           ·replace hx59 := ite_f hc74 hx59
            rcases bcases (decide (Int.tmod (w64 game1) 3 = 1)) with hc75 | hc75
            ·replace hx59 := ite_t hc75 hx59
             conv => whnf
             refine DrawG.mk (.take 0 (.take 1 (.take 2 (.take 3 (.take 4 (.take 5 (.take 6 (.take 7 (.take 8 (.take 9 (.take 10 (.take 11 (.take 12 (.take 13 (.take 14 (.take 15 (.take 16 (.take 17 (.take 18 (.take 19 (.alt 20 [18, 17] .done .nil))))))))))))))))))))) (by kernel_rfl) ?_
             conv => whnf
             refine Side.mk rfl ?_
             conv => whnf
             refine Need.mk (by decide) ?_
             conv => whnf
             refine Need.mk (by decide) ?_
             conv => whnf
             refine IxG.mk 1 (of_decide_eq_true hc75) (by decide) ?_
             conv => whnf
             refine Side.mk rfl ?_
             conv => whnf
             refine Need.mk (by decide) ?_
             conv => whnf
             refine Side.mk ⟨rfl, rfl⟩ (Need.mk (idx_need _ hx61) ?_)
             conv => whnf
             refine IxG.mk 1 (of_decide_eq_true hc75) (by decide) ?_
             conv => whnf
             refine Both.mk ?_ trivial
             conv => whnf
             refine Side.mk ⟨rfl, rfl⟩ ⟨_, Int.natCast_nonneg _, idx_el _ hx61, ?_⟩
             conv => whnf
             refine Eqv.mk (List.map Ref07Sheet.enc (List.set l16 (Int.toNat i8) ((Ref07Sheet.mk x26.fNumber x26.fBowler x26.fWeek (Ar3.mk x26.fGames.a0 (min 300 (w64 (x2.fGames.a1 + (Int.tmod (w64 by1) 60)))) x26.fGames.a2))))) (set_map _ _ _ _ rfl) ?_
             conv => whnf
             refine Need.mk (AV.le_refl _) ?_
             conv => whnf
             refine Side.mk ⟨rfl, rfl⟩ (Need.mk (idx_need_set _ hx61) ?_)
             conv => whnf
             refine Need.mk (AV.le_refl _) ?_
             cases hx59
             conv => whnf
             refine ⟨(), trivial, Sub.eq rfl ?_ ?_⟩
             ·repeat ((conv => whnf); refine Need.mk rfl ?_)
              exact trivial
             ·conv => whnf
              refine Need.mk (OLe.refl _) ?_
              conv => whnf
              refine Need.mk (OLe.refl _) ?_
              conv => whnf
              refine Need.mk (OLe.refl _) ?_
              exact trivial
            ·replace hx59 := ite_f hc75 hx59
             rcases bcases (decide (Int.tmod (w64 game1) 3 = 2)) with hc76 | hc76
             ·replace hx59 := ite_t hc76 hx59
              conv => whnf
              refine DrawG.mk (.take 0 (.take 1 (.take 2 (.take 3 (.take 4 (.take 5 (.take 6 (.take 7 (.take 8 (.take 9 (.take 10 (.take 11 (.take 12 (.take 13 (.take 14 (.take 15 (.take 16 (.take 17 (.take 18 (.take 19 (.alt 20 [18, 17] .done .nil))))))))))))))))))))) (by kernel_rfl) ?_
              conv => whnf
              refine Side.mk rfl ?_
              conv => whnf
              refine Need.mk (by decide) ?_
              conv => whnf
              refine Need.mk (by decide) ?_
              conv => whnf
              refine IxG.mk 2 (of_decide_eq_true hc76) (by decide) ?_
              conv => whnf
              refine Side.mk rfl ?_
              conv => whnf
              refine Need.mk (by decide) ?_
              conv => whnf
              refine Side.mk ⟨rfl, rfl⟩ (Need.mk (idx_need _ hx61) ?_)
              conv => whnf
              refine IxG.mk 2 (of_decide_eq_true hc76) (by decide) ?_
              conv => whnf
              refine Both.mk ?_ trivial
              conv => whnf
              refine Side.mk ⟨rfl, rfl⟩ ⟨_, Int.natCast_nonneg _, idx_el _ hx61, ?_⟩
              conv => whnf
              refine Eqv.mk (List.map Ref07Sheet.enc (List.set l16 (Int.toNat i8) ((Ref07Sheet.mk x26.fNumber x26.fBowler x26.fWeek (Ar3.mk x26.fGames.a0 x26.fGames.a1 (min 300 (w64 (x2.fGames.a2 + (Int.tmod (w64 by1) 60))))))))) (set_map _ _ _ _ rfl) ?_
              conv => whnf
              refine Need.mk (AV.le_refl _) ?_
              conv => whnf
              refine Side.mk ⟨rfl, rfl⟩ (Need.mk (idx_need_set _ hx61) ?_)
              conv => whnf
              refine Need.mk (AV.le_refl _) ?_
              cases hx59
              conv => whnf
              refine ⟨(), trivial, Sub.eq rfl ?_ ?_⟩
              ·repeat ((conv => whnf); refine Need.mk rfl ?_)
               exact trivial
              ·conv => whnf
               refine Need.mk (OLe.refl _) ?_
               conv => whnf
               refine Need.mk (OLe.refl _) ?_
               conv => whnf
               refine Need.mk (OLe.refl _) ?_
               exact trivial
             ·replace hx59 := ite_f hc76 hx59
              cases hx59
          ·replace hx59 := ite_f hc73 hx59
           cases hx59
           conv => whnf
           refine ⟨(), trivial, Sub.eq rfl ?_ ?_⟩
           ·repeat ((conv => whnf); refine Need.mk rfl ?_)
            exact trivial
           ·conv => whnf
            refine Need.mk (OLe.refl _) ?_
            conv => whnf
            refine Need.mk (OLe.refl _) ?_
            conv => whnf
            refine Need.mk (OLe.refl _) ?_
            exact trivial
         ·rintro _ _
          conv => whnf
          refine ⟨(n2, (w64 (i8 + 1), l17)), hl2, Sub.eq rfl ?_ ?_, Nat.lt_succ_self _⟩
          ·repeat ((conv => whnf); refine Need.mk rfl ?_)
           exact trivial
          ·conv => whnf
           refine Need.mk (OLe.refl _) ?_
           conv => whnf
           refine Need.mk (OLe.refl _) ?_
           conv => whnf
           refine Need.mk (OLe.refl _) ?_
           exact trivial
        ·replace hl2 := ite_f hc68 hl2
         cases hl2
         conv => whnf
         refine ⟨(), trivial, Sub.eq rfl ?_ ?_⟩
         ·repeat ((conv => whnf); refine Need.mk rfl ?_)
          exact trivial
         ·conv => whnf
          refine Need.mk (OLe.refl _) ?_
          conv => whnf
          refine Need.mk (OLe.refl _) ?_
          conv => whnf
          refine Need.mk (OLe.refl _) ?_
          exact trivial
      ·rintro _ _
       obtain ⟨⟨p1, e1⟩, hx65, h⟩ := obind h
       conv => whnf
       refine SeqG.mk Unit (fun y => [(3, .d (.int .u8 by1)), (4, .d (.list 1 (List.map I away1))), (5, .d (.ref (.agg [I b1.fLaw.fBase, I b1.fLaw.fPercent, I b1.fLaw.fCap, I b1.fLaw.fLeast, I b1.fLaw.fBlind, .list 1 (List.map I b1.fBowlers), .list 6 (List.map Ref07Sheet.enc b1.fSheets), .list 1 (List.map I b1.fWithdrawn)]))), (11, .ptr 11 b5 0), (12, .ptr 12 b7 0), (14, .d (I p1)), (16, .d (I e1))]) (fun y => [(11, .cells b5 [.d (I x2.fNumber), .d (I x2.fBowler), .d (I x2.fWeek), .d (I x2.fGames.a0), .d (I x2.fGames.a1), .d (I x2.fGames.a2)]), (12, .cells b7 [.d (I b1.fLaw.fBase), .d (I b1.fLaw.fPercent), .d (I b1.fLaw.fCap), .d (I b1.fLaw.fLeast), .d (I b1.fLaw.fBlind), .d (.list 1 (List.map I b1.fBowlers)), .sl 61 hd8, .d (.list 1 (List.map I b1.fWithdrawn))]), (61, .arr hd8 68 6 false (List.map Ref07Sheet.enc l10))]) (fun _ => True) ?_ ?_
       ·obtain ⟨r23, hx66, hx65⟩ := obind hx65
        obtain ⟨r24, hx67, hx65⟩ := obind hx65
        obtain ⟨⟨ra2, rb2, rc2⟩, hx68, hx65⟩ := obind hx65
        conv => whnf
        refine DrawG.mk (.take 0 (.take 2 (.take 3 (.take 4 (.take 5 (.take 7 (.alt 1 [7, 5, 4, 3, 2] (.alt 6 [7, 4, 3, 2] (.alt 8 [4, 3, 2] (.alt 9 [4, 2] (.take 10 (.take 11 (.take 12 (.take 13 (.take 14 (.take 15 (.take 16 .done))))))) .nil) .nil) (.alt 8 [5, 4, 3, 2] (.alt 6 [4, 3, 2] (.alt 9 [4, 2] (.take 10 (.take 11 (.take 12 (.take 13 (.take 14 (.take 15 (.take 16 .done))))))) .nil) .nil) .nil)) (.alt 6 [7, 4, 3, 2, 0] (.alt 1 [7, 4, 3, 2] (.alt 8 [4, 3, 2] (.alt 9 [4, 2] (.take 10 (.take 11 (.take 12 (.take 13 (.take 14 (.take 15 (.take 16 .done))))))) .nil) .nil) .nil) .nil)))))))) (by kernel_rfl) ?_
        conv => whnf
        refine Side.mk rfl ?_
        conv => whnf
        refine Side.mk rfl ?_
        conv => whnf
        refine Both.mk ?_ ?_
        ·conv => whnf
         refine CallG.pure _ (law07BookC hN hx66) ?_
         conv => whnf
         refine Need.mk (AV.le_refl _) ?_
         conv => whnf
         refine Side.mk rfl ?_
         conv => whnf
         refine Need.mk (AV.le_refl _) ?_
         conv => whnf
         refine Need.mk (AV.le_refl _) ?_
         conv => whnf
         refine Side.mk rfl ?_
         conv => whnf
         refine Need.mk (AV.le_refl _) ?_
         conv => whnf
         refine Need.mk (AV.le_refl _) ?_
         conv => whnf
         refine Both.mk ?_ ?_
         ·conv => whnf
          intro hd19
          conv => whnf
          refine Need.mk (AV.le_refl _) ?_
          conv => whnf
          refine Need.mk (AV.le_refl _) ?_
          conv => whnf
          refine Side.mk rfl ?_
          conv => whnf
          refine Need.mk (AV.le_refl _) ?_
          conv => whnf
          refine Need.mk (AV.le_refl _) ?_
          conv => whnf
          refine Both.mk ?_ trivial
          conv => whnf
          refine CallG.fresh 111 (law07ListC hN hx67) ?_
          intro hd20
          conv => whnf
          refine Need.mk (AV.le_refl _) ?_
          conv => whnf
          refine Side.mk rfl ?_
          conv => whnf
          refine Need.mk (AV.le_refl _) ?_
          conv => whnf
          refine Need.mk (AV.le_refl _) ?_
          conv => whnf
          refine Both.mk ?_ trivial
          conv => whnf
          refine Side.mk rfl ?_
          conv => whnf
          refine Side.mk rfl ?_
          conv => whnf
          refine CallG.pure _ (rateMatchC hN hx68) ?_
          conv => whnf
          refine Need.mk (AV.le_refl _) ?_
          conv => whnf
          refine Need.mk (AV.le_refl _) ?_
          cases hx65
          conv => whnf
          refine ⟨(), trivial, Sub.eq rfl ?_ ?_⟩
          ·repeat ((conv => whnf); refine Need.mk rfl ?_)
           exact trivial
          ·conv => whnf
           refine Need.mk (OLe.refl _) ?_
           conv => whnf
           refine Need.mk (OLe.refl _) ?_
           conv => whnf
           refine Need.mk (OLe.refl _) ?_
           exact trivial
         ·conv => whnf
          refine Both.mk ?_ trivial
          conv => whnf
          refine CallG.fresh 111 (law07ListC hN hx67) ?_
          intro hd21
          conv => whnf
          refine Side.mk rfl ?_
          conv => whnf
          refine Need.mk (AV.le_refl _) ?_
          conv => whnf
          refine Need.mk (AV.le_refl _) ?_
          conv => whnf
          refine Side.mk rfl ?_
          conv => whnf
          refine Need.mk (AV.le_refl _) ?_
          conv => whnf
          refine Need.mk (AV.le_refl _) ?_
          conv => whnf
          refine Both.mk ?_ trivial
          conv => whnf
          intro hd22
          conv => whnf
          refine Need.mk (AV.le_refl _) ?_
          conv => whnf
          refine Side.mk rfl ?_
          conv => whnf
          refine Need.mk (AV.le_refl _) ?_
          conv => whnf
          refine Need.mk (AV.le_refl _) ?_
          conv => whnf
          refine Both.mk ?_ trivial
          conv => whnf
          refine Side.mk rfl ?_
          conv => whnf
          refine Side.mk rfl ?_
          conv => whnf
          refine CallG.pure _ (rateMatchC hN hx68) ?_
          conv => whnf
          refine Need.mk (AV.le_refl _) ?_
          conv => whnf
          refine Need.mk (AV.le_refl _) ?_
          cases hx65
          conv => whnf
          refine ⟨(), trivial, Sub.eq rfl ?_ ?_⟩
          ·repeat ((conv => whnf); refine Need.mk rfl ?_)
           exact trivial
          ·conv => whnf
           refine Need.mk (OLe.refl _) ?_
           conv => whnf
           refine Need.mk (OLe.refl _) ?_
           conv => whnf
           refine Need.mk (OLe.refl _) ?_
           exact trivial
        ·conv => whnf
         refine Both.mk ?_ trivial
         conv => whnf
         intro hd23
         conv => whnf
         refine Need.mk (AV.le_refl _) ?_
         conv => whnf
         refine Need.mk (AV.le_refl _) ?_
         conv => whnf
         refine Side.mk rfl ?_
         conv => whnf
         refine Need.mk (AV.le_refl _) ?_
         conv => whnf
         refine Need.mk (AV.le_refl _) ?_
         conv => whnf
         refine Need.mk (AV.le_refl _) ?_
         conv => whnf
         refine Both.mk ?_ trivial
         conv => whnf
         refine CallG.pure _ (law07BookC hN hx66) ?_
         conv => whnf
         refine Need.mk (AV.le_refl _) ?_
         conv => whnf
         refine Need.mk (AV.le_refl _) ?_
         conv => whnf
         refine Side.mk rfl ?_
         conv => whnf
         refine Need.mk (AV.le_refl _) ?_
         conv => whnf
         refine Need.mk (AV.le_refl _) ?_
         conv => whnf
         refine Both.mk ?_ trivial
         conv => whnf
         refine CallG.fresh 111 (law07ListC hN hx67) ?_
         intro hd24
         conv => whnf
         refine Need.mk (AV.le_refl _) ?_
         conv => whnf
         refine Side.mk rfl ?_
         conv => whnf
         refine Need.mk (AV.le_refl _) ?_
         conv => whnf
         refine Need.mk (AV.le_refl _) ?_
         conv => whnf
         refine Both.mk ?_ trivial
         conv => whnf
         refine Side.mk rfl ?_
         conv => whnf
         refine Side.mk rfl ?_
         conv => whnf
         refine CallG.pure _ (rateMatchC hN hx68) ?_
         conv => whnf
         refine Need.mk (AV.le_refl _) ?_
         conv => whnf
         refine Need.mk (AV.le_refl _) ?_
         cases hx65
         conv => whnf
         refine ⟨(), trivial, Sub.eq rfl ?_ ?_⟩
         ·repeat ((conv => whnf); refine Need.mk rfl ?_)
          exact trivial
         ·conv => whnf
          refine Need.mk (OLe.refl _) ?_
          conv => whnf
          refine Need.mk (OLe.refl _) ?_
          conv => whnf
          refine Need.mk (OLe.refl _) ?_
          exact trivial
       ·rintro _ _
        obtain ⟨⟨q1, f1⟩, hx72, h⟩ := obind h
        conv => whnf
        refine SeqG.mk Unit (fun y => [(3, .d (.int .u8 by1)), (5, .d (.ref (.agg [I b1.fLaw.fBase, I b1.fLaw.fPercent, I b1.fLaw.fCap, I b1.fLaw.fLeast, I b1.fLaw.fBlind, .list 1 (List.map I b1.fBowlers), .list 6 (List.map Ref07Sheet.enc b1.fSheets), .list 1 (List.map I b1.fWithdrawn)]))), (11, .ptr 11 b5 0), (12, .ptr 12 b7 0), (14, .d (I p1)), (16, .d (I e1)), (17, .d (I q1)), (19, .d (I f1))]) (fun y => [(11, .cells b5 [.d (I x2.fNumber), .d (I x2.fBowler), .d (I x2.fWeek), .d (I x2.fGames.a0), .d (I x2.fGames.a1), .d (I x2.fGames.a2)]), (12, .cells b7 [.d (I b1.fLaw.fBase), .d (I b1.fLaw.fPercent), .d (I b1.fLaw.fCap), .d (I b1.fLaw.fLeast), .d (I b1.fLaw.fBlind), .d (.list 1 (List.map I b1.fBowlers)), .sl 61 hd8, .d (.list 1 (List.map I b1.fWithdrawn))]), (61, .arr hd8 68 6 true (List.map Ref07Sheet.enc l10))]) (fun _ => True) ?_ ?_
        ·obtain ⟨r27, hx73, hx72⟩ := obind hx72
         obtain ⟨r28, hx74, hx72⟩ := obind hx72
         obtain ⟨⟨ra4, rb4, rc4⟩, hx75, hx72⟩ := obind hx72
         conv => whnf
         refine DrawG.mk (.take 0 (.take 2 (.take 3 (.take 4 (.take 5 (.take 7 (.alt 1 [7, 5, 4, 3, 2] (.alt 6 [7, 4, 3, 2] (.alt 8 [4, 3, 2] (.alt 9 [4, 2] (.take 10 (.take 11 (.take 12 (.take 13 (.take 14 (.take 15 (.take 16 .done))))))) .nil) .nil) (.alt 8 [5, 4, 3, 2] (.alt 6 [4, 3, 2] (.alt 9 [4, 2] (.take 10 (.take 11 (.take 12 (.take 13 (.take 14 (.take 15 (.take 16 .done))))))) .nil) .nil) .nil)) (.alt 6 [7, 4, 3, 2, 0] (.alt 1 [7, 4, 3, 2] (.alt 8 [4, 3, 2] (.alt 9 [4, 2] (.take 10 (.take 11 (.take 12 (.take 13 (.take 14 (.take 15 (.take 16 .done))))))) .nil) .nil) .nil) .nil)))))))) (by kernel_rfl) ?_
         conv => whnf
         refine Side.mk rfl ?_
         conv => whnf
         refine Side.mk rfl ?_
         conv => whnf
         refine Side.mk rfl ?_
         conv => whnf
         refine Both.mk ?_ ?_
         ·conv => whnf
          refine Side.mk rfl ?_
          conv => whnf
          refine CallG.pure _ (law07BookC hN hx73) ?_
          conv => whnf
          refine Need.mk (AV.le_refl _) ?_
          conv => whnf
          refine Side.mk rfl ?_
          conv => whnf
          refine Need.mk (AV.le_refl _) ?_
          conv => whnf
          refine Need.mk (AV.le_refl _) ?_
          conv => whnf
          refine Side.mk rfl ?_
          conv => whnf
          refine Need.mk (AV.le_refl _) ?_
          conv => whnf
          refine Need.mk (AV.le_refl _) ?_
          conv => whnf
          refine Both.mk ?_ ?_
          ·conv => whnf
           intro hd35
           conv => whnf
           refine Need.mk (AV.le_refl _) ?_
           conv => whnf
           refine Need.mk (AV.le_refl _) ?_
           conv => whnf
           refine Side.mk rfl ?_
           conv => whnf
           refine Need.mk (AV.le_refl _) ?_
           conv => whnf
           refine Need.mk (AV.le_refl _) ?_
           conv => whnf
           refine Both.mk ?_ trivial
           conv => whnf
           refine CallG.fresh 125 (law07ListC hN hx74) ?_
           intro hd36
           conv => whnf
           refine Need.mk (AV.le_refl _) ?_
           conv => whnf
           refine Side.mk rfl ?_
           conv => whnf
           refine Need.mk (AV.le_refl _) ?_
           conv => whnf
           refine Need.mk (AV.le_refl _) ?_
           conv => whnf
           refine Both.mk ?_ trivial
           conv => whnf
           refine Side.mk rfl ?_
           conv => whnf
           refine Side.mk rfl ?_
           conv => whnf
           refine CallG.pure _ (rateMatchC hN hx75) ?_
           conv => whnf
           refine Need.mk (AV.le_refl _) ?_
           conv => whnf
           refine Need.mk (AV.le_refl _) ?_
           cases hx72
           conv => whnf
           refine ⟨(), trivial, Sub.eq rfl ?_ ?_⟩
           ·repeat ((conv => whnf); refine Need.mk rfl ?_)
            exact trivial
           ·conv => whnf
            refine Need.mk (OLe.refl _) ?_
            conv => whnf
            refine Need.mk (OLe.refl _) ?_
            conv => whnf
            refine Need.mk (OLe.refl _) ?_
            exact trivial
          ·conv => whnf
           refine Both.mk ?_ trivial
           conv => whnf
           refine CallG.fresh 125 (law07ListC hN hx74) ?_
           intro hd37
           conv => whnf
           refine Side.mk rfl ?_
           conv => whnf
           refine Need.mk (AV.le_refl _) ?_
           conv => whnf
           refine Need.mk (AV.le_refl _) ?_
           conv => whnf
           refine Side.mk rfl ?_
           conv => whnf
           refine Need.mk (AV.le_refl _) ?_
           conv => whnf
           refine Need.mk (AV.le_refl _) ?_
           conv => whnf
           refine Both.mk ?_ trivial
           conv => whnf
           intro hd38
           conv => whnf
           refine Need.mk (AV.le_refl _) ?_
           conv => whnf
           refine Side.mk rfl ?_
           conv => whnf
           refine Need.mk (AV.le_refl _) ?_
           conv => whnf
           refine Need.mk (AV.le_refl _) ?_
           conv => whnf
           refine Both.mk ?_ trivial
           conv => whnf
           refine Side.mk rfl ?_
           conv => whnf
           refine Side.mk rfl ?_
           conv => whnf
           refine CallG.pure _ (rateMatchC hN hx75) ?_
           conv => whnf
           refine Need.mk (AV.le_refl _) ?_
           conv => whnf
           refine Need.mk (AV.le_refl _) ?_
           cases hx72
           conv => whnf
           refine ⟨(), trivial, Sub.eq rfl ?_ ?_⟩
           ·repeat ((conv => whnf); refine Need.mk rfl ?_)
            exact trivial
           ·conv => whnf
            refine Need.mk (OLe.refl _) ?_
            conv => whnf
            refine Need.mk (OLe.refl _) ?_
            conv => whnf
            refine Need.mk (OLe.refl _) ?_
            exact trivial
         ·conv => whnf
          refine Both.mk ?_ trivial
          conv => whnf
          intro hd39
          conv => whnf
          refine Need.mk (AV.le_refl _) ?_
          conv => whnf
          refine Need.mk (AV.le_refl _) ?_
          conv => whnf
          refine Side.mk rfl ?_
          conv => whnf
          refine Need.mk (AV.le_refl _) ?_
          conv => whnf
          refine Need.mk (AV.le_refl _) ?_
          conv => whnf
          refine Side.mk rfl ?_
          conv => whnf
          refine Need.mk (AV.le_refl _) ?_
          conv => whnf
          refine Both.mk ?_ trivial
          conv => whnf
          refine Side.mk rfl ?_
          conv => whnf
          refine CallG.pure _ (law07BookC hN hx73) ?_
          conv => whnf
          refine Need.mk (AV.le_refl _) ?_
          conv => whnf
          refine Need.mk (AV.le_refl _) ?_
          conv => whnf
          refine Side.mk rfl ?_
          conv => whnf
          refine Need.mk (AV.le_refl _) ?_
          conv => whnf
          refine Need.mk (AV.le_refl _) ?_
          conv => whnf
          refine Both.mk ?_ trivial
          conv => whnf
          refine CallG.fresh 125 (law07ListC hN hx74) ?_
          intro hd40
          conv => whnf
          refine Need.mk (AV.le_refl _) ?_
          conv => whnf
          refine Side.mk rfl ?_
          conv => whnf
          refine Need.mk (AV.le_refl _) ?_
          conv => whnf
          refine Need.mk (AV.le_refl _) ?_
          conv => whnf
          refine Both.mk ?_ trivial
          conv => whnf
          refine Side.mk rfl ?_
          conv => whnf
          refine Side.mk rfl ?_
          conv => whnf
          refine CallG.pure _ (rateMatchC hN hx75) ?_
          conv => whnf
          refine Need.mk (AV.le_refl _) ?_
          conv => whnf
          refine Need.mk (AV.le_refl _) ?_
          cases hx72
          conv => whnf
          refine ⟨(), trivial, Sub.eq rfl ?_ ?_⟩
          ·repeat ((conv => whnf); refine Need.mk rfl ?_)
           exact trivial
          ·conv => whnf
           refine Need.mk (OLe.refl _) ?_
           conv => whnf
           refine Need.mk (OLe.refl _) ?_
           conv => whnf
           refine Need.mk (OLe.refl _) ?_
           exact trivial
        ·rintro _ _
         obtain ⟨v6, hx77, h⟩ := obind h
         conv => whnf
         refine SeqG.mk Unit (fun y => [(3, .d (.int .u8 by1)), (5, .d (.ref (.agg [I b1.fLaw.fBase, I b1.fLaw.fPercent, I b1.fLaw.fCap, I b1.fLaw.fLeast, I b1.fLaw.fBlind, .list 1 (List.map I b1.fBowlers), .list 6 (List.map Ref07Sheet.enc b1.fSheets), .list 1 (List.map I b1.fWithdrawn)]))), (11, .ptr 11 b5 0), (12, .ptr 12 b7 0), (140, .d (.bool v6))]) (fun y => [(11, .cells b5 [.d (I x2.fNumber), .d (I x2.fBowler), .d (I x2.fWeek), .d (I x2.fGames.a0), .d (I x2.fGames.a1), .d (I x2.fGames.a2)]), (12, .cells b7 [.d (I b1.fLaw.fBase), .d (I b1.fLaw.fPercent), .d (I b1.fLaw.fCap), .d (I b1.fLaw.fLeast), .d (I b1.fLaw.fBlind), .d (.list 1 (List.map I b1.fBowlers)), .sl 61 hd8, .d (.list 1 (List.map I b1.fWithdrawn))]), (61, .arr hd8 68 6 true (List.map Ref07Sheet.enc l10))]) (fun _ => True) ?_ ?_
         ·conv => whnf
          refine Br.mk (fun hc84 => ?_) (fun hc84 => ?_)
          ·replace hx77 := ite_f hc84 hx77
           conv => whnf
           refine Br.mk (fun hc85 => ?_) (fun hc85 => ?_)
           ·replace hx77 := ite_f hc85 hx77
            cases hx77
            conv => whnf
            refine ⟨(), trivial, Sub.eq rfl ?_ ?_⟩
            ·repeat ((conv => whnf); refine Need.mk rfl ?_)
             exact trivial
            ·conv => whnf
             refine Need.mk (OLe.refl _) ?_
             conv => whnf
             refine Need.mk (OLe.refl _) ?_
             conv => whnf
             refine Need.mk (OLe.refl _) ?_
             exact trivial
           ·replace hx77 := ite_t hc85 hx77
            cases hx77
            conv => whnf
            refine ⟨(), trivial, Sub.eq rfl ?_ ?_⟩
            ·repeat ((conv => whnf); refine Need.mk rfl ?_)
             exact trivial
            ·conv => whnf
             refine Need.mk (OLe.refl _) ?_
             conv => whnf
             refine Need.mk (OLe.refl _) ?_
             conv => whnf
             refine Need.mk (OLe.refl _) ?_
             exact trivial
          ·replace hx77 := ite_t hc84 hx77
           cases hx77
           conv => whnf
           refine ⟨(), trivial, Sub.eq rfl ?_ ?_⟩
           ·repeat ((conv => whnf); refine Need.mk rfl ?_)
            exact trivial
           ·conv => whnf
            refine Need.mk (OLe.refl _) ?_
            conv => whnf
            refine Need.mk (OLe.refl _) ?_
            conv => whnf
            refine Need.mk (OLe.refl _) ?_
            exact trivial
         ·rintro _ _
          conv => whnf
          refine Br.mk (fun hc86 => ?_) (fun hc86 => ?_)
          ·replace h := ite_t hc86 h
           conv => whnf
           cases h
           exact rfl
          ·replace h := ite_f hc86 h
           conv => whnf
           refine SeqG.mk Unit (fun y => []) (fun y => []) (fun y => law07RateBetter_k2 N = some r) ?_ ?_
           ·conv => whnf
            refine LoopG.mk (Nat × Int) (fun y => [(3, .d (.int .u8 by1)), (5, .d (.ref (.agg [I b1.fLaw.fBase, I b1.fLaw.fPercent, I b1.fLaw.fCap, I b1.fLaw.fLeast, I b1.fLaw.fBlind, .list 1 (List.map I b1.fBowlers), .list 6 (List.map Ref07Sheet.enc b1.fSheets), .list 1 (List.map I b1.fWithdrawn)]))), (11, .ptr 11 b5 0), (12, .ptr 12 b7 0), (20, .d (I y.2))]) (fun y => [(11, .cells b5 [.d (I x2.fNumber), .d (I x2.fBowler), .d (I x2.fWeek), .d (I x2.fGames.a0), .d (I x2.fGames.a1), .d (I x2.fGames.a2)]), (12, .cells b7 [.d (I b1.fLaw.fBase), .d (I b1.fLaw.fPercent), .d (I b1.fLaw.fCap), .d (I b1.fLaw.fLeast), .d (I b1.fLaw.fBlind), .d (.list 1 (List.map I b1.fBowlers)), .sl 61 hd8, .d (.list 1 (List.map I b1.fWithdrawn))]), (61, .arr hd8 68 6 true (List.map Ref07Sheet.enc l10))]) (fun y => loopN (fun rr x => law07RateBetter_b3 N b1 by1 x2 l10 rr x) y.1 y.2 = some r) (fun y => y.1) (N, 0) h (Sub.eq rfl ?_ ?_) ?_
            ·repeat ((conv => whnf); refine Need.mk rfl ?_)
             exact trivial
            ·conv => whnf
             refine Need.mk (OLe.refl _) ?_
             conv => whnf
             refine Need.mk (OLe.refl _) ?_
             conv => whnf
             refine Need.mk (OLe.refl _) ?_
             exact trivial
            ·rintro ⟨n4, k8⟩ hl4
             obtain ⟨n4, rfl, hl4⟩ := loopN_some hl4
             replace hl4 : law07RateBetter_b3 N b1 by1 x2 l10 (loopN (fun rr x => law07RateBetter_b3 N b1 by1 x2 l10 rr x) n4) k8 = some r := hl4
             rw [law07RateBetter_b3] at hl4
             conv => whnf
             refine LnA.mk _ (List.length_map _) ?_
             conv => whnf
             refine Br.mk (fun hc128 => ?_) (fun hc128 => ?_)
             ·replace hl4 := ite_t hc128 hl4
              obtain ⟨v18, hx160, hl4⟩ := obind hl4
              conv => whnf
              refine SeqG.mk Unit (fun y => [(3, .d (.int .u8 by1)), (5, .d (.ref (.agg [I b1.fLaw.fBase, I b1.fLaw.fPercent, I b1.fLaw.fCap, I b1.fLaw.fLeast, I b1.fLaw.fBlind, .list 1 (List.map I b1.fBowlers), .list 6 (List.map Ref07Sheet.enc b1.fSheets), .list 1 (List.map I b1.fWithdrawn)]))), (11, .ptr 11 b5 0), (12, .ptr 12 b7 0), (20, .d (I k8)), (167, .d (.bool v18))]) (fun y => [(11, .cells b5 [.d (I x2.fNumber), .d (I x2.fBowler), .d (I x2.fWeek), .d (I x2.fGames.a0), .d (I x2.fGames.a1), .d (I x2.fGames.a2)]), (12, .cells b7 [.d (I b1.fLaw.fBase), .d (I b1.fLaw.fPercent), .d (I b1.fLaw.fCap), .d (I b1.fLaw.fLeast), .d (I b1.fLaw.fBlind), .d (.list 1 (List.map I b1.fBowlers)), .sl 61 hd8, .d (.list 1 (List.map I b1.fWithdrawn))]), (61, .arr hd8 68 6 true (List.map Ref07Sheet.enc l10))]) (fun _ => True) ?_ ?_
              ·obtain ⟨r77, hx161, hx160⟩ := obind hx160
               conv => whnf
               refine DrawG.mk (.take 0 (.take 1 (.take 2 (.take 3 (.take 4 (.alt 5 [3] (.take 6 (.take 7 (.spl 155 (.take 8 (.take 9 (.take 10 (.take 11 (.take 12 (.take 13 (.take 14 (.take 15 (.take 16 (.alt 17 [15, 14, 13, 12, 11, 6, 3] (.take 18 (.take 19 .done)) .nil))))))))))))) .nil)))))) (by kernel_rfl) ?_
               conv => whnf
               refine Side.mk rfl ?_
               conv => whnf
               refine Side.mk rfl ?_
               conv => whnf
               refine Both.mk ?_ trivial
               conv => whnf
               refine Side.mk rfl ?_
               conv => whnf
               refine CallG.pure _ (law07SameC hN hx161) ?_
               conv => whnf
               refine Need.mk (AV.le_refl _) ?_
               conv => whnf
               refine Br.mk (fun hc133 => ?_) (fun hc133 => ?_)
               ·replace hx160 := ite_t hc133 hx160
                conv => whnf
                refine Both.mk ?_ trivial
                conv => whnf
                refine Need.mk rfl ?_
                conv => whnf
                refine Need.mk rfl ?_
                conv => whnf
                refine Need.mk rfl ?_
                conv => whnf
                refine Need.mk rfl ?_
                conv => whnf
                refine Need.mk rfl ?_
                conv => whnf
                refine Need.mk (AV.le_refl _) ?_
                conv => whnf
                refine Need.mk (AV.le_refl _) ?_
                cases hx160
                conv => whnf
                refine ⟨(), trivial, Sub.eq rfl ?_ ?_⟩
                ·repeat ((conv => whnf); refine Need.mk rfl ?_)
                 exact trivial
                ·conv => whnf
                 refine Need.mk (OLe.refl _) ?_
                 conv => whnf
                 refine Need.mk (OLe.refl _) ?_
                 conv => whnf
                 refine Need.mk (OLe.refl _) ?_
                 exact trivial
               ·replace hx160 := ite_f hc133 hx160
                obtain ⟨_, hx162, hx160⟩ := obind hx160
                obtain ⟨r78, hx163, hx160⟩ := obind hx160
                conv => whnf
                refine Side.mk rfl ?_
                conv => whnf
                refine Side.mk rfl ?_
                conv => whnf
                refine Need.mk (nz_ne hx162) ?_
                conv => whnf
                refine Both.mk ?_ trivial
                conv => whnf
                refine Side.mk rfl ?_
                conv => whnf
                refine CallG.pure _ (law07SameC hN hx163) ?_
                conv => whnf
                refine Need.mk (nz_ne hx162) ?_
                conv => whnf
                refine Need.mk (AV.le_refl _) ?_
                conv => whnf
                refine Side.mk rfl ?_
                conv => whnf
                refine Need.mk (AV.le_refl _) ?_
                conv => whnf
                refine Need.mk (AV.le_refl _) ?_
                conv => whnf
                refine Need.mk (AV.le_refl _) ?_
                conv => whnf
                refine Need.mk (AV.le_refl _) ?_
                conv => whnf
                refine Need.mk (AV.le_refl _) ?_
                conv => whnf
                refine Need.mk (AV.le_refl _) ?_
                cases hx160
                conv => whnf
                refine ⟨(), trivial, Sub.eq rfl ?_ ?_⟩
                ·repeat ((conv => whnf); refine Need.mk rfl ?_)
                 exact trivial
                ·conv => whnf
                 refine Need.mk (OLe.refl _) ?_
                 conv => whnf
                 refine Need.mk (OLe.refl _) ?_
                 conv => whnf
                 refine Need.mk (OLe.refl _) ?_
                 exact trivial
              ·rintro _ _
               conv => whnf
               refine Br.mk (fun hc134 => ?_) (fun hc134 => ?_)
               ·replace hl4 := ite_t hc134 hl4
                conv => whnf
                cases hl4
                exact rfl
               ·replace hl4 := ite_f hc134 hl4
                conv => whnf
                refine ⟨(n4, w64 (k8 + 1)), hl4, Sub.eq rfl ?_ ?_, Nat.lt_succ_self _⟩
                ·repeat ((conv => whnf); refine Need.mk rfl ?_)
                 exact trivial
                ·conv => whnf
                 refine Need.mk (OLe.refl _) ?_
                 conv => whnf
                 refine Need.mk (OLe.refl _) ?_
                 conv => whnf
                 refine Need.mk (OLe.refl _) ?_
                 exact trivial
             ·replace hl4 := ite_f hc128 hl4
              conv => whnf
              refine ⟨(), hl4, Sub.eq rfl ?_ ?_⟩
              ·repeat ((conv => whnf); refine Need.mk rfl ?_)
               exact trivial
              ·exact trivial
           ·clear h
            rintro _ h
            unfold law07RateBetter_k2 at h
            obtain ⟨r54, hx121, h⟩ := obind h
            conv => whnf
            refine CallG.pure _ (law07WakesC hN hx121) ?_
            conv => whnf
            cases h
            exact rfl
end Go.Proofs.Ytmencjafjcmbaaa
