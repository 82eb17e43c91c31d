/-
  The walk of the law RateWithdrawn.
-/
import Derived.Test.YtmencjafjcmbaaaDRateWithdrawn
import Derived.Test.YtmencjafjcmbaaaWd
namespace Go.Proofs.Ytmencjafjcmbaaa
open Go Go.Abs Go.Kp
set_option maxRecDepth 100000
set_option maxHeartbeats 8000000
set_option linter.all false

theorem law07RateWithdrawnC {N : Nat} (hN : N ≤ 1073741824) {b1 : Ref07Book} {which1 : Int} {week1 : Int} {r : Bool} (h : law07RateWithdrawn N b1 which1 week1 = some r) :
    ACalls Try.prog 10 [.d (.agg [I b1.fLaw.fBase, I b1.fLaw.fPercent, I b1.fLaw.fCap, I b1.fLaw.fLeast, I b1.fLaw.fBlind, .list 1 (List.map I b1.fBowlers), .list 6 (List.map Ref07Sheet.enc b1.fSheets), .list 1 (List.map I b1.fWithdrawn)]), .d (.int .u8 which1), .d (.int .u8 week1)] [] fun e os => e = .ret (.d (.bool r)) ∧ os = [] := by
  refine acalls_f (fresh := false) tt_ok dr_ok ⟨[3], [], [], [], [1, 4, 16, 20, 1006, 1009, 1016, 1022], 0, []⟩ Try.func10 rfl Try.call10 rfl ?_
  unfold law07RateWithdrawn at h
  obtain ⟨v2, hx7, h⟩ := obind h
  conv => whnf
  refine SeqG.mk Unit (fun y => [(1, .d (.int .u8 which1)), (2, .d (.int .u8 week1)), (3, .d (.ref (.agg [I b1.fLaw.fBase, I b1.fLaw.fPercent, I b1.fLaw.fCap, I b1.fLaw.fLeast, I b1.fLaw.fBlind, .list 1 (List.map I b1.fBowlers), .list 6 (List.map Ref07Sheet.enc b1.fSheets), .list 1 (List.map I b1.fWithdrawn)]))), (31, .d (.bool v2))]) (fun y => []) (fun _ => True) ?_ ?_
  ·obtain ⟨r6, hx8, hx7⟩ := obind hx7
   conv => whnf
   refine CallG.pure _ (law07ReadyC hN hx8) ?_
   conv => whnf
   refine Br.mk (fun hc8 => ?_) (fun hc8 => ?_)
   ·replace hx7 := ite_f hc8 hx7
    conv => whnf
    refine LnA.mk _ (List.length_map _) ?_
    conv => whnf
    refine Br.mk (fun hc9 => ?_) (fun hc9 => ?_)
    ·replace hx7 := ite_f hc9 hx7
     conv => whnf
     refine LnA.mk _ (List.length_map _) ?_
     cases hx7
     conv => whnf
     refine ⟨(), trivial, Sub.eq rfl ?_ ?_⟩
     ·repeat ((conv => whnf); refine Need.mk rfl ?_)
      exact trivial
     ·exact trivial
    ·replace hx7 := ite_t hc9 hx7
     cases hx7
     conv => whnf
     refine ⟨(), trivial, Sub.eq rfl ?_ ?_⟩
     ·repeat ((conv => whnf); refine Need.mk rfl ?_)
      exact trivial
     ·exact trivial
   ·replace hx7 := ite_t hc8 hx7
    cases hx7
    conv => whnf
    refine ⟨(), trivial, Sub.eq rfl ?_ ?_⟩
    ·repeat ((conv => whnf); refine Need.mk rfl ?_)
     exact trivial
    ·exact trivial
  ·rintro _ _
   conv => whnf
   refine Br.mk (fun hc10 => ?_) (fun hc10 => ?_)
   ·replace h := ite_t hc10 h
    obtain ⟨r8, hx10, h⟩ := obind h
    conv => whnf
    refine CallG.pure _ (law07WakesC hN hx10) ?_
    conv => whnf
    cases h
    exact rfl
   ·replace h := ite_f hc10 h
    obtain ⟨_, hx13, h⟩ := obind h
    obtain ⟨x2, hx14, h⟩ := obind h
    conv => whnf
    refine DrawG.mk (.take 0 (.take 1 (.take 2 (.take 3 (.take 4 (.take 5 (.take 6 (.take 7 (.take 8 (.take 9 (.alt 10 [9, 8, 7, 6, 5, 4, 3, 2, 1, 0] (.alt 11 [] .done .nil) .nil))))))))))) (by kernel_rfl) ?_
    conv => whnf
    refine LnA.mk _ (List.length_map _) ?_
    conv => whnf
    refine Need.mk (nz_ne hx13) ?_
    conv => whnf
    refine Side.mk rfl ⟨_, idx_0 hx14, idx_map _ hx14, ?_⟩
    conv => whnf
    refine Both.mk ?_ trivial
    conv => whnf
    intro b5
    conv => whnf
    refine Need.mk (AV.le_refl _) ?_
    conv => whnf
    refine Side.mk rfl ⟨_, idx_0 hx14, idx_map _ hx14, ?_⟩
    conv => whnf
    refine Need.mk (AV.le_refl _) ?_
    conv => whnf
    refine Need.mk (nz_ne hx13) ?_
    conv => whnf
    refine Need.mk (AV.le_refl _) ?_
    conv => whnf
    refine LnA.mk _ (List.length_map _) ?_
    conv => whnf
    refine Need.mk (AV.le_refl _) ?_
    conv => whnf
    refine Need.mk (AV.le_refl _) ?_
    conv => whnf
    refine Need.mk (AV.le_refl _) ?_
    conv => whnf
    refine Need.mk (AV.le_refl _) ?_
    conv => whnf
    refine Need.mk (AV.le_refl _) ?_
    conv => whnf
    refine Need.mk (AV.le_refl _) ?_
    conv => whnf
    refine Need.mk (AV.le_refl _) ?_
    conv => whnf
    refine Both.mk ?_ trivial
    conv => whnf
    refine Side.mk rfl ?_
    obtain ⟨_, hx15, h⟩ := obind h
    conv => whnf
    refine SeqG.mk (Nat × Nat) (fun y => [(2, .d (.int .u8 week1)), (3, .d (.ref (.agg [I b1.fLaw.fBase, I b1.fLaw.fPercent, I b1.fLaw.fCap, I b1.fLaw.fLeast, I b1.fLaw.fBlind, .list 1 (List.map I b1.fBowlers), .list 6 (List.map Ref07Sheet.enc b1.fSheets), .list 1 (List.map I b1.fWithdrawn)]))), (7, .ptr 7 b5 0), (8, .ptr 8 y.1 0), (9, .ptr 9 y.2 0)]) (fun y => [(7, .cells b5 [.d (I x2.fNumber), .d (I x2.fBowler), .d (I x2.fWeek), .d (I x2.fGames.a0), .d (I x2.fGames.a1), .d (I x2.fGames.a2)]), (8, .cells y.1 [.d (I b1.fLaw.fBase), .d (I b1.fLaw.fPercent), .d (I b1.fLaw.fCap), .d (I b1.fLaw.fLeast), .d (I b1.fLaw.fBlind), .d (.list 1 (List.map I b1.fBowlers)), .d (.list 6 (List.map Ref07Sheet.enc b1.fSheets)), .d (.list 1 (List.map I b1.fWithdrawn))]), (9, .cells y.2 [.d (I b1.fLaw.fBase), .d (I b1.fLaw.fPercent), .d (I b1.fLaw.fCap), .d (I b1.fLaw.fLeast), .d (I b1.fLaw.fBlind), .d (.list 1 (List.map I b1.fBowlers)), .d (.list 6 (List.map Ref07Sheet.enc b1.fSheets)), .d (.list 1 (List.map I b1.fWithdrawn))])]) (fun _ => True) ?_ ?_
    ·conv => whnf
     refine DrawG.mk (.take 0 (.take 1 (.alt 2 [1, 0] (.alt 3 [1, 0] (.alt 4 [1] (.alt 5 [] .done .nil) .nil) .nil) (.alt 3 [1, 0] (.alt 2 [1, 0] (.alt 4 [1] (.alt 5 [] .done .nil) .nil) .nil) .nil)))) (by kernel_rfl) ?_
     conv => whnf
     refine Both.mk ?_ ?_
     ·conv => whnf
      intro b14
      conv => whnf
      refine Need.mk (AV.le_refl _) ?_
      conv => whnf
      refine Need.mk (AV.le_refl _) ?_
      conv => whnf
      refine Both.mk ?_ trivial
      conv => whnf
      intro b15
      conv => whnf
      refine Need.mk (AV.le_refl _) ?_
      conv => whnf
      refine Need.mk (AV.le_refl _) ?_
      conv => whnf
      refine Both.mk ?_ trivial
      conv => whnf
      refine Side.mk rfl ?_
      conv => whnf
      refine Need.mk (AV.le_refl _) ?_
      conv => whnf
      refine Both.mk ?_ trivial
      conv => whnf
      refine Side.mk rfl ?_
      conv => whnf
      refine ⟨(b14, b15), trivial, Sub.eq rfl ?_ ?_⟩
      ·repeat ((conv => whnf); refine Need.mk rfl ?_)
       exact trivial
      ·conv => whnf
       refine Need.mk (OLe.refl _) ?_
       conv => whnf
       refine Need.mk (OLe.refl _) ?_
       conv => whnf
       refine Need.mk (OLe.refl _) ?_
       exact trivial
     ·conv => whnf
      refine Both.mk ?_ trivial
      conv => whnf
      intro b16
      conv => whnf
      refine Need.mk (AV.le_refl _) ?_
      conv => whnf
      refine Need.mk (AV.le_refl _) ?_
      conv => whnf
      refine Both.mk ?_ trivial
      conv => whnf
      intro b17
      conv => whnf
      refine Need.mk (AV.le_refl _) ?_
      conv => whnf
      refine Need.mk (AV.le_refl _) ?_
      conv => whnf
      refine Both.mk ?_ trivial
      conv => whnf
      refine Side.mk rfl ?_
      conv => whnf
      refine Need.mk (AV.le_refl _) ?_
      conv => whnf
      refine Both.mk ?_ trivial
      conv => whnf
      refine Side.mk rfl ?_
      conv => whnf
      refine ⟨(b17, b16), trivial, Sub.eq rfl ?_ ?_⟩
      ·repeat ((conv => whnf); refine Need.mk rfl ?_)
       exact trivial
      ·conv => whnf
       refine Need.mk (OLe.refl _) ?_
       conv => whnf
       refine Need.mk (OLe.refl _) ?_
       conv => whnf
       refine Need.mk (OLe.refl _) ?_
       exact trivial
    ·rintro ⟨bb1, bb2⟩ _
     conv => whnf
     refine Side.mk rfl ?_
     obtain ⟨l14, hx37, h⟩ := obind h
     conv => whnf
     refine SeqG.mk Value (fun y => [(2, .d (.int .u8 week1)), (3, .d (.ref (.agg [I b1.fLaw.fBase, I b1.fLaw.fPercent, I b1.fLaw.fCap, I b1.fLaw.fLeast, I b1.fLaw.fBlind, .list 1 (List.map I b1.fBowlers), .list 6 (List.map Ref07Sheet.enc b1.fSheets), .list 1 (List.map I b1.fWithdrawn)]))), (7, .ptr 7 b5 0), (8, .ptr 8 bb1 0), (9, .ptr 9 bb2 0)]) (fun y => [(7, .cells b5 [.d (I x2.fNumber), .d (I x2.fBowler), .d (I x2.fWeek), .d (I x2.fGames.a0), .d (I x2.fGames.a1), .d (I x2.fGames.a2)]), (8, .cells bb1 [.d (I b1.fLaw.fBase), .d (I b1.fLaw.fPercent), .d (I b1.fLaw.fCap), .d (I b1.fLaw.fLeast), .d (I b1.fLaw.fBlind), .d (.list 1 (List.map I b1.fBowlers)), .sl 70 y, .d (.list 1 (List.map I b1.fWithdrawn))]), (9, .cells bb2 [.d (I b1.fLaw.fBase), .d (I b1.fLaw.fPercent), .d (I b1.fLaw.fCap), .d (I b1.fLaw.fLeast), .d (I b1.fLaw.fBlind), .d (.list 1 (List.map I b1.fBowlers)), .d (.list 6 (List.map Ref07Sheet.enc b1.fSheets)), .d (.list 1 (List.map I b1.fWithdrawn))]), (70, .arr y 68 6 false (List.map Ref07Sheet.enc l14))]) (fun _ => True) ?_ ?_
     ·conv => whnf
      refine LoopG.mk (Nat × (Int × (List Ref07Sheet)) × Value) (fun y => [(2, .d (.int .u8 week1)), (3, .d (.ref (.agg [I b1.fLaw.fBase, I b1.fLaw.fPercent, I b1.fLaw.fCap, I b1.fLaw.fLeast, I b1.fLaw.fBlind, .list 1 (List.map I b1.fBowlers), .list 6 (List.map Ref07Sheet.enc b1.fSheets), .list 1 (List.map I b1.fWithdrawn)]))), (7, .ptr 7 b5 0), (8, .ptr 8 bb1 0), (9, .ptr 9 bb2 0), (10, .d (I y.2.1.1))]) (fun y => [(7, .cells b5 [.d (I x2.fNumber), .d (I x2.fBowler), .d (I x2.fWeek), .d (I x2.fGames.a0), .d (I x2.fGames.a1), .d (I x2.fGames.a2)]), (8, .cells bb1 [.d (I b1.fLaw.fBase), .d (I b1.fLaw.fPercent), .d (I b1.fLaw.fCap), .d (I b1.fLaw.fLeast), .d (I b1.fLaw.fBlind), .d (.list 1 (List.map I b1.fBowlers)), .sl 70 y.2.2, .d (.list 1 (List.map I b1.fWithdrawn))]), (9, .cells bb2 [.d (I b1.fLaw.fBase), .d (I b1.fLaw.fPercent), .d (I b1.fLaw.fCap), .d (I b1.fLaw.fLeast), .d (I b1.fLaw.fBlind), .d (.list 1 (List.map I b1.fBowlers)), .d (.list 6 (List.map Ref07Sheet.enc b1.fSheets)), .d (.list 1 (List.map I b1.fWithdrawn))]), (70, .arr y.2.2 68 6 false (List.map Ref07Sheet.enc y.2.1.2))]) (fun y => loopN (fun rr x => law07RateWithdrawn_b1 N b1 x2 rr x.1 x.2) y.1 y.2.1 = some l14) (fun y => y.1) (N, (0, []), (.slice none 0 0)) hx37 (Sub.eq rfl ?_ ?_) ?_
      ·repeat ((conv => whnf); refine Need.mk rfl ?_)
       exact trivial
      ·conv => whnf
       refine Need.mk (OLe.refl _) ?_
       conv => whnf
       refine Need.mk (OLe.cells _ _ _ (by repeat (first | exact trivial | ((conv => whnf); refine Need.mk rfl ?_)))) ?_
       conv => whnf
       refine Need.mk (OLe.refl _) ?_
       conv => whnf
       refine Need.mk (OLe.nil _ _ _ _) ?_
       exact trivial
      ·rintro ⟨n2, ⟨i8, l24⟩, hd54⟩ hl2
       obtain ⟨n2, rfl, hl2⟩ := loopN_some hl2
       replace hl2 : law07RateWithdrawn_b1 N b1 x2 (loopN (fun rr x => law07RateWithdrawn_b1 N b1 x2 rr x.1 x.2) n2) i8 l24 = some l14 := hl2
       rw [law07RateWithdrawn_b1] at hl2
       conv => whnf
       refine LnA.mk _ (List.length_map _) ?_
       conv => whnf
       refine Br.mk (fun hc32 => ?_) (fun hc32 => ?_)
       ·replace hl2 := ite_t hc32 hl2
        obtain ⟨l26, hx55, hl2⟩ := obind hl2
        conv => whnf
        refine SeqG.mk Value (fun y => [(2, .d (.int .u8 week1)), (3, .d (.ref (.agg [I b1.fLaw.fBase, I b1.fLaw.fPercent, I b1.fLaw.fCap, I b1.fLaw.fLeast, I b1.fLaw.fBlind, .list 1 (List.map I b1.fBowlers), .list 6 (List.map Ref07Sheet.enc b1.fSheets), .list 1 (List.map I b1.fWithdrawn)]))), (7, .ptr 7 b5 0), (8, .ptr 8 bb1 0), (9, .ptr 9 bb2 0), (10, .d (I i8))]) (fun y => [(7, .cells b5 [.d (I x2.fNumber), .d (I x2.fBowler), .d (I x2.fWeek), .d (I x2.fGames.a0), .d (I x2.fGames.a1), .d (I x2.fGames.a2)]), (8, .cells bb1 [.d (I b1.fLaw.fBase), .d (I b1.fLaw.fPercent), .d (I b1.fLaw.fCap), .d (I b1.fLaw.fLeast), .d (I b1.fLaw.fBlind), .d (.list 1 (List.map I b1.fBowlers)), .sl 70 y, .d (.list 1 (List.map I b1.fWithdrawn))]), (9, .cells bb2 [.d (I b1.fLaw.fBase), .d (I b1.fLaw.fPercent), .d (I b1.fLaw.fCap), .d (I b1.fLaw.fLeast), .d (I b1.fLaw.fBlind), .d (.list 1 (List.map I b1.fBowlers)), .d (.list 6 (List.map Ref07Sheet.enc b1.fSheets)), .d (.list 1 (List.map I b1.fWithdrawn))]), (70, .arr y 68 6 false (List.map Ref07Sheet.enc l26))]) (fun _ => True) ?_ ?_
        ·obtain ⟨x26, hx57, hx55⟩ := obind hx55
         conv => whnf
         refine DrawG.mk (.take 0 (.take 1 (.take 2 (.take 3 (.take 4 (.take 5 (.take 6 (.take 7 (.take 8 .done))))))))) (by kernel_rfl) ?_
         conv => whnf
         refine Side.mk rfl ⟨_, idx_0 hx57, idx_map _ hx57, ?_⟩
         conv => whnf
         refine Side.mk rfl ?_
         conv => whnf
         refine Br.mk (fun hc34 => ?_) (fun hc34 => ?_)
         ·replace hx55 := ite_t hc34 hx55
          obtain ⟨l27, hx58, hx55⟩ := obind hx55
          conv => whnf
          refine DrawG.mk (.take 0 (.take 1 (.take 2 (.take 3 (.take 4 (.take 5 (.take 6 (.alt 7 [5, 4, 3, 2, 1, 0] (.alt 8 [5, 4, 3, 2, 0] (.take 9 (.alt 10 [] .done .nil)) .nil) .nil)))))))) (by kernel_rfl) ?_
          conv => whnf
          refine Side.mk rfl ?_
          conv => whnf
          refine Side.mk rfl ⟨_, idx_0 hx57, idx_map _ hx57, ?_⟩
          conv => whnf
          refine Both.mk ?_ trivial
          conv => whnf
          intro hd62
          conv => whnf
          refine Side.mk rfl ⟨_, idx_0 hx57, idx_map _ hx57, ?_⟩
          conv => whnf
          refine Need.mk (AV.le_refl _) ?_
          conv => whnf
          refine Need.mk (AV.le_refl _) ?_
          conv => whnf
          refine Need.mk (AV.le_refl _) ?_
          conv => whnf
          refine Need.mk (AV.le_refl _) ?_
          conv => whnf
          refine Side.mk rfl ?_
          conv => whnf
          refine Need.mk (AV.le_refl _) ?_
          conv => whnf
          refine Need.mk (AV.le_refl _) ?_
          conv => whnf
          refine Both.mk ?_ trivial
          conv => whnf
          refine Side.mk ⟨rfl, rfl⟩ ?_
          conv => whnf
          refine Side.mk ⟨rfl, rfl, rfl⟩ (Need.mk (app_need hN hx58 (by decide)) (Eqv.mk (List.map Ref07Sheet.enc l27) (app_map _ hx58) ?_))
          conv => whnf
          intro hd63
          conv => whnf
          refine Side.mk rfl ⟨_, idx_0 hx57, idx_map _ hx57, ?_⟩
          conv => whnf
          refine Need.mk (AV.le_refl _) ?_
          conv => whnf
          refine Need.mk (AV.le_refl _) ?_
          conv => whnf
          refine Need.mk (AV.le_refl _) ?_
          conv => whnf
          refine Need.mk (AV.le_refl _) ?_
          conv => whnf
          refine Need.mk (AV.le_refl _) ?_
          conv => whnf
          refine Both.mk ?_ trivial
          conv => whnf
          refine Side.mk rfl ?_
          cases hx55
          conv => whnf
          refine ⟨hd63, trivial, Sub.eq rfl ?_ ?_⟩
          ·repeat ((conv => whnf); refine Need.mk rfl ?_)
           exact trivial
          ·conv => whnf
           refine Need.mk (OLe.refl _) ?_
           conv => whnf
           refine Need.mk (OLe.refl _) ?_
           conv => whnf
           refine Need.mk (OLe.refl _) ?_
           conv => whnf
           refine Need.mk (OLe.refl _) ?_
           exact trivial
         ·replace hx55 := ite_f hc34 hx55
          cases hx55
          conv => whnf
          refine ⟨hd54, trivial, Sub.eq rfl ?_ ?_⟩
          ·repeat ((conv => whnf); refine Need.mk rfl ?_)
           exact trivial
          ·conv => whnf
           refine Need.mk (OLe.refl _) ?_
           conv => whnf
           refine Need.mk (OLe.refl _) ?_
           conv => whnf
           refine Need.mk (OLe.refl _) ?_
           conv => whnf
           refine Need.mk (OLe.refl _) ?_
           exact trivial
        ·rintro hd59 _
         conv => whnf
         refine ⟨(n2, (w64 (i8 + 1), l26), hd59), hl2, Sub.eq rfl ?_ ?_, Nat.lt_succ_self _⟩
         ·repeat ((conv => whnf); refine Need.mk rfl ?_)
          exact trivial
         ·conv => whnf
          refine Need.mk (OLe.refl _) ?_
          conv => whnf
          refine Need.mk (OLe.refl _) ?_
          conv => whnf
          refine Need.mk (OLe.refl _) ?_
          conv => whnf
          refine Need.mk (OLe.refl _) ?_
          exact trivial
       ·replace hl2 := ite_f hc32 hl2
        cases hl2
        conv => whnf
        refine ⟨hd54, trivial, Sub.eq rfl ?_ ?_⟩
        ·repeat ((conv => whnf); refine Need.mk rfl ?_)
         exact trivial
        ·conv => whnf
         refine Need.mk (OLe.refl _) ?_
         conv => whnf
         refine Need.mk (OLe.refl _) ?_
         conv => whnf
         refine Need.mk (OLe.refl _) ?_
         conv => whnf
         refine Need.mk (OLe.refl _) ?_
         exact trivial
     ·rintro hd32 _
      conv => whnf
      refine Side.mk rfl ?_
      obtain ⟨r76, hx206, h⟩ := obind h
      conv => whnf
      refine CallG.pure _ (ref07CountsC hN hx206) ?_
      conv => whnf
      refine Br.mk (fun hc136 => ?_) (fun hc136 => ?_)
      ·replace h := ite_t hc136 h
       conv => whnf
       refine Side.mk rfl ?_
       conv => whnf
       refine LoopG.mk (Nat × (Int × (List Int)) × Value) (fun y => [(2, .d (.int .u8 week1)), (3, .d (.ref (.agg [I b1.fLaw.fBase, I b1.fLaw.fPercent, I b1.fLaw.fCap, I b1.fLaw.fLeast, I b1.fLaw.fBlind, .list 1 (List.map I b1.fBowlers), .list 6 (List.map Ref07Sheet.enc b1.fSheets), .list 1 (List.map I b1.fWithdrawn)]))), (7, .ptr 7 b5 0), (8, .ptr 8 bb1 0), (9, .ptr 9 bb2 0), (11, .d (I y.2.1.1))]) (fun y => [(7, .cells b5 [.d (I x2.fNumber), .d (I x2.fBowler), .d (I x2.fWeek), .d (I x2.fGames.a0), .d (I x2.fGames.a1), .d (I x2.fGames.a2)]), (8, .cells bb1 [.d (I b1.fLaw.fBase), .d (I b1.fLaw.fPercent), .d (I b1.fLaw.fCap), .d (I b1.fLaw.fLeast), .d (I b1.fLaw.fBlind), .d (.list 1 (List.map I b1.fBowlers)), .sl 70 hd32, .d (.list 1 (List.map I b1.fWithdrawn))]), (9, .cells bb2 [.d (I b1.fLaw.fBase), .d (I b1.fLaw.fPercent), .d (I b1.fLaw.fCap), .d (I b1.fLaw.fLeast), .d (I b1.fLaw.fBlind), .d (.list 1 (List.map I b1.fBowlers)), .d (.list 6 (List.map Ref07Sheet.enc b1.fSheets)), .sl 94 y.2.2]), (70, .arr hd32 68 6 false (List.map Ref07Sheet.enc l14)), (94, .arr y.2.2 3 1 false (List.map I y.2.1.2))]) (fun y => loopN (fun rr x => law07RateWithdrawn_b4 N b1 week1 x2 l14 rr x.1 x.2) y.1 y.2.1 = some r) (fun y => y.1) (N, (1, []), (.slice none 0 0)) h (Sub.eq rfl ?_ ?_) ?_
       ·repeat ((conv => whnf); refine Need.mk rfl ?_)
        exact trivial
       ·conv => whnf
        refine Need.mk (OLe.refl _) ?_
        conv => whnf
        refine Need.mk (OLe.refl _) ?_
        conv => whnf
        refine Need.mk (OLe.cells _ _ _ (by repeat (first | exact trivial | ((conv => whnf); refine Need.mk rfl ?_)))) ?_
        conv => whnf
        refine Need.mk (OLe.refl _) ?_
        conv => whnf
        refine Need.mk (OLe.nil _ _ _ _) ?_
        exact trivial
       ·rintro ⟨n12, ⟨n11, l89⟩, hd161⟩ hl4
        obtain ⟨n12, rfl, hl4⟩ := loopN_some hl4
        replace hl4 : law07RateWithdrawn_b4 N b1 week1 x2 l14 (loopN (fun rr x => law07RateWithdrawn_b4 N b1 week1 x2 l14 rr x.1 x.2) n12) n11 l89 = some r := hl4
        rw [law07RateWithdrawn_b4] at hl4
        conv => whnf
        refine Br.mk (fun hc152 => ?_) (fun hc152 => ?_)
        ·replace hl4 := ite_t hc152 hl4
         obtain ⟨l91, hx229, hl4⟩ := obind hl4
         conv => whnf
         refine SeqG.mk Value (fun y => [(2, .d (.int .u8 week1)), (3, .d (.ref (.agg [I b1.fLaw.fBase, I b1.fLaw.fPercent, I b1.fLaw.fCap, I b1.fLaw.fLeast, I b1.fLaw.fBlind, .list 1 (List.map I b1.fBowlers), .list 6 (List.map Ref07Sheet.enc b1.fSheets), .list 1 (List.map I b1.fWithdrawn)]))), (7, .ptr 7 b5 0), (8, .ptr 8 bb1 0), (9, .ptr 9 bb2 0), (11, .d (I n11))]) (fun y => [(7, .cells b5 [.d (I x2.fNumber), .d (I x2.fBowler), .d (I x2.fWeek), .d (I x2.fGames.a0), .d (I x2.fGames.a1), .d (I x2.fGames.a2)]), (8, .cells bb1 [.d (I b1.fLaw.fBase), .d (I b1.fLaw.fPercent), .d (I b1.fLaw.fCap), .d (I b1.fLaw.fLeast), .d (I b1.fLaw.fBlind), .d (.list 1 (List.map I b1.fBowlers)), .sl 70 hd32, .d (.list 1 (List.map I b1.fWithdrawn))]), (9, .cells bb2 [.d (I b1.fLaw.fBase), .d (I b1.fLaw.fPercent), .d (I b1.fLaw.fCap), .d (I b1.fLaw.fLeast), .d (I b1.fLaw.fBlind), .d (.list 1 (List.map I b1.fBowlers)), .d (.list 6 (List.map Ref07Sheet.enc b1.fSheets)), .sl 94 y]), (70, .arr hd32 68 6 false (List.map Ref07Sheet.enc l14)), (94, .arr y 3 1 false (List.map I l91))]) (fun _ => True) ?_ ?_
         ·obtain ⟨v40, hx231, hx229⟩ := obind hx229
          conv => whnf
          refine SeqG.mk Unit (fun y => [(2, .d (.int .u8 week1)), (3, .d (.ref (.agg [I b1.fLaw.fBase, I b1.fLaw.fPercent, I b1.fLaw.fCap, I b1.fLaw.fLeast, I b1.fLaw.fBlind, .list 1 (List.map I b1.fBowlers), .list 6 (List.map Ref07Sheet.enc b1.fSheets), .list 1 (List.map I b1.fWithdrawn)]))), (7, .ptr 7 b5 0), (8, .ptr 8 bb1 0), (9, .ptr 9 bb2 0), (11, .d (I n11)), (89, .d (.bool v40))]) (fun y => [(7, .cells b5 [.d (I x2.fNumber), .d (I x2.fBowler), .d (I x2.fWeek), .d (I x2.fGames.a0), .d (I x2.fGames.a1), .d (I x2.fGames.a2)]), (8, .cells bb1 [.d (I b1.fLaw.fBase), .d (I b1.fLaw.fPercent), .d (I b1.fLaw.fCap), .d (I b1.fLaw.fLeast), .d (I b1.fLaw.fBlind), .d (.list 1 (List.map I b1.fBowlers)), .sl 70 hd32, .d (.list 1 (List.map I b1.fWithdrawn))]), (9, .cells bb2 [.d (I b1.fLaw.fBase), .d (I b1.fLaw.fPercent), .d (I b1.fLaw.fCap), .d (I b1.fLaw.fLeast), .d (I b1.fLaw.fBlind), .d (.list 1 (List.map I b1.fBowlers)), .d (.list 6 (List.map Ref07Sheet.enc b1.fSheets)), .sl 94 hd161]), (70, .arr hd32 68 6 false (List.map Ref07Sheet.enc l14)), (94, .arr hd161 3 1 false (List.map I l89))]) (fun _ => True) ?_ ?_
          ·conv => whnf
           refine Side.mk rfl ?_
           conv => whnf
           refine Br.mk (fun hc157 => ?_) (fun hc157 => ?_)
           ·replace hx231 := ite_f hc157 hx231
            obtain ⟨r88, hx232, hx231⟩ := obind hx231
            conv => whnf
            refine CallG.pure _ (ref07HasC hN hx232) ?_
            cases hx231
            conv => whnf
            refine ⟨(), trivial, Sub.eq rfl ?_ ?_⟩
            ·repeat ((conv => whnf); refine Need.mk rfl ?_)
             exact trivial
            ·conv => whnf
             refine Need.mk (OLe.refl _) ?_
             conv => whnf
             refine Need.mk (OLe.refl _) ?_
             conv => whnf
             refine Need.mk (OLe.refl _) ?_
             conv => whnf
             refine Need.mk (OLe.refl _) ?_
             conv => whnf
             refine Need.mk (OLe.refl _) ?_
             exact trivial
           ·replace hx231 := ite_t hc157 hx231
            cases hx231
            conv => whnf
            refine ⟨(), trivial, Sub.eq rfl ?_ ?_⟩
            ·repeat ((conv => whnf); refine Need.mk rfl ?_)
             exact trivial
            ·conv => whnf
             refine Need.mk (OLe.refl _) ?_
             conv => whnf
             refine Need.mk (OLe.refl _) ?_
             conv => whnf
             refine Need.mk (OLe.refl _) ?_
             conv => whnf
             refine Need.mk (OLe.refl _) ?_
             conv => whnf
             refine Need.mk (OLe.refl _) ?_
             exact trivial
          ·rintro _ _
           conv => whnf
           refine Br.mk (fun hc158 => ?_) (fun hc158 => ?_)
           ·replace hx229 := ite_t hc158 hx229
            conv => whnf
            refine Side.mk rfl ?_
            conv => whnf
            intro hd165
            obtain ⟨l92, hx233, hx229⟩ := obind hx229
            conv => whnf
            refine Side.mk ⟨rfl, rfl⟩ ?_
            conv => whnf
            refine Side.mk ⟨rfl, rfl, rfl⟩ (Need.mk (app_need hN hx233 (by decide)) (Eqv.mk (List.map I l92) (app_map _ hx233) ?_))
            conv => whnf
            intro hd166
            conv => whnf
            refine Side.mk rfl ?_
            cases hx229
            conv => whnf
            refine ⟨hd166, trivial, Sub.eq rfl ?_ ?_⟩
            ·repeat ((conv => whnf); refine Need.mk rfl ?_)
             exact trivial
            ·conv => whnf
             refine Need.mk (OLe.refl _) ?_
             conv => whnf
             refine Need.mk (OLe.refl _) ?_
             conv => whnf
             refine Need.mk (OLe.refl _) ?_
             conv => whnf
             refine Need.mk (OLe.refl _) ?_
             conv => whnf
             refine Need.mk (OLe.refl _) ?_
             exact trivial
           ·replace hx229 := ite_f hc158 hx229
            cases hx229
            conv => whnf
            refine ⟨hd161, trivial, Sub.eq rfl ?_ ?_⟩
            ·repeat ((conv => whnf); refine Need.mk rfl ?_)
             exact trivial
            ·conv => whnf
             refine Need.mk (OLe.refl _) ?_
             conv => whnf
             refine Need.mk (OLe.refl _) ?_
             conv => whnf
             refine Need.mk (OLe.refl _) ?_
             conv => whnf
             refine Need.mk (OLe.refl _) ?_
             conv => whnf
             refine Need.mk (OLe.refl _) ?_
             exact trivial
         ·rintro hd164 _
          conv => whnf
          refine ⟨(n12, (w64 (n11 + 1), l91), hd164), hl4, Sub.eq rfl ?_ ?_, Nat.lt_succ_self _⟩
          ·repeat ((conv => whnf); refine Need.mk rfl ?_)
           exact trivial
          ·conv => whnf
           refine Need.mk (OLe.refl _) ?_
           conv => whnf
           refine Need.mk (OLe.refl _) ?_
           conv => whnf
           refine Need.mk (OLe.refl _) ?_
           conv => whnf
           refine Need.mk (OLe.refl _) ?_
           conv => whnf
           refine Need.mk (OLe.refl _) ?_
           exact trivial
        ·replace hl4 := ite_f hc152 hl4
         conv => whnf
         refine Side.mk rfl ?_
         obtain ⟨r90, hx236, hl4⟩ := obind hl4
         conv => whnf
         refine Side.mk rfl ?_
         conv => whnf
         refine CallG.pure _ (law07BookC hN hx236) ?_
         obtain ⟨⟨ra2, rb2⟩, hx237, hl4⟩ := obind hl4
         conv => whnf
         refine CallG.pure _ (rateCountingC hN hx237) ?_
         conv => whnf
         refine Side.mk rfl ?_
         obtain ⟨r92, hx240, hl4⟩ := obind hl4
         conv => whnf
         refine Side.mk rfl ?_
         conv => whnf
         refine CallG.pure _ (law07BookC hN hx240) ?_
         obtain ⟨⟨ra4, rb4⟩, hx241, hl4⟩ := obind hl4
         conv => whnf
         refine CallG.pure _ (rateCountingC hN hx241) ?_
         obtain ⟨v42, hx246, hl4⟩ := obind hl4
         conv => whnf
         refine SeqG.mk Unit (fun y => [(2, .d (.int .u8 week1)), (3, .d (.ref (.agg [I b1.fLaw.fBase, I b1.fLaw.fPercent, I b1.fLaw.fCap, I b1.fLaw.fLeast, I b1.fLaw.fBlind, .list 1 (List.map I b1.fBowlers), .list 6 (List.map Ref07Sheet.enc b1.fSheets), .list 1 (List.map I b1.fWithdrawn)]))), (8, .ptr 8 bb1 0), (9, .ptr 9 bb2 0), (119, .d (.bool v42))]) (fun y => [(8, .cells bb1 [.d (I b1.fLaw.fBase), .d (I b1.fLaw.fPercent), .d (I b1.fLaw.fCap), .d (I b1.fLaw.fLeast), .d (I b1.fLaw.fBlind), .d (.list 1 (List.map I b1.fBowlers)), .sl 70 hd32, .d (.list 1 (List.map I b1.fWithdrawn))]), (9, .cells bb2 [.d (I b1.fLaw.fBase), .d (I b1.fLaw.fPercent), .d (I b1.fLaw.fCap), .d (I b1.fLaw.fLeast), .d (I b1.fLaw.fBlind), .d (.list 1 (List.map I b1.fBowlers)), .d (.list 6 (List.map Ref07Sheet.enc b1.fSheets)), .sl 94 hd161]), (70, .arr hd32 68 6 true (List.map Ref07Sheet.enc l14)), (94, .arr hd161 3 1 true (List.map I l89))]) (fun _ => True) ?_ ?_
         ·conv => whnf
          refine Br.mk (fun hc166 => ?_) (fun hc166 => ?_)
          ·replace hx246 := ite_f hc166 hx246
           conv => whnf
           refine Br.mk (fun hc167 => ?_) (fun hc167 => ?_)
           ·replace hx246 := ite_f hc167 hx246
            obtain ⟨r96, hx247, hx246⟩ := obind hx246
            conv => whnf
            refine CallG.pure _ (law07IntsC hN hx247) ?_
            cases hx246
            conv => whnf
            refine ⟨(), trivial, Sub.eq rfl ?_ ?_⟩
            ·repeat ((conv => whnf); refine Need.mk rfl ?_)
             exact trivial
            ·conv => whnf
             refine Need.mk (OLe.refl _) ?_
             conv => whnf
             refine Need.mk (OLe.refl _) ?_
             conv => whnf
             refine Need.mk (OLe.refl _) ?_
             conv => whnf
             refine Need.mk (OLe.refl _) ?_
             exact trivial
           ·replace hx246 := ite_t hc167 hx246
            cases hx246
            conv => whnf
            refine ⟨(), trivial, Sub.eq rfl ?_ ?_⟩
            ·repeat ((conv => whnf); refine Need.mk rfl ?_)
             exact trivial
            ·conv => whnf
             refine Need.mk (OLe.refl _) ?_
             conv => whnf
             refine Need.mk (OLe.refl _) ?_
             conv => whnf
             refine Need.mk (OLe.refl _) ?_
             conv => whnf
             refine Need.mk (OLe.refl _) ?_
             exact trivial
          ·replace hx246 := ite_t hc166 hx246
           cases hx246
           conv => whnf
           refine ⟨(), trivial, Sub.eq rfl ?_ ?_⟩
           ·repeat ((conv => whnf); refine Need.mk rfl ?_)
            exact trivial
           ·conv => whnf
            refine Need.mk (OLe.refl _) ?_
            conv => whnf
            refine Need.mk (OLe.refl _) ?_
            conv => whnf
            refine Need.mk (OLe.refl _) ?_
            conv => whnf
            refine Need.mk (OLe.refl _) ?_
            exact trivial
         ·rintro _ _
          conv => whnf
          refine Br.mk (fun hc168 => ?_) (fun hc168 => ?_)
          ·replace hl4 := ite_t hc168 hl4
           conv => whnf
           cases hl4
           exact rfl
          ·replace hl4 := ite_f hc168 hl4
           conv => whnf
           refine SeqG.mk Unit (fun y => []) (fun y => []) (fun y => law07RateWithdrawn_k2 N = some r) ?_ ?_
           ·conv => whnf
            refine LoopG.mk (Nat × Int) (fun y => [(2, .d (.int .u8 week1)), (3, .d (.ref (.agg [I b1.fLaw.fBase, I b1.fLaw.fPercent, I b1.fLaw.fCap, I b1.fLaw.fLeast, I b1.fLaw.fBlind, .list 1 (List.map I b1.fBowlers), .list 6 (List.map Ref07Sheet.enc b1.fSheets), .list 1 (List.map I b1.fWithdrawn)]))), (8, .ptr 8 bb1 0), (9, .ptr 9 bb2 0), (16, .d (I y.2))]) (fun y => [(8, .cells bb1 [.d (I b1.fLaw.fBase), .d (I b1.fLaw.fPercent), .d (I b1.fLaw.fCap), .d (I b1.fLaw.fLeast), .d (I b1.fLaw.fBlind), .d (.list 1 (List.map I b1.fBowlers)), .sl 70 hd32, .d (.list 1 (List.map I b1.fWithdrawn))]), (9, .cells bb2 [.d (I b1.fLaw.fBase), .d (I b1.fLaw.fPercent), .d (I b1.fLaw.fCap), .d (I b1.fLaw.fLeast), .d (I b1.fLaw.fBlind), .d (.list 1 (List.map I b1.fBowlers)), .d (.list 6 (List.map Ref07Sheet.enc b1.fSheets)), .sl 94 hd161]), (70, .arr hd32 68 6 true (List.map Ref07Sheet.enc l14)), (94, .arr hd161 3 1 true (List.map I l89))]) (fun y => loopN (fun rr x => law07RateWithdrawn_b3 N b1 week1 l14 l89 rr x) y.1 y.2 = some r) (fun y => y.1) (N, 0) hl4 (Sub.eq rfl ?_ ?_) ?_
            ·repeat ((conv => whnf); refine Need.mk rfl ?_)
             exact trivial
            ·conv => whnf
             refine Need.mk (OLe.refl _) ?_
             conv => whnf
             refine Need.mk (OLe.refl _) ?_
             conv => whnf
             refine Need.mk (OLe.refl _) ?_
             conv => whnf
             refine Need.mk (OLe.refl _) ?_
             exact trivial
            ·rintro ⟨n14, k8⟩ hl6
             obtain ⟨n14, rfl, hl6⟩ := loopN_some hl6
             replace hl6 : law07RateWithdrawn_b3 N b1 week1 l14 l89 (loopN (fun rr x => law07RateWithdrawn_b3 N b1 week1 l14 l89 rr x) n14) k8 = some r := hl6
             rw [law07RateWithdrawn_b3] at hl6
             conv => whnf
             refine LnA.mk _ (List.length_map _) ?_
             conv => whnf
             refine Br.mk (fun hc190 => ?_) (fun hc190 => ?_)
             ·replace hl6 := ite_t hc190 hl6
              conv => whnf
              refine Side.mk rfl ?_
              conv => whnf
              refine Side.mk rfl ?_
              conv => whnf
              refine Need.mk (by decide) ?_
              obtain ⟨r122, hx273, hl6⟩ := obind hl6
              conv => whnf
              refine Side.mk rfl ?_
              conv => whnf
              refine Side.mk rfl ?_
              conv => whnf
              refine CallG.pure _ (law07SameC hN hx273) ?_
              conv => whnf
              refine Br.mk (fun hc192 => ?_) (fun hc192 => ?_)
              ·replace hl6 := ite_t hc192 hl6
               conv => whnf
               cases hl6
               exact rfl
              ·replace hl6 := ite_f hc192 hl6
               conv => whnf
               refine ⟨(n14, w64 (k8 + 1)), hl6, Sub.eq rfl ?_ ?_, Nat.lt_succ_self _⟩
               ·repeat ((conv => whnf); refine Need.mk rfl ?_)
                exact trivial
               ·conv => whnf
                refine Need.mk (OLe.refl _) ?_
                conv => whnf
                refine Need.mk (OLe.refl _) ?_
                conv => whnf
                refine Need.mk (OLe.refl _) ?_
                conv => whnf
                refine Need.mk (OLe.refl _) ?_
                exact trivial
             ·replace hl6 := ite_f hc190 hl6
              conv => whnf
              refine ⟨(), hl6, Sub.eq rfl ?_ ?_⟩
              ·repeat ((conv => whnf); refine Need.mk rfl ?_)
               exact trivial
              ·exact trivial
           ·rintro _ h
            unfold law07RateWithdrawn_k2 at h
            obtain ⟨r110, hx261, h⟩ := obind h
            conv => whnf
            refine CallG.pure _ (law07WakesC hN hx261) ?_
            conv => whnf
            cases h
            exact rfl
      ·replace h := ite_f hc136 h
       conv => whnf
       refine Side.mk rfl ?_
       obtain ⟨r124, hx276, h⟩ := obind h
       conv => whnf
       refine Side.mk rfl ?_
       conv => whnf
       refine CallG.pure _ (law07BookC hN hx276) ?_
       obtain ⟨⟨ra6, rb6⟩, hx277, h⟩ := obind h
       conv => whnf
       refine CallG.pure _ (rateCountingC hN hx277) ?_
       conv => whnf
       refine Side.mk rfl ?_
       obtain ⟨r126, hx280, h⟩ := obind h
       conv => whnf
       refine CallG.pure _ (law07BookC hN hx280) ?_
       obtain ⟨⟨ra8, rb8⟩, hx281, h⟩ := obind h
       conv => whnf
       refine CallG.pure _ (rateCountingC hN hx281) ?_
       obtain ⟨v44, hx286, h⟩ := obind h
       conv => whnf
       refine SeqG.mk Unit (fun y => [(2, .d (.int .u8 week1)), (3, .d (.ref (.agg [I b1.fLaw.fBase, I b1.fLaw.fPercent, I b1.fLaw.fCap, I b1.fLaw.fLeast, I b1.fLaw.fBlind, .list 1 (List.map I b1.fBowlers), .list 6 (List.map Ref07Sheet.enc b1.fSheets), .list 1 (List.map I b1.fWithdrawn)]))), (8, .ptr 8 bb1 0), (9, .ptr 9 bb2 0), (119, .d (.bool v44))]) (fun y => [(8, .cells bb1 [.d (I b1.fLaw.fBase), .d (I b1.fLaw.fPercent), .d (I b1.fLaw.fCap), .d (I b1.fLaw.fLeast), .d (I b1.fLaw.fBlind), .d (.list 1 (List.map I b1.fBowlers)), .sl 70 hd32, .d (.list 1 (List.map I b1.fWithdrawn))]), (9, .cells bb2 [.d (I b1.fLaw.fBase), .d (I b1.fLaw.fPercent), .d (I b1.fLaw.fCap), .d (I b1.fLaw.fLeast), .d (I b1.fLaw.fBlind), .d (.list 1 (List.map I b1.fBowlers)), .d (.list 6 (List.map Ref07Sheet.enc b1.fSheets)), .d (.list 1 (List.map I b1.fWithdrawn))]), (70, .arr hd32 68 6 true (List.map Ref07Sheet.enc l14))]) (fun _ => True) ?_ ?_
       ·conv => whnf
        refine Br.mk (fun hc200 => ?_) (fun hc200 => ?_)
        ·replace hx286 := ite_f hc200 hx286
         conv => whnf
         refine Br.mk (fun hc201 => ?_) (fun hc201 => ?_)
         ·replace hx286 := ite_f hc201 hx286
          obtain ⟨r130, hx287, hx286⟩ := obind hx286
          conv => whnf
          refine CallG.pure _ (law07IntsC hN hx287) ?_
          cases hx286
          conv => whnf
          refine ⟨(), trivial, Sub.eq rfl ?_ ?_⟩
          ·repeat ((conv => whnf); refine Need.mk rfl ?_)
           exact trivial
          ·conv => whnf
           refine Need.mk (OLe.refl _) ?_
           conv => whnf
           refine Need.mk (OLe.refl _) ?_
           conv => whnf
           refine Need.mk (OLe.refl _) ?_
           exact trivial
         ·replace hx286 := ite_t hc201 hx286
          cases hx286
          conv => whnf
          refine ⟨(), trivial, Sub.eq rfl ?_ ?_⟩
          ·repeat ((conv => whnf); refine Need.mk rfl ?_)
           exact trivial
          ·conv => whnf
           refine Need.mk (OLe.refl _) ?_
           conv => whnf
           refine Need.mk (OLe.refl _) ?_
           conv => whnf
           refine Need.mk (OLe.refl _) ?_
           exact trivial
        ·replace hx286 := ite_t hc200 hx286
         cases hx286
         conv => whnf
         refine ⟨(), trivial, Sub.eq rfl ?_ ?_⟩
         ·repeat ((conv => whnf); refine Need.mk rfl ?_)
          exact trivial
         ·conv => whnf
          refine Need.mk (OLe.refl _) ?_
          conv => whnf
          refine Need.mk (OLe.refl _) ?_
          conv => whnf
          refine Need.mk (OLe.refl _) ?_
          exact trivial
       ·rintro _ _
        conv => whnf
        refine Br.mk (fun hc202 => ?_) (fun hc202 => ?_)
        ·replace h := ite_t hc202 h
         conv => whnf
         cases h
         exact rfl
        ·replace h := ite_f hc202 h
         conv => whnf
         refine SeqG.mk Unit (fun y => []) (fun y => []) (fun y => law07RateWithdrawn_k5 N = some r) ?_ ?_
         ·conv => whnf
          refine LoopG.mk (Nat × Int) (fun y => [(2, .d (.int .u8 week1)), (3, .d (.ref (.agg [I b1.fLaw.fBase, I b1.fLaw.fPercent, I b1.fLaw.fCap, I b1.fLaw.fLeast, I b1.fLaw.fBlind, .list 1 (List.map I b1.fBowlers), .list 6 (List.map Ref07Sheet.enc b1.fSheets), .list 1 (List.map I b1.fWithdrawn)]))), (8, .ptr 8 bb1 0), (9, .ptr 9 bb2 0), (16, .d (I y.2))]) (fun y => [(8, .cells bb1 [.d (I b1.fLaw.fBase), .d (I b1.fLaw.fPercent), .d (I b1.fLaw.fCap), .d (I b1.fLaw.fLeast), .d (I b1.fLaw.fBlind), .d (.list 1 (List.map I b1.fBowlers)), .sl 70 hd32, .d (.list 1 (List.map I b1.fWithdrawn))]), (9, .cells bb2 [.d (I b1.fLaw.fBase), .d (I b1.fLaw.fPercent), .d (I b1.fLaw.fCap), .d (I b1.fLaw.fLeast), .d (I b1.fLaw.fBlind), .d (.list 1 (List.map I b1.fBowlers)), .d (.list 6 (List.map Ref07Sheet.enc b1.fSheets)), .d (.list 1 (List.map I b1.fWithdrawn))]), (70, .arr hd32 68 6 true (List.map Ref07Sheet.enc l14))]) (fun y => loopN (fun rr x => law07RateWithdrawn_b6 N b1 week1 l14 rr x) y.1 y.2 = some r) (fun y => y.1) (N, 0) h (Sub.eq rfl ?_ ?_) ?_
          ·repeat ((conv => whnf); refine Need.mk rfl ?_)
           exact trivial
          ·conv => whnf
           refine Need.mk (OLe.refl _) ?_
           conv => whnf
           refine Need.mk (OLe.refl _) ?_
           conv => whnf
           refine Need.mk (OLe.refl _) ?_
           exact trivial
          ·rintro ⟨n16, k16⟩ hl8
           obtain ⟨n16, rfl, hl8⟩ := loopN_some hl8
           replace hl8 : law07RateWithdrawn_b6 N b1 week1 l14 (loopN (fun rr x => law07RateWithdrawn_b6 N b1 week1 l14 rr x) n16) k16 = some r := hl8
           rw [law07RateWithdrawn_b6] at hl8
           conv => whnf
           refine LnA.mk _ (List.length_map _) ?_
           conv => whnf
           refine Br.mk (fun hc224 => ?_) (fun hc224 => ?_)
           ·replace hl8 := ite_t hc224 hl8
            conv => whnf
            refine Side.mk rfl ?_
            conv => whnf
            refine Side.mk rfl ?_
            conv => whnf
            refine Need.mk (by decide) ?_
            obtain ⟨r156, hx313, hl8⟩ := obind hl8
            conv => whnf
            refine Side.mk rfl ?_
            conv => whnf
            refine CallG.pure _ (law07SameC hN hx313) ?_
            conv => whnf
            refine Br.mk (fun hc226 => ?_) (fun hc226 => ?_)
            ·replace hl8 := ite_t hc226 hl8
             conv => whnf
             cases hl8
             exact rfl
            ·replace hl8 := ite_f hc226 hl8
             conv => whnf
             refine ⟨(n16, w64 (k16 + 1)), hl8, Sub.eq rfl ?_ ?_, Nat.lt_succ_self _⟩
             ·repeat ((conv => whnf); refine Need.mk rfl ?_)
              exact trivial
             ·conv => whnf
              refine Need.mk (OLe.refl _) ?_
              conv => whnf
              refine Need.mk (OLe.refl _) ?_
              conv => whnf
              refine Need.mk (OLe.refl _) ?_
              exact trivial
           ·replace hl8 := ite_f hc224 hl8
            conv => whnf
            refine ⟨(), hl8, Sub.eq rfl ?_ ?_⟩
            ·repeat ((conv => whnf); refine Need.mk rfl ?_)
             exact trivial
            ·exact trivial
         ·clear h
          rintro _ h
          unfold law07RateWithdrawn_k5 at h
          obtain ⟨r144, hx301, h⟩ := obind h
          conv => whnf
          refine CallG.pure _ (law07WakesC hN hx301) ?_
          conv => whnf
          cases h
          exact rfl
end Go.Proofs.Ytmencjafjcmbaaa
