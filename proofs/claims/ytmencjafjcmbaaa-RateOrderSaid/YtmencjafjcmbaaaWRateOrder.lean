/-
  The walk of the law RateOrder.
-/
import Derived.Test.YtmencjafjcmbaaaDRateOrder
import Derived.Test.YtmencjafjcmbaaaWd
namespace Go.Proofs.Ytmencjafjcmbaaa
open Go Go.Abs Go.Kp
set_option maxRecDepth 100000
set_option maxHeartbeats 8000000
set_option linter.all false

theorem law07RateOrderC {N : Nat} (hN : N ≤ 1073741824) {b1 : Ref07Book} {by1 : Int} {bowler1 : Int} {week1 : Int} {r : Bool} (h : law07RateOrder N b1 by1 bowler1 week1 = some r) :
    ACalls Try.prog 9 [.d (.agg [I b1.fLaw.fBase, I b1.fLaw.fPercent, I b1.fLaw.fCap, I b1.fLaw.fLeast, I b1.fLaw.fBlind, .list 1 (List.map I b1.fBowlers), .list 6 (List.map Ref07Sheet.enc b1.fSheets), .list 1 (List.map I b1.fWithdrawn)]), .d (.int .u8 by1), .d (.int .u8 bowler1), .d (.int .u8 week1)] [] fun e os => e = .ret (.d (.bool r)) ∧ os = [] := by
  refine acalls_f (fresh := false) tt_ok dr_ok ⟨[4], [], [], [], [1, 5, 9, 16], 0, []⟩ Try.func9 rfl Try.call9 rfl ?_
  unfold law07RateOrder at h
  obtain ⟨v2, hx7, h⟩ := obind h
  conv => whnf
  refine SeqG.mk Unit (fun y => [(1, .d (.int .u8 by1)), (2, .d (.int .u8 bowler1)), (3, .d (.int .u8 week1)), (4, .d (.ref (.agg [I b1.fLaw.fBase, I b1.fLaw.fPercent, I b1.fLaw.fCap, I b1.fLaw.fLeast, I b1.fLaw.fBlind, .list 1 (List.map I b1.fBowlers), .list 6 (List.map Ref07Sheet.enc b1.fSheets), .list 1 (List.map I b1.fWithdrawn)]))), (44, .d (.bool v2))]) (fun y => []) (fun _ => True) ?_ ?_
  ·obtain ⟨r6, hx8, hx7⟩ := obind hx7
   conv => whnf
   refine CallG.pure _ (law07ReadyC hN hx8) ?_
   conv => whnf
   refine Br.mk (fun hc11 => ?_) (fun hc11 => ?_)
   ·replace hx7 := ite_f hc11 hx7
    conv => whnf
    refine LnA.mk _ (List.length_map _) ?_
    conv => whnf
    refine Br.mk (fun hc12 => ?_) (fun hc12 => ?_)
    ·replace hx7 := ite_f hc12 hx7
     conv => whnf
     refine LnA.mk _ (List.length_map _) ?_
     conv => whnf
     refine Br.mk (fun hc13 => ?_) (fun hc13 => ?_)
     ·replace hx7 := ite_f hc13 hx7
      conv => whnf
      refine LnA.mk _ (List.length_map _) ?_
      cases hx7
      conv => whnf
      refine ⟨(), trivial, Sub.eq rfl ?_ ?_⟩
      ·repeat ((conv => whnf); refine Need.mk rfl ?_)
       exact trivial
      ·exact trivial
     ·replace hx7 := ite_t hc13 hx7
      cases hx7
      conv => whnf
      refine ⟨(), trivial, Sub.eq rfl ?_ ?_⟩
      ·repeat ((conv => whnf); refine Need.mk rfl ?_)
       exact trivial
      ·exact trivial
    ·replace hx7 := ite_t hc12 hx7
     cases hx7
     conv => whnf
     refine ⟨(), trivial, Sub.eq rfl ?_ ?_⟩
     ·repeat ((conv => whnf); refine Need.mk rfl ?_)
      exact trivial
     ·exact trivial
   ·replace hx7 := ite_t hc11 hx7
    cases hx7
    conv => whnf
    refine ⟨(), trivial, Sub.eq rfl ?_ ?_⟩
    ·repeat ((conv => whnf); refine Need.mk rfl ?_)
     exact trivial
    ·exact trivial
  ·rintro _ _
   conv => whnf
   refine Br.mk (fun hc14 => ?_) (fun hc14 => ?_)
   ·replace h := ite_t hc14 h
    obtain ⟨r8, hx10, h⟩ := obind h
    conv => whnf
    refine CallG.pure _ (law07WakesC hN hx10) ?_
    conv => whnf
    cases h
    exact rfl
   ·replace h := ite_f hc14 h
    conv => whnf
    refine LnA.mk _ (List.length_map _) ?_
    obtain ⟨_, hx12, h⟩ := obind h
    conv => whnf
    refine Need.mk (nz_ne hx12) ?_
    conv => whnf
    intro b3
    conv => whnf
    refine Side.mk rfl ?_
    obtain ⟨l5, hx17, h⟩ := obind h
    conv => whnf
    refine SeqG.mk Value (fun y => [(2, .d (.int .u8 bowler1)), (3, .d (.int .u8 week1)), (4, .d (.ref (.agg [I b1.fLaw.fBase, I b1.fLaw.fPercent, I b1.fLaw.fCap, I b1.fLaw.fLeast, I b1.fLaw.fBlind, .list 1 (List.map I b1.fBowlers), .list 6 (List.map Ref07Sheet.enc b1.fSheets), .list 1 (List.map I b1.fWithdrawn)]))), (10, .ptr 10 b3 0)]) (fun y => [(10, .cells b3 [.d (I b1.fLaw.fBase), .d (I b1.fLaw.fPercent), .d (I b1.fLaw.fCap), .d (I b1.fLaw.fLeast), .d (I b1.fLaw.fBlind), .d (.list 1 (List.map I b1.fBowlers)), .sl 53 y, .d (.list 1 (List.map I b1.fWithdrawn))]), (53, .arr y 68 6 false (List.map Ref07Sheet.enc l5))]) (fun _ => True) ?_ ?_
    ·obtain ⟨l6, hx18, hx17⟩ := obind hx17
     obtain ⟨l7, hx19, hx17⟩ := obind hx17
     obtain ⟨l8, hx20, hx17⟩ := obind hx17
     obtain ⟨l9, hx21, hx17⟩ := obind hx17
     conv => whnf
     refine DrawG.mk (.take 1 (.take 2 (.take 3 (.take 6 (.take 7 (.take 8 (.take 9 (.alt 0 [9, 8, 7, 6, 3, 2, 1] (.alt 4 [9, 8, 7, 6, 1] (.alt 5 [9, 8, 7, 6, 1] (.alt 10 [8, 6, 1] (.alt 11 [8, 6, 1] (.take 12 (.alt 13 [] .done .nil)) .nil) .nil) (.alt 10 [8, 6, 1] (.alt 5 [8, 6, 1] (.alt 11 [8, 6, 1] (.take 12 (.alt 13 [] .done .nil)) .nil) .nil) .nil)) (.alt 10 [8, 6, 3, 2, 1] (.alt 4 [8, 6, 1] (.alt 5 [8, 6, 1] (.alt 11 [8, 6, 1] (.take 12 (.alt 13 [] .done .nil)) .nil) .nil) .nil) .nil)) (.alt 4 [9, 8, 7, 6, 1] (.alt 0 [9, 8, 7, 6, 1] (.alt 5 [9, 8, 7, 6, 1] (.alt 10 [8, 6, 1] (.alt 11 [8, 6, 1] (.take 12 (.alt 13 [] .done .nil)) .nil) .nil) (.alt 10 [8, 6, 1] (.alt 5 [8, 6, 1] (.alt 11 [8, 6, 1] (.take 12 (.alt 13 [] .done .nil)) .nil) .nil) .nil)) (.alt 10 [8, 6, 1] (.alt 0 [8, 6, 1] (.alt 5 [8, 6, 1] (.alt 11 [8, 6, 1] (.take 12 (.alt 13 [] .done .nil)) .nil) .nil) .nil) .nil)) (.alt 10 [8, 6, 3, 2, 1] (.alt 0 [8, 6, 3, 2, 1] (.alt 4 [8, 6, 1] (.alt 5 [8, 6, 1] (.alt 11 [8, 6, 1] (.take 12 (.alt 13 [] .done .nil)) .nil) .nil) .nil) (.alt 4 [8, 6, 1] (.alt 0 [8, 6, 1] (.alt 5 [8, 6, 1] (.alt 11 [8, 6, 1] (.take 12 (.alt 13 [] .done .nil)) .nil) .nil) .nil) .nil)) .nil)))))))))) (by kernel_rfl) ?_
     conv => whnf
     refine Both.mk ?_ ?_
     ·conv => whnf
      intro hd29
      conv => whnf
      refine Need.mk (AV.le_refl _) ?_
      conv => whnf
      refine Need.mk (AV.le_refl _) ?_
      conv => whnf
      refine Need.mk (AV.le_refl _) ?_
      conv => whnf
      refine Need.mk (AV.le_refl _) ?_
      conv => whnf
      refine Need.mk (AV.le_refl _) ?_
      conv => whnf
      refine Need.mk (AV.le_refl _) ?_
      conv => whnf
      refine Need.mk (AV.le_refl _) ?_
      conv => whnf
      refine Both.mk ?_ ?_
      ·conv => whnf
       refine Need.mk (slc_needL _ hx18) (Eqv.mk (List.map Ref07Sheet.enc l6) (slc_mapL _ hx18) ?_)
       conv => whnf
       refine Need.mk (AV.le_refl _) ?_
       conv => whnf
       refine Need.mk (AV.le_refl _) ?_
       conv => whnf
       refine Need.mk (AV.le_refl _) ?_
       conv => whnf
       refine Need.mk (AV.le_refl _) ?_
       conv => whnf
       refine Need.mk (AV.le_refl _) ?_
       conv => whnf
       refine Both.mk ?_ ?_
       ·conv => whnf
        refine Side.mk rfl ?_
        conv => whnf
        refine Side.mk ⟨rfl, rfl, rfl⟩ (Need.mk (app_need hN hx19 (by decide)) (Eqv.mk (List.map Ref07Sheet.enc l7) (app_map _ hx19) ?_))
        conv => whnf
        intro hd30
        conv => whnf
        refine Need.mk (AV.le_refl _) ?_
        conv => whnf
        refine Need.mk (AV.le_refl _) ?_
        conv => whnf
        refine Need.mk (AV.le_refl _) ?_
        conv => whnf
        refine Need.mk (AV.le_refl _) ?_
        conv => whnf
        refine Need.mk (AV.le_refl _) ?_
        conv => whnf
        refine Both.mk ?_ trivial
        conv => whnf
        refine Need.mk (slc_need _ hx20) (Eqv.mk (List.map Ref07Sheet.enc l8) (slc_map _ hx20) ?_)
        conv => whnf
        refine Need.mk (AV.le_refl _) ?_
        conv => whnf
        refine Need.mk (AV.le_refl _) ?_
        conv => whnf
        refine Need.mk (AV.le_refl _) ?_
        conv => whnf
        refine Both.mk ?_ trivial
        conv => whnf
        refine Side.mk rfl ?_
        conv => whnf
        refine Side.mk ⟨rfl, rfl, rfl⟩ (Need.mk (app_need hN hx21 (by decide)) (Eqv.mk (List.map Ref07Sheet.enc l9) (app_map _ hx21) ?_))
        conv => whnf
        intro hd31
        conv => whnf
        refine Need.mk (AV.le_refl _) ?_
        conv => whnf
        refine Need.mk (AV.le_refl _) ?_
        conv => whnf
        refine Need.mk (AV.le_refl _) ?_
        conv => whnf
        refine Both.mk ?_ trivial
        conv => whnf
        refine Side.mk rfl ?_
        cases hx17
        conv => whnf
        refine ⟨hd31, trivial, Sub.eq rfl ?_ ?_⟩
        ·repeat ((conv => whnf); refine Need.mk rfl ?_)
         exact trivial
        ·conv => whnf
         refine Need.mk (OLe.refl _) ?_
         conv => whnf
         refine Need.mk (OLe.refl _) ?_
         exact trivial
       ·conv => whnf
        refine Both.mk ?_ trivial
        conv => whnf
        refine Need.mk (slc_need _ hx20) (Eqv.mk (List.map Ref07Sheet.enc l8) (slc_map _ hx20) ?_)
        conv => whnf
        refine Need.mk (AV.le_refl _) ?_
        conv => whnf
        refine Need.mk (AV.le_refl _) ?_
        conv => whnf
        refine Need.mk (AV.le_refl _) ?_
        conv => whnf
        refine Both.mk ?_ trivial
        conv => whnf
        refine Side.mk rfl ?_
        conv => whnf
        refine Side.mk ⟨rfl, rfl, rfl⟩ (Need.mk (app_need hN hx19 (by decide)) (Eqv.mk (List.map Ref07Sheet.enc l7) (app_map _ hx19) ?_))
        conv => whnf
        intro hd32
        conv => whnf
        refine Need.mk (AV.le_refl _) ?_
        conv => whnf
        refine Need.mk (AV.le_refl _) ?_
        conv => whnf
        refine Need.mk (AV.le_refl _) ?_
        conv => whnf
        refine Both.mk ?_ trivial
        conv => whnf
        refine Side.mk rfl ?_
        conv => whnf
        refine Side.mk ⟨rfl, rfl, rfl⟩ (Need.mk (app_need hN hx21 (by decide)) (Eqv.mk (List.map Ref07Sheet.enc l9) (app_map _ hx21) ?_))
        conv => whnf
        intro hd33
        conv => whnf
        refine Need.mk (AV.le_refl _) ?_
        conv => whnf
        refine Need.mk (AV.le_refl _) ?_
        conv => whnf
        refine Need.mk (AV.le_refl _) ?_
        conv => whnf
        refine Both.mk ?_ trivial
        conv => whnf
        refine Side.mk rfl ?_
        cases hx17
        conv => whnf
        refine ⟨hd33, trivial, Sub.eq rfl ?_ ?_⟩
        ·repeat ((conv => whnf); refine Need.mk rfl ?_)
         exact trivial
        ·conv => whnf
         refine Need.mk (OLe.refl _) ?_
         conv => whnf
         refine Need.mk (OLe.refl _) ?_
         exact trivial
      ·conv => whnf
       refine Both.mk ?_ trivial
       conv => whnf
       refine Need.mk (slc_need _ hx20) (Eqv.mk (List.map Ref07Sheet.enc l8) (slc_map _ hx20) ?_)
       conv => whnf
       refine Need.mk (AV.le_refl _) ?_
       conv => whnf
       refine Need.mk (AV.le_refl _) ?_
       conv => whnf
       refine Need.mk (AV.le_refl _) ?_
       conv => whnf
       refine Need.mk (AV.le_refl _) ?_
       conv => whnf
       refine Need.mk (AV.le_refl _) ?_
       conv => whnf
       refine Both.mk ?_ trivial
       conv => whnf
       refine Need.mk (slc_needL _ hx18) (Eqv.mk (List.map Ref07Sheet.enc l6) (slc_mapL _ hx18) ?_)
       conv => whnf
       refine Need.mk (AV.le_refl _) ?_
       conv => whnf
       refine Need.mk (AV.le_refl _) ?_
       conv => whnf
       refine Need.mk (AV.le_refl _) ?_
       conv => whnf
       refine Both.mk ?_ trivial
       conv => whnf
       refine Side.mk rfl ?_
       conv => whnf
       refine Side.mk ⟨rfl, rfl, rfl⟩ (Need.mk (app_need hN hx19 (by decide)) (Eqv.mk (List.map Ref07Sheet.enc l7) (app_map _ hx19) ?_))
       conv => whnf
       intro hd34
       conv => whnf
       refine Need.mk (AV.le_refl _) ?_
       conv => whnf
       refine Need.mk (AV.le_refl _) ?_
       conv => whnf
       refine Need.mk (AV.le_refl _) ?_
       conv => whnf
       refine Both.mk ?_ trivial
       conv => whnf
       refine Side.mk rfl ?_
       conv => whnf
       refine Side.mk ⟨rfl, rfl, rfl⟩ (Need.mk (app_need hN hx21 (by decide)) (Eqv.mk (List.map Ref07Sheet.enc l9) (app_map _ hx21) ?_))
       conv => whnf
       intro hd35
       conv => whnf
       refine Need.mk (AV.le_refl _) ?_
       conv => whnf
       refine Need.mk (AV.le_refl _) ?_
       conv => whnf
       refine Need.mk (AV.le_refl _) ?_
       conv => whnf
       refine Both.mk ?_ trivial
       conv => whnf
       refine Side.mk rfl ?_
       cases hx17
       conv => whnf
       refine ⟨hd35, trivial, Sub.eq rfl ?_ ?_⟩
       ·repeat ((conv => whnf); refine Need.mk rfl ?_)
        exact trivial
       ·conv => whnf
        refine Need.mk (OLe.refl _) ?_
        conv => whnf
        refine Need.mk (OLe.refl _) ?_
        exact trivial
     ·conv => whnf
      refine Both.mk ?_ ?_
      ·conv => whnf
       refine Need.mk (slc_needL _ hx18) (Eqv.mk (List.map Ref07Sheet.enc l6) (slc_mapL _ hx18) ?_)
       conv => whnf
       refine Need.mk (AV.le_refl _) ?_
       conv => whnf
       refine Need.mk (AV.le_refl _) ?_
       conv => whnf
       refine Need.mk (AV.le_refl _) ?_
       conv => whnf
       refine Need.mk (AV.le_refl _) ?_
       conv => whnf
       refine Need.mk (AV.le_refl _) ?_
       conv => whnf
       refine Both.mk ?_ ?_
       ·conv => whnf
        intro hd36
        conv => whnf
        refine Need.mk (AV.le_refl _) ?_
        conv => whnf
        refine Need.mk (AV.le_refl _) ?_
        conv => whnf
        refine Need.mk (AV.le_refl _) ?_
        conv => whnf
        refine Need.mk (AV.le_refl _) ?_
        conv => whnf
        refine Need.mk (AV.le_refl _) ?_
        conv => whnf
        refine Both.mk ?_ ?_
        ·conv => whnf
         refine Side.mk rfl ?_
         conv => whnf
         refine Side.mk ⟨rfl, rfl, rfl⟩ (Need.mk (app_need hN hx19 (by decide)) (Eqv.mk (List.map Ref07Sheet.enc l7) (app_map _ hx19) ?_))
         conv => whnf
         intro hd37
         conv => whnf
         refine Need.mk (AV.le_refl _) ?_
         conv => whnf
         refine Need.mk (AV.le_refl _) ?_
         conv => whnf
         refine Need.mk (AV.le_refl _) ?_
         conv => whnf
         refine Need.mk (AV.le_refl _) ?_
         conv => whnf
         refine Need.mk (AV.le_refl _) ?_
         conv => whnf
         refine Both.mk ?_ trivial
         conv => whnf
         refine Need.mk (slc_need _ hx20) (Eqv.mk (List.map Ref07Sheet.enc l8) (slc_map _ hx20) ?_)
         conv => whnf
         refine Need.mk (AV.le_refl _) ?_
         conv => whnf
         refine Need.mk (AV.le_refl _) ?_
         conv => whnf
         refine Need.mk (AV.le_refl _) ?_
         conv => whnf
         refine Both.mk ?_ trivial
         conv => whnf
         refine Side.mk rfl ?_
         conv => whnf
         refine Side.mk ⟨rfl, rfl, rfl⟩ (Need.mk (app_need hN hx21 (by decide)) (Eqv.mk (List.map Ref07Sheet.enc l9) (app_map _ hx21) ?_))
         conv => whnf
         intro hd38
         conv => whnf
         refine Need.mk (AV.le_refl _) ?_
         conv => whnf
         refine Need.mk (AV.le_refl _) ?_
         conv => whnf
         refine Need.mk (AV.le_refl _) ?_
         conv => whnf
         refine Both.mk ?_ trivial
         conv => whnf
         refine Side.mk rfl ?_
         cases hx17
         conv => whnf
         refine ⟨hd38, trivial, Sub.eq rfl ?_ ?_⟩
         ·repeat ((conv => whnf); refine Need.mk rfl ?_)
          exact trivial
         ·conv => whnf
          refine Need.mk (OLe.refl _) ?_
          conv => whnf
          refine Need.mk (OLe.refl _) ?_
          exact trivial
        ·conv => whnf
         refine Both.mk ?_ trivial
         conv => whnf
         refine Need.mk (slc_need _ hx20) (Eqv.mk (List.map Ref07Sheet.enc l8) (slc_map _ hx20) ?_)
         conv => whnf
         refine Need.mk (AV.le_refl _) ?_
         conv => whnf
         refine Need.mk (AV.le_refl _) ?_
         conv => whnf
         refine Need.mk (AV.le_refl _) ?_
         conv => whnf
         refine Both.mk ?_ trivial
         conv => whnf
         refine Side.mk rfl ?_
         conv => whnf
         refine Side.mk ⟨rfl, rfl, rfl⟩ (Need.mk (app_need hN hx19 (by decide)) (Eqv.mk (List.map Ref07Sheet.enc l7) (app_map _ hx19) ?_))
         conv => whnf
         intro hd39
         conv => whnf
         refine Need.mk (AV.le_refl _) ?_
         conv => whnf
         refine Need.mk (AV.le_refl _) ?_
         conv => whnf
         refine Need.mk (AV.le_refl _) ?_
         conv => whnf
         refine Both.mk ?_ trivial
         conv => whnf
         refine Side.mk rfl ?_
         conv => whnf
         refine Side.mk ⟨rfl, rfl, rfl⟩ (Need.mk (app_need hN hx21 (by decide)) (Eqv.mk (List.map Ref07Sheet.enc l9) (app_map _ hx21) ?_))
         conv => whnf
         intro hd40
         conv => whnf
         refine Need.mk (AV.le_refl _) ?_
         conv => whnf
         refine Need.mk (AV.le_refl _) ?_
         conv => whnf
         refine Need.mk (AV.le_refl _) ?_
         conv => whnf
         refine Both.mk ?_ trivial
         conv => whnf
         refine Side.mk rfl ?_
         cases hx17
         conv => whnf
         refine ⟨hd40, trivial, Sub.eq rfl ?_ ?_⟩
         ·repeat ((conv => whnf); refine Need.mk rfl ?_)
          exact trivial
         ·conv => whnf
          refine Need.mk (OLe.refl _) ?_
          conv => whnf
          refine Need.mk (OLe.refl _) ?_
          exact trivial
       ·conv => whnf
        refine Both.mk ?_ trivial
        conv => whnf
        refine Need.mk (slc_need _ hx20) (Eqv.mk (List.map Ref07Sheet.enc l8) (slc_map _ hx20) ?_)
        conv => whnf
        refine Need.mk (AV.le_refl _) ?_
        conv => whnf
        refine Need.mk (AV.le_refl _) ?_
        conv => whnf
        refine Need.mk (AV.le_refl _) ?_
        conv => whnf
        refine Both.mk ?_ trivial
        conv => whnf
        intro hd41
        conv => whnf
        refine Need.mk (AV.le_refl _) ?_
        conv => whnf
        refine Need.mk (AV.le_refl _) ?_
        conv => whnf
        refine Need.mk (AV.le_refl _) ?_
        conv => whnf
        refine Both.mk ?_ trivial
        conv => whnf
        refine Side.mk rfl ?_
        conv => whnf
        refine Side.mk ⟨rfl, rfl, rfl⟩ (Need.mk (app_need hN hx19 (by decide)) (Eqv.mk (List.map Ref07Sheet.enc l7) (app_map _ hx19) ?_))
        conv => whnf
        intro hd42
        conv => whnf
        refine Need.mk (AV.le_refl _) ?_
        conv => whnf
        refine Need.mk (AV.le_refl _) ?_
        conv => whnf
        refine Need.mk (AV.le_refl _) ?_
        conv => whnf
        refine Both.mk ?_ trivial
        conv => whnf
        refine Side.mk rfl ?_
        conv => whnf
        refine Side.mk ⟨rfl, rfl, rfl⟩ (Need.mk (app_need hN hx21 (by decide)) (Eqv.mk (List.map Ref07Sheet.enc l9) (app_map _ hx21) ?_))
        conv => whnf
        intro hd43
        conv => whnf
        refine Need.mk (AV.le_refl _) ?_
        conv => whnf
        refine Need.mk (AV.le_refl _) ?_
        conv => whnf
        refine Need.mk (AV.le_refl _) ?_
        conv => whnf
        refine Both.mk ?_ trivial
        conv => whnf
        refine Side.mk rfl ?_
        cases hx17
        conv => whnf
        refine ⟨hd43, trivial, Sub.eq rfl ?_ ?_⟩
        ·repeat ((conv => whnf); refine Need.mk rfl ?_)
         exact trivial
        ·conv => whnf
         refine Need.mk (OLe.refl _) ?_
         conv => whnf
         refine Need.mk (OLe.refl _) ?_
         exact trivial
      ·conv => whnf
       refine Both.mk ?_ trivial
       conv => whnf
       refine Need.mk (slc_need _ hx20) (Eqv.mk (List.map Ref07Sheet.enc l8) (slc_map _ hx20) ?_)
       conv => whnf
       refine Need.mk (AV.le_refl _) ?_
       conv => whnf
       refine Need.mk (AV.le_refl _) ?_
       conv => whnf
       refine Need.mk (AV.le_refl _) ?_
       conv => whnf
       refine Need.mk (AV.le_refl _) ?_
       conv => whnf
       refine Need.mk (AV.le_refl _) ?_
       conv => whnf
       refine Both.mk ?_ ?_
       ·conv => whnf
        intro hd44
        conv => whnf
        refine Need.mk (AV.le_refl _) ?_
        conv => whnf
        refine Need.mk (AV.le_refl _) ?_
        conv => whnf
        refine Need.mk (AV.le_refl _) ?_
        conv => whnf
        refine Need.mk (AV.le_refl _) ?_
        conv => whnf
        refine Need.mk (AV.le_refl _) ?_
        conv => whnf
        refine Both.mk ?_ trivial
        conv => whnf
        refine Need.mk (slc_needL _ hx18) (Eqv.mk (List.map Ref07Sheet.enc l6) (slc_mapL _ hx18) ?_)
        conv => whnf
        refine Need.mk (AV.le_refl _) ?_
        conv => whnf
        refine Need.mk (AV.le_refl _) ?_
        conv => whnf
        refine Need.mk (AV.le_refl _) ?_
        conv => whnf
        refine Both.mk ?_ trivial
        conv => whnf
        refine Side.mk rfl ?_
        conv => whnf
        refine Side.mk ⟨rfl, rfl, rfl⟩ (Need.mk (app_need hN hx19 (by decide)) (Eqv.mk (List.map Ref07Sheet.enc l7) (app_map _ hx19) ?_))
        conv => whnf
        intro hd45
        conv => whnf
        refine Need.mk (AV.le_refl _) ?_
        conv => whnf
        refine Need.mk (AV.le_refl _) ?_
        conv => whnf
        refine Need.mk (AV.le_refl _) ?_
        conv => whnf
        refine Both.mk ?_ trivial
        conv => whnf
        refine Side.mk rfl ?_
        conv => whnf
        refine Side.mk ⟨rfl, rfl, rfl⟩ (Need.mk (app_need hN hx21 (by decide)) (Eqv.mk (List.map Ref07Sheet.enc l9) (app_map _ hx21) ?_))
        conv => whnf
        intro hd46
        conv => whnf
        refine Need.mk (AV.le_refl _) ?_
        conv => whnf
        refine Need.mk (AV.le_refl _) ?_
        conv => whnf
        refine Need.mk (AV.le_refl _) ?_
        conv => whnf
        refine Both.mk ?_ trivial
        conv => whnf
        refine Side.mk rfl ?_
        cases hx17
        conv => whnf
        refine ⟨hd46, trivial, Sub.eq rfl ?_ ?_⟩
        ·repeat ((conv => whnf); refine Need.mk rfl ?_)
         exact trivial
        ·conv => whnf
         refine Need.mk (OLe.refl _) ?_
         conv => whnf
         refine Need.mk (OLe.refl _) ?_
         exact trivial
       ·conv => whnf
        refine Both.mk ?_ trivial
        conv => whnf
        refine Need.mk (slc_needL _ hx18) (Eqv.mk (List.map Ref07Sheet.enc l6) (slc_mapL _ hx18) ?_)
        conv => whnf
        refine Need.mk (AV.le_refl _) ?_
        conv => whnf
        refine Need.mk (AV.le_refl _) ?_
        conv => whnf
        refine Need.mk (AV.le_refl _) ?_
        conv => whnf
        refine Both.mk ?_ trivial
        conv => whnf
        intro hd47
        conv => whnf
        refine Need.mk (AV.le_refl _) ?_
        conv => whnf
        refine Need.mk (AV.le_refl _) ?_
        conv => whnf
        refine Need.mk (AV.le_refl _) ?_
        conv => whnf
        refine Both.mk ?_ trivial
        conv => whnf
        refine Side.mk rfl ?_
        conv => whnf
        refine Side.mk ⟨rfl, rfl, rfl⟩ (Need.mk (app_need hN hx19 (by decide)) (Eqv.mk (List.map Ref07Sheet.enc l7) (app_map _ hx19) ?_))
        conv => whnf
        intro hd48
        conv => whnf
        refine Need.mk (AV.le_refl _) ?_
        conv => whnf
        refine Need.mk (AV.le_refl _) ?_
        conv => whnf
        refine Need.mk (AV.le_refl _) ?_
        conv => whnf
        refine Both.mk ?_ trivial
        conv => whnf
        refine Side.mk rfl ?_
        conv => whnf
        refine Side.mk ⟨rfl, rfl, rfl⟩ (Need.mk (app_need hN hx21 (by decide)) (Eqv.mk (List.map Ref07Sheet.enc l9) (app_map _ hx21) ?_))
        conv => whnf
        intro hd49
        conv => whnf
        refine Need.mk (AV.le_refl _) ?_
        conv => whnf
        refine Need.mk (AV.le_refl _) ?_
        conv => whnf
        refine Need.mk (AV.le_refl _) ?_
        conv => whnf
        refine Both.mk ?_ trivial
        conv => whnf
        refine Side.mk rfl ?_
        cases hx17
        conv => whnf
        refine ⟨hd49, trivial, Sub.eq rfl ?_ ?_⟩
        ·repeat ((conv => whnf); refine Need.mk rfl ?_)
         exact trivial
        ·conv => whnf
         refine Need.mk (OLe.refl _) ?_
         conv => whnf
         refine Need.mk (OLe.refl _) ?_
         exact trivial
    ·rintro hd25 _
     conv => whnf
     refine LnA.mk _ (List.length_map _) ?_
     obtain ⟨_, hx23, h⟩ := obind h
     conv => whnf
     refine Need.mk (nz_ne hx23) ?_
     conv => whnf
     refine Need.mk (by decide) ?_
     obtain ⟨r10, hx26, h⟩ := obind h
     conv => whnf
     refine CallG.pure _ (law07BookC hN hx26) ?_
     obtain ⟨⟨ra2, rb2⟩, hx27, h⟩ := obind h
     conv => whnf
     refine CallG.pure _ (rateCountingC hN hx27) ?_
     conv => whnf
     refine Side.mk rfl ?_
     obtain ⟨r12, hx30, h⟩ := obind h
     conv => whnf
     refine Side.mk rfl ?_
     conv => whnf
     refine CallG.pure _ (law07BookC hN hx30) ?_
     obtain ⟨⟨ra4, rb4⟩, hx31, h⟩ := obind h
     conv => whnf
     refine CallG.pure _ (rateCountingC hN hx31) ?_
     obtain ⟨⟨k2, w2, v4⟩, hx39, h⟩ := obind h
     conv => whnf
     refine SeqG.mk Unit (fun y => [(4, .d (.ref (.agg [I b1.fLaw.fBase, I b1.fLaw.fPercent, I b1.fLaw.fCap, I b1.fLaw.fLeast, I b1.fLaw.fBlind, .list 1 (List.map I b1.fBowlers), .list 6 (List.map Ref07Sheet.enc b1.fSheets), .list 1 (List.map I b1.fWithdrawn)]))), (10, .ptr 10 b3 0), (11, .d (I k2)), (12, .d (I w2)), (107, .d (.bool v4))]) (fun y => [(10, .cells b3 [.d (I b1.fLaw.fBase), .d (I b1.fLaw.fPercent), .d (I b1.fLaw.fCap), .d (I b1.fLaw.fLeast), .d (I b1.fLaw.fBlind), .d (.list 1 (List.map I b1.fBowlers)), .sl 53 hd25, .d (.list 1 (List.map I b1.fWithdrawn))]), (53, .arr hd25 68 6 true (List.map Ref07Sheet.enc l5))]) (fun _ => True) ?_ ?_
     ·conv => whnf
      refine Br.mk (fun hc25 => ?_) (fun hc25 => ?_)
      ·replace hx39 := ite_f hc25 hx39
       conv => whnf
       refine Br.mk (fun hc26 => ?_) (fun hc26 => ?_)
       ·replace hx39 := ite_f hc26 hx39
        obtain ⟨r19, hx40, hx39⟩ := obind hx39
        conv => whnf
        refine CallG.pure _ (law07IntsC hN hx40) ?_
        conv => whnf
        refine Br.mk (fun hc27 => ?_) (fun hc27 => ?_)
        ·replace hx39 := ite_f hc27 hx39
         conv => whnf
         refine Side.mk rfl ?_
         obtain ⟨r20, hx41, hx39⟩ := obind hx39
         conv => whnf
         refine Side.mk rfl ?_
         conv => whnf
         refine CallG.pure _ (law07SameC hN hx41) ?_
         cases hx39
         conv => whnf
         refine ⟨(), trivial, Sub.eq rfl ?_ ?_⟩
         ·repeat ((conv => whnf); refine Need.mk rfl ?_)
          exact trivial
         ·conv => whnf
          refine Need.mk (OLe.refl _) ?_
          conv => whnf
          refine Need.mk (OLe.refl _) ?_
          exact trivial
        ·replace hx39 := ite_t hc27 hx39
         cases hx39
         conv => whnf
         refine ⟨(), trivial, Sub.eq rfl ?_ ?_⟩
         ·repeat ((conv => whnf); refine Need.mk rfl ?_)
          exact trivial
         ·conv => whnf
          refine Need.mk (OLe.refl _) ?_
          conv => whnf
          refine Need.mk (OLe.refl _) ?_
          exact trivial
       ·replace hx39 := ite_t hc26 hx39
        cases hx39
        conv => whnf
        refine ⟨(), trivial, Sub.eq rfl ?_ ?_⟩
        ·repeat ((conv => whnf); refine Need.mk rfl ?_)
         exact trivial
        ·conv => whnf
         refine Need.mk (OLe.refl _) ?_
         conv => whnf
         refine Need.mk (OLe.refl _) ?_
         exact trivial
      ·replace hx39 := ite_t hc25 hx39
       cases hx39
       conv => whnf
       refine ⟨(), trivial, Sub.eq rfl ?_ ?_⟩
       ·repeat ((conv => whnf); refine Need.mk rfl ?_)
        exact trivial
       ·conv => whnf
        refine Need.mk (OLe.refl _) ?_
        conv => whnf
        refine Need.mk (OLe.refl _) ?_
        exact trivial
     ·rintro _ _
      conv => whnf
      refine Br.mk (fun hc28 => ?_) (fun hc28 => ?_)
      ·replace h := ite_t hc28 h
       conv => whnf
       cases h
       exact rfl
      ·replace h := ite_f hc28 h
       conv => whnf
       refine LnA.mk _ (List.length_map _) ?_
       conv => whnf
       refine Br.mk (fun hc30 => ?_) (fun hc30 => ?_)
       ·replace h := ite_t hc30 h
        obtain ⟨r24, hx45, h⟩ := obind h
        conv => whnf
        refine CallG.pure _ (law07WakesC hN hx45) ?_
        conv => whnf
        cases h
        exact rfl
       ·replace h := ite_f hc30 h
        conv => whnf
        refine LnA.mk _ (List.length_map _) ?_
        obtain ⟨_, hx47, h⟩ := obind h
        conv => whnf
        refine Need.mk (nz_ne hx47) ?_
        obtain ⟨r26, hx50, h⟩ := obind h
        conv => whnf
        refine CallG.pure _ (law07BookC hN hx50) ?_
        conv => whnf
        intro hd52
        conv => whnf
        intro hd53
        obtain ⟨⟨ra6, rb6, rc2⟩, hx51, h⟩ := obind h
        conv => whnf
        refine Side.mk rfl ?_
        conv => whnf
        refine Side.mk rfl ?_
        conv => whnf
        refine CallG.pure _ (rateMatchC hN hx51) ?_
        conv => whnf
        refine Side.mk rfl ?_
        obtain ⟨r28, hx54, h⟩ := obind h
        conv => whnf
        refine Side.mk rfl ?_
        conv => whnf
        refine CallG.pure _ (law07BookC hN hx54) ?_
        conv => whnf
        intro hd56
        conv => whnf
        intro hd57
        obtain ⟨⟨ra8, rb8, rc4⟩, hx55, h⟩ := obind h
        conv => whnf
        refine Side.mk rfl ?_
        conv => whnf
        refine Side.mk rfl ?_
        conv => whnf
        refine CallG.pure _ (rateMatchC hN hx55) ?_
        obtain ⟨v5, hx57, h⟩ := obind h
        conv => whnf
        refine SeqG.mk Unit (fun y => [(8, .d (.bool v5))]) (fun y => []) (fun _ => True) ?_ ?_
        ·conv => whnf
         refine Br.mk (fun hc35 => ?_) (fun hc35 => ?_)
         ·replace hx57 := ite_t hc35 hx57
          conv => whnf
          refine Br.mk (fun hc36 => ?_) (fun hc36 => ?_)
          ·replace hx57 := ite_t hc36 hx57
           conv => whnf
           refine Br.mk (fun hc37 => ?_) (fun hc37 => ?_)
           ·replace hx57 := ite_t hc37 hx57
            conv => whnf
            refine Br.mk (fun hc38 => ?_) (fun hc38 => ?_)
            ·replace hx57 := ite_t hc38 hx57
             obtain ⟨r30, hx58, hx57⟩ := obind hx57
             conv => whnf
             refine CallG.pure _ (law07WakesC hN hx58) ?_
             cases hx57
             conv => whnf
             refine ⟨(), trivial, Sub.eq rfl ?_ ?_⟩
             ·repeat ((conv => whnf); refine Need.mk rfl ?_)
              exact trivial
             ·exact trivial
            ·replace hx57 := ite_f hc38 hx57
             cases hx57
             conv => whnf
             refine ⟨(), trivial, Sub.eq rfl ?_ ?_⟩
             ·repeat ((conv => whnf); refine Need.mk rfl ?_)
              exact trivial
             ·exact trivial
           ·replace hx57 := ite_f hc37 hx57
            cases hx57
            conv => whnf
            refine ⟨(), trivial, Sub.eq rfl ?_ ?_⟩
            ·repeat ((conv => whnf); refine Need.mk rfl ?_)
             exact trivial
            ·exact trivial
          ·replace hx57 := ite_f hc36 hx57
           cases hx57
           conv => whnf
           refine ⟨(), trivial, Sub.eq rfl ?_ ?_⟩
           ·repeat ((conv => whnf); refine Need.mk rfl ?_)
            exact trivial
           ·exact trivial
         ·replace hx57 := ite_f hc35 hx57
          cases hx57
          conv => whnf
          refine ⟨(), trivial, Sub.eq rfl ?_ ?_⟩
          ·repeat ((conv => whnf); refine Need.mk rfl ?_)
           exact trivial
          ·exact trivial
        ·rintro _ _
         conv => whnf
         cases h
         exact rfl
end Go.Proofs.Ytmencjafjcmbaaa
