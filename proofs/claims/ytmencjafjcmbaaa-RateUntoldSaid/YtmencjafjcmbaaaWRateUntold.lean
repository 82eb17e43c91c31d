/-
  The walk of the law RateUntold.
-/
import Derived.Test.YtmencjafjcmbaaaDRateUntold
import Derived.Test.YtmencjafjcmbaaaWd
namespace Go.Proofs.Ytmencjafjcmbaaa
open Go Go.Abs Go.Kp
set_option maxRecDepth 100000
set_option maxHeartbeats 8000000
set_option linter.all false

theorem law07RateUntoldC {N : Nat} (hN : N ≤ 1073741824) {b1 : Ref07Book} {bowler1 : Int} {week1 : Int} {bits1 : Int} {words1 : List Int} {r : Bool} (h : law07RateUntold N b1 bowler1 week1 bits1 words1 = some r) :
    ACalls Try.prog 13 [.d (.agg [I b1.fLaw.fBase, I b1.fLaw.fPercent, I b1.fLaw.fCap, I b1.fLaw.fLeast, I b1.fLaw.fBlind, .list 1 (List.map I b1.fBowlers), .list 6 (List.map Ref07Sheet.enc b1.fSheets), .list 1 (List.map I b1.fWithdrawn)]), .d (.int .u8 bowler1), .d (.int .u8 week1), .d (.int .u32 bits1), .d (.list 1 (List.map (fun x => .int .u16 x) words1))] [] fun e os => e = .ret (.d (.bool r)) ∧ os = [] := by
  refine acalls_f (fresh := false) tt_ok dr_ok ⟨[5], [], [], [], [1, 12, 15, 28, 44, 46, 1006, 1009, 1021, 1024, 1027, 1034], 0, []⟩ Try.func13 rfl Try.call13 rfl ?_
  unfold law07RateUntold at h
  obtain ⟨v2, hx7, h⟩ := obind h
  conv => whnf
  refine SeqG.mk Unit (fun y => [(1, .d (.int .u8 bowler1)), (2, .d (.int .u8 week1)), (3, .d (.int .u32 bits1)), (4, .d (.list 1 (List.map (fun x => .int .u16 x) words1))), (5, .d (.ref (.agg [I b1.fLaw.fBase, I b1.fLaw.fPercent, I b1.fLaw.fCap, I b1.fLaw.fLeast, I b1.fLaw.fBlind, .list 1 (List.map I b1.fBowlers), .list 6 (List.map Ref07Sheet.enc b1.fSheets), .list 1 (List.map I b1.fWithdrawn)]))), (43, .d (.bool v2))]) (fun y => []) (fun _ => True) ?_ ?_
  ·obtain ⟨r6, hx8, hx7⟩ := obind hx7
   conv => whnf
   refine CallG.pure _ (law07ReadyC hN hx8) ?_
   conv => whnf
   refine Br.mk (fun hc8 => ?_) (fun hc8 => ?_)
   ·replace hx7 := ite_f hc8 hx7
    conv => whnf
    refine LnA.mk _ (List.length_map _) ?_
    conv => whnf
    refine Br.mk (fun hc9 => ?_) (fun hc9 => ?_)
    ·replace hx7 := ite_f hc9 hx7
     conv => whnf
     refine LnA.mk _ (List.length_map _) ?_
     cases hx7
     conv => whnf
     refine ⟨(), trivial, Sub.eq rfl ?_ ?_⟩
     ·repeat ((conv => whnf); refine Need.mk rfl ?_)
      exact trivial
     ·exact trivial
    ·replace hx7 := ite_t hc9 hx7
     cases hx7
     conv => whnf
     refine ⟨(), trivial, Sub.eq rfl ?_ ?_⟩
     ·repeat ((conv => whnf); refine Need.mk rfl ?_)
      exact trivial
     ·exact trivial
   ·replace hx7 := ite_t hc8 hx7
    cases hx7
    conv => whnf
    refine ⟨(), trivial, Sub.eq rfl ?_ ?_⟩
    ·repeat ((conv => whnf); refine Need.mk rfl ?_)
     exact trivial
    ·exact trivial
  ·rintro _ _
   conv => whnf
   refine Br.mk (fun hc10 => ?_) (fun hc10 => ?_)
   ·replace h := ite_t hc10 h
    obtain ⟨r8, hx10, h⟩ := obind h
    conv => whnf
    refine CallG.pure _ (law07WakesC hN hx10) ?_
    conv => whnf
    cases h
    exact rfl
   ·replace h := ite_f hc10 h
    conv => whnf
    refine LnA.mk _ (List.length_map _) ?_
    obtain ⟨_, hx12, h⟩ := obind h
    conv => whnf
    refine Need.mk (nz_ne hx12) ?_
    conv => whnf
    refine Need.mk (by decide) ?_
    obtain ⟨⟨k6, w6, games8, l14⟩, hx48, h⟩ := obind h
    conv => whnf
    refine SeqG.mk Value (fun y => [(4, .d (.list 1 (List.map (fun x => .int .u16 x) words1))), (5, .d (.ref (.agg [I b1.fLaw.fBase, I b1.fLaw.fPercent, I b1.fLaw.fCap, I b1.fLaw.fLeast, I b1.fLaw.fBlind, .list 1 (List.map I b1.fBowlers), .list 6 (List.map Ref07Sheet.enc b1.fSheets), .list 1 (List.map I b1.fWithdrawn)]))), (11, .d (I k6)), (12, .d (I w6)), (13, .sl 84 y), (14, .d (I games8))]) (fun y => [(84, .arr y 3 1 false (List.map I l14))]) (fun _ => True) ?_ ?_
    ·conv => whnf
     refine LoopG.mk (Nat × (Int × Int × Int × Int × (List Int)) × Value) (fun y => [(3, .d (.int .u32 bits1)), (4, .d (.list 1 (List.map (fun x => .int .u16 x) words1))), (5, .d (.ref (.agg [I b1.fLaw.fBase, I b1.fLaw.fPercent, I b1.fLaw.fCap, I b1.fLaw.fLeast, I b1.fLaw.fBlind, .list 1 (List.map I b1.fBowlers), .list 6 (List.map Ref07Sheet.enc b1.fSheets), .list 1 (List.map I b1.fWithdrawn)]))), (11, .d (I y.2.1.1)), (12, .d (I y.2.1.2.1)), (13, .sl 84 y.2.2), (14, .d (I y.2.1.2.2.1)), (15, .d (I y.2.1.2.2.2.1))]) (fun y => [(84, .arr y.2.2 3 1 false (List.map I y.2.1.2.2.2.2))]) (fun y => loopN (fun rr x => law07RateUntold_b1 N b1 bits1 rr x.1 x.2.1 x.2.2.1 x.2.2.2.1 x.2.2.2.2) y.1 y.2.1 = some (k6, w6, games8, l14)) (fun y => y.1) (N, (Int.tmod (w64 bowler1) (b1.fBowlers.length : Int), w64 (1 + (Int.tmod (w64 week1) 30)), 0, 1, []), (.slice none 0 0)) hx48 (Sub.eq rfl ?_ ?_) ?_
     ·repeat ((conv => whnf); refine Need.mk rfl ?_)
      exact trivial
     ·conv => whnf
      refine Need.mk (OLe.nil _ _ _ _) ?_
      exact trivial
     ·rintro ⟨n10, ⟨k11, w11, games14, n9, l24⟩, hd34⟩ hl2
      obtain ⟨n10, rfl, hl2⟩ := loopN_some hl2
      replace hl2 : law07RateUntold_b1 N b1 bits1 (loopN (fun rr x => law07RateUntold_b1 N b1 bits1 rr x.1 x.2.1 x.2.2.1 x.2.2.2.1 x.2.2.2.2) n10) k11 w11 games14 n9 l24 = some (k6, w6, games8, l14) := hl2
      rw [law07RateUntold_b1] at hl2
      conv => whnf
      refine Br.mk (fun hc54 => ?_) (fun hc54 => ?_)
      ·replace hl2 := ite_t hc54 hl2
       obtain ⟨⟨games15, l26⟩, hx77, hl2⟩ := obind hl2
       conv => whnf
       refine SeqG.mk Value (fun y => [(3, .d (.int .u32 bits1)), (4, .d (.list 1 (List.map (fun x => .int .u16 x) words1))), (5, .d (.ref (.agg [I b1.fLaw.fBase, I b1.fLaw.fPercent, I b1.fLaw.fCap, I b1.fLaw.fLeast, I b1.fLaw.fBlind, .list 1 (List.map I b1.fBowlers), .list 6 (List.map Ref07Sheet.enc b1.fSheets), .list 1 (List.map I b1.fWithdrawn)]))), (11, .d (I k11)), (12, .d (I w11)), (13, .sl 84 y), (14, .d (I games15)), (15, .d (I n9))]) (fun y => [(84, .arr y 3 1 false (List.map I l26))]) (fun _ => True) ?_ ?_
       ·obtain ⟨⟨ra24, rb24⟩, hx79, hx77⟩ := obind hx77
        conv => whnf
        refine CallG.pure _ (ref07OfC hN hx79) ?_
        conv => whnf
        intro b25
        conv => whnf
        refine Side.mk rfl ?_
        conv => whnf
        refine Br.mk (fun hc59 => ?_) (fun hc59 => ?_)
        ·replace hx77 := ite_t hc59 hx77
         cases hx77
         conv => whnf
         refine ⟨hd34, trivial, Sub.eq rfl ?_ ?_⟩
         ·repeat ((conv => whnf); refine Need.mk rfl ?_)
          exact trivial
         ·conv => whnf
          refine Need.mk (OLe.refl _) ?_
          exact trivial
        ·replace hx77 := ite_f hc59 hx77
         obtain ⟨v26, hx81, hx77⟩ := obind hx77
         conv => whnf
         refine SeqG.mk Unit (fun y => [(3, .d (.int .u32 bits1)), (4, .d (.list 1 (List.map (fun x => .int .u16 x) words1))), (5, .d (.ref (.agg [I b1.fLaw.fBase, I b1.fLaw.fPercent, I b1.fLaw.fCap, I b1.fLaw.fLeast, I b1.fLaw.fBlind, .list 1 (List.map I b1.fBowlers), .list 6 (List.map Ref07Sheet.enc b1.fSheets), .list 1 (List.map I b1.fWithdrawn)]))), (11, .d (I k11)), (12, .d (I w11)), (13, .sl 84 hd34), (14, .d (I games14)), (15, .d (I n9)), (80, .d (.bool v26))]) (fun y => [(84, .arr hd34 3 1 false (List.map I l24))]) (fun _ => True) ?_ ?_
         ·conv => whnf
          refine Side.mk rfl (LnA.mk _ (List.length_map _) ?_)
          conv => whnf
          refine Br.mk (fun hc61 => ?_) (fun hc61 => ?_)
          ·replace hx81 := ite_t hc61 hx81
           obtain ⟨_, hx82, hx81⟩ := obind hx81
           conv => whnf
           refine Need.mk (nng_ok hx82) ?_
           conv => whnf
           refine Need.mk (by decide) ?_
           cases hx81
           conv => whnf
           refine ⟨(), trivial, Sub.eq rfl ?_ ?_⟩
           ·repeat ((conv => whnf); refine Need.mk rfl ?_)
            exact trivial
           ·conv => whnf
            refine Need.mk (OLe.refl _) ?_
            exact trivial
          ·replace hx81 := ite_f hc61 hx81
           cases hx81
           conv => whnf
           refine ⟨(), trivial, Sub.eq rfl ?_ ?_⟩
           ·repeat ((conv => whnf); refine Need.mk rfl ?_)
            exact trivial
           ·conv => whnf
            refine Need.mk (OLe.refl _) ?_
            exact trivial
         ·rintro _ _
          conv => whnf
          refine Br.mk (fun hc62 => ?_) (fun hc62 => ?_)
          ·replace hx77 := ite_t hc62 hx77
           conv => whnf
           intro hd38
           obtain ⟨l27, hx83, hx77⟩ := obind hx77
           conv => whnf
           refine Side.mk ⟨rfl, rfl⟩ ?_
           conv => whnf
           refine Side.mk ⟨rfl, rfl, rfl⟩ (Need.mk (app_need hN hx83 (by decide)) (Eqv.mk (List.map I l27) (app_map _ hx83) ?_))
           conv => whnf
           intro hd39
           cases hx77
           conv => whnf
           refine ⟨hd39, trivial, Sub.eq rfl ?_ ?_⟩
           ·repeat ((conv => whnf); refine Need.mk rfl ?_)
            exact trivial
           ·conv => whnf
            refine Need.mk (OLe.refl _) ?_
            exact trivial
          ·replace hx77 := ite_f hc62 hx77
           cases hx77
           conv => whnf
           refine ⟨hd34, trivial, Sub.eq rfl ?_ ?_⟩
           ·repeat ((conv => whnf); refine Need.mk rfl ?_)
            exact trivial
           ·conv => whnf
            refine Need.mk (OLe.refl _) ?_
            exact trivial
       ·rintro hd37 _
        conv => whnf
        refine ⟨(n10, (k11, w11, games15, w64 (n9 + 1), l26), hd37), hl2, Sub.eq rfl ?_ ?_, Nat.lt_succ_self _⟩
        ·repeat ((conv => whnf); refine Need.mk rfl ?_)
         exact trivial
        ·conv => whnf
         refine Need.mk (OLe.refl _) ?_
         exact trivial
      ·replace hl2 := ite_f hc54 hl2
       cases hl2
       conv => whnf
       refine ⟨hd34, trivial, Sub.eq rfl ?_ ?_⟩
       ·repeat ((conv => whnf); refine Need.mk rfl ?_)
        exact trivial
       ·conv => whnf
        refine Need.mk (OLe.refl _) ?_
        exact trivial
    ·rintro hd20 _
     obtain ⟨r11, hx87, h⟩ := obind h
     conv => whnf
     refine CallG.pure _ (law07BookC hN hx87) ?_
     obtain ⟨r12, hx88, h⟩ := obind h
     conv => whnf
     refine Side.mk rfl ?_
     conv => whnf
     refine CallG.fresh 91 (law07ListC hN hx88) ?_
     intro hd41
     obtain ⟨⟨ra26, rb26⟩, hx89, h⟩ := obind h
     conv => whnf
     refine Side.mk rfl ?_
     conv => whnf
     refine CallG.pure _ (rateSpanC hN hx89) ?_
     conv => whnf
     intro b27
     conv => whnf
     refine Side.mk rfl ?_
     obtain ⟨v28, hx91, h⟩ := obind h
     conv => whnf
     refine SeqG.mk Unit (fun y => [(4, .d (.list 1 (List.map (fun x => .int .u16 x) words1))), (5, .d (.ref (.agg [I b1.fLaw.fBase, I b1.fLaw.fPercent, I b1.fLaw.fCap, I b1.fLaw.fLeast, I b1.fLaw.fBlind, .list 1 (List.map I b1.fBowlers), .list 6 (List.map Ref07Sheet.enc b1.fSheets), .list 1 (List.map I b1.fWithdrawn)]))), (11, .d (I k6)), (12, .d (I w6)), (13, .sl 84 hd20), (14, .d (I games8)), (18, .ptr 18 b27 0), (103, .d (.bool v28))]) (fun y => [(84, .arr hd20 3 1 true (List.map I l14)), (18, .cells b27 [.d (I ra26.fLo), .d (I ra26.fHi)])]) (fun _ => True) ?_ ?_
     ·conv => whnf
      refine Br.mk (fun hc67 => ?_) (fun hc67 => ?_)
      ·replace hx91 := ite_f hc67 hx91
       conv => whnf
       refine Side.mk rfl ?_
       conv => whnf
       refine Side.mk rfl ?_
       cases hx91
       conv => whnf
       refine ⟨(), trivial, Sub.eq rfl ?_ ?_⟩
       ·repeat ((conv => whnf); refine Need.mk rfl ?_)
        exact trivial
       ·conv => whnf
        refine Need.mk (OLe.refl _) ?_
        conv => whnf
        refine Need.mk (OLe.refl _) ?_
        exact trivial
      ·replace hx91 := ite_t hc67 hx91
       cases hx91
       conv => whnf
       refine ⟨(), trivial, Sub.eq rfl ?_ ?_⟩
       ·repeat ((conv => whnf); refine Need.mk rfl ?_)
        exact trivial
       ·conv => whnf
        refine Need.mk (OLe.refl _) ?_
        conv => whnf
        refine Need.mk (OLe.refl _) ?_
        exact trivial
     ·rintro _ _
      conv => whnf
      refine Br.mk (fun hc68 => ?_) (fun hc68 => ?_)
      ·replace h := ite_t hc68 h
       conv => whnf
       cases h
       exact rfl
      ·replace h := ite_f hc68 h
       conv => whnf
       intro b29
       conv => whnf
       refine LoopG.unr 4 ?_
       conv => whnf
       refine SeqG.mk (Ar3 Int) (fun y => [(4, .d (.list 1 (List.map (fun x => .int .u16 x) words1))), (5, .d (.ref (.agg [I b1.fLaw.fBase, I b1.fLaw.fPercent, I b1.fLaw.fCap, I b1.fLaw.fLeast, I b1.fLaw.fBlind, .list 1 (List.map I b1.fBowlers), .list 6 (List.map Ref07Sheet.enc b1.fSheets), .list 1 (List.map I b1.fWithdrawn)]))), (11, .d (I k6)), (12, .d (I w6)), (13, .sl 84 hd20), (14, .d (I games8)), (18, .ptr 18 b27 0), (20, .ptr 20 b29 0), (21, .i .i64 0)]) (fun y => [(84, .arr hd20 3 1 true (List.map I l14)), (18, .cells b27 [.d (I ra26.fLo), .d (I ra26.fHi)]), (20, .cells b29 [.d (I y.a0), .d (I y.a1), .d (I y.a2)])]) (fun y => law07RateUntold_k8 N b1 words1 k6 w6 games8 l14 ra26 y = some r) ?_ ?_
       ·conv => whnf
        intro b317
        conv => whnf
        refine Side.mk rfl ?_
        conv => whnf
        intro hd781
        obtain ⟨l348, hx10501, h⟩ := obind h
        conv => whnf
        refine Side.mk rfl ?_
        conv => whnf
        refine Side.mk ⟨rfl, rfl, rfl⟩ (Need.mk (app_need hN hx10501 (by decide)) (Eqv.mk (List.map Ref07Sheet.enc l348) (app_map _ hx10501) ?_))
        conv => whnf
        intro hd782
        conv => whnf
        refine Side.mk rfl ?_
        obtain ⟨l362, hx10919, h⟩ := obind h
        conv => whnf
        refine SeqG.mk Value (fun y => [(4, .d (.list 1 (List.map (fun x => .int .u16 x) words1))), (5, .d (.ref (.agg [I b1.fLaw.fBase, I b1.fLaw.fPercent, I b1.fLaw.fCap, I b1.fLaw.fLeast, I b1.fLaw.fBlind, .list 1 (List.map I b1.fBowlers), .list 6 (List.map Ref07Sheet.enc b1.fSheets), .list 1 (List.map I b1.fWithdrawn)]))), (11, .d (I k6)), (12, .d (I w6)), (13, .sl 84 hd20), (14, .d (I games8)), (18, .ptr 18 b27 0), (20, .ptr 20 b29 0), (21, .i .i64 0), (22, .ptr 22 b317 0)]) (fun y => [(84, .arr hd20 3 1 true (List.map I l14)), (18, .cells b27 [.d (I ra26.fLo), .d (I ra26.fHi)]), (20, .cells b29 [.d (I 0), .d (I 0), .d (I 0)]), (22, .cells b317 [.d (I b1.fLaw.fBase), .d (I b1.fLaw.fPercent), .d (I b1.fLaw.fCap), .d (I b1.fLaw.fLeast), .d (I b1.fLaw.fBlind), .d (.list 1 (List.map I b1.fBowlers)), .sl 109 y, .d (.list 1 (List.map I b1.fWithdrawn))]), (109, .arr y 68 6 false (List.map Ref07Sheet.enc l362))]) (fun _ => True) ?_ ?_
        ·conv => whnf
         refine LoopG.mk (Nat × (Int × Int × (List Ref07Sheet)) × Value) (fun y => [(4, .d (.list 1 (List.map (fun x => .int .u16 x) words1))), (5, .d (.ref (.agg [I b1.fLaw.fBase, I b1.fLaw.fPercent, I b1.fLaw.fCap, I b1.fLaw.fLeast, I b1.fLaw.fBlind, .list 1 (List.map I b1.fBowlers), .list 6 (List.map Ref07Sheet.enc b1.fSheets), .list 1 (List.map I b1.fWithdrawn)]))), (11, .d (I k6)), (12, .d (I w6)), (13, .sl 84 hd20), (14, .d (I games8)), (18, .ptr 18 b27 0), (20, .ptr 20 b29 0), (21, .i .i64 0), (22, .ptr 22 b317 0), (23, .d (I y.2.1.1)), (24, .d (I y.2.1.2.1))]) (fun y => [(84, .arr hd20 3 1 true (List.map I l14)), (18, .cells b27 [.d (I ra26.fLo), .d (I ra26.fHi)]), (20, .cells b29 [.d (I 0), .d (I 0), .d (I 0)]), (22, .cells b317 [.d (I b1.fLaw.fBase), .d (I b1.fLaw.fPercent), .d (I b1.fLaw.fCap), .d (I b1.fLaw.fLeast), .d (I b1.fLaw.fBlind), .d (.list 1 (List.map I b1.fBowlers)), .sl 109 y.2.2, .d (.list 1 (List.map I b1.fWithdrawn))]), (109, .arr y.2.2 68 6 false (List.map Ref07Sheet.enc y.2.1.2.2))]) (fun y => loopN (fun rr x => law07RateUntold_b10 N b1 k6 l14 rr x.1 x.2.1 x.2.2) y.1 y.2.1 = some l362) (fun y => y.1) (N, (0, 0, l348), hd782) hx10919 (Sub.eq rfl ?_ ?_) ?_
         ·repeat ((conv => whnf); refine Need.mk rfl ?_)
          exact trivial
         ·conv => whnf
          refine Need.mk (OLe.refl _) ?_
          conv => whnf
          refine Need.mk (OLe.refl _) ?_
          conv => whnf
          refine Need.mk (OLe.refl _) ?_
          conv => whnf
          refine Need.mk (OLe.refl _) ?_
          conv => whnf
          refine Need.mk (OLe.refl _) ?_
          exact trivial
         ·rintro ⟨n318, ⟨number1633, i96, l372⟩, hd836⟩ hl310
          obtain ⟨n318, rfl, hl310⟩ := loopN_some hl310
          replace hl310 : law07RateUntold_b10 N b1 k6 l14 (loopN (fun rr x => law07RateUntold_b10 N b1 k6 l14 rr x.1 x.2.1 x.2.2) n318) number1633 i96 l372 = some l362 := hl310
          rw [law07RateUntold_b10] at hl310
          conv => whnf
          refine Side.mk rfl (LnA.mk _ (List.length_map _) ?_)
          conv => whnf
          refine Br.mk (fun hc5936 => ?_) (fun hc5936 => ?_)
          ·replace hl310 := ite_t hc5936 hl310
           obtain ⟨⟨number1645, l374⟩, hx11267, hl310⟩ := obind hl310
           conv => whnf
           refine SeqG.mk Value (fun y => [(4, .d (.list 1 (List.map (fun x => .int .u16 x) words1))), (5, .d (.ref (.agg [I b1.fLaw.fBase, I b1.fLaw.fPercent, I b1.fLaw.fCap, I b1.fLaw.fLeast, I b1.fLaw.fBlind, .list 1 (List.map I b1.fBowlers), .list 6 (List.map Ref07Sheet.enc b1.fSheets), .list 1 (List.map I b1.fWithdrawn)]))), (11, .d (I k6)), (12, .d (I w6)), (13, .sl 84 hd20), (14, .d (I games8)), (18, .ptr 18 b27 0), (20, .ptr 20 b29 0), (21, .i .i64 0), (22, .ptr 22 b317 0), (23, .d (I number1645)), (24, .d (I i96))]) (fun y => [(84, .arr hd20 3 1 true (List.map I l14)), (18, .cells b27 [.d (I ra26.fLo), .d (I ra26.fHi)]), (20, .cells b29 [.d (I 0), .d (I 0), .d (I 0)]), (22, .cells b317 [.d (I b1.fLaw.fBase), .d (I b1.fLaw.fPercent), .d (I b1.fLaw.fCap), .d (I b1.fLaw.fLeast), .d (I b1.fLaw.fBlind), .d (.list 1 (List.map I b1.fBowlers)), .sl 109 y, .d (.list 1 (List.map I b1.fWithdrawn))]), (109, .arr y 68 6 false (List.map Ref07Sheet.enc l374))]) (fun _ => True) ?_ ?_
           ·obtain ⟨number1651, hx11298, hx11267⟩ := obind hx11267
            conv => whnf
            refine SeqG.mk Unit (fun y => [(4, .d (.list 1 (List.map (fun x => .int .u16 x) words1))), (5, .d (.ref (.agg [I b1.fLaw.fBase, I b1.fLaw.fPercent, I b1.fLaw.fCap, I b1.fLaw.fLeast, I b1.fLaw.fBlind, .list 1 (List.map I b1.fBowlers), .list 6 (List.map Ref07Sheet.enc b1.fSheets), .list 1 (List.map I b1.fWithdrawn)]))), (11, .d (I k6)), (12, .d (I w6)), (13, .sl 84 hd20), (14, .d (I games8)), (18, .ptr 18 b27 0), (20, .ptr 20 b29 0), (21, .i .i64 0), (22, .ptr 22 b317 0), (23, .d (I number1651)), (24, .d (I i96))]) (fun y => [(84, .arr hd20 3 1 true (List.map I l14)), (18, .cells b27 [.d (I ra26.fLo), .d (I ra26.fHi)]), (20, .cells b29 [.d (I 0), .d (I 0), .d (I 0)]), (22, .cells b317 [.d (I b1.fLaw.fBase), .d (I b1.fLaw.fPercent), .d (I b1.fLaw.fCap), .d (I b1.fLaw.fLeast), .d (I b1.fLaw.fBlind), .d (.list 1 (List.map I b1.fBowlers)), .sl 109 hd836, .d (.list 1 (List.map I b1.fWithdrawn))]), (109, .arr hd836 68 6 false (List.map Ref07Sheet.enc l372))]) (fun _ => True) ?_ ?_
            ·conv => whnf
             refine LoopG.mk (Nat × Int) (fun y => [(4, .d (.list 1 (List.map (fun x => .int .u16 x) words1))), (5, .d (.ref (.agg [I b1.fLaw.fBase, I b1.fLaw.fPercent, I b1.fLaw.fCap, I b1.fLaw.fLeast, I b1.fLaw.fBlind, .list 1 (List.map I b1.fBowlers), .list 6 (List.map Ref07Sheet.enc b1.fSheets), .list 1 (List.map I b1.fWithdrawn)]))), (11, .d (I k6)), (12, .d (I w6)), (13, .sl 84 hd20), (14, .d (I games8)), (18, .ptr 18 b27 0), (20, .ptr 20 b29 0), (21, .i .i64 0), (22, .ptr 22 b317 0), (23, .d (I y.2)), (24, .d (I i96))]) (fun y => [(84, .arr hd20 3 1 true (List.map I l14)), (18, .cells b27 [.d (I ra26.fLo), .d (I ra26.fHi)]), (20, .cells b29 [.d (I 0), .d (I 0), .d (I 0)]), (22, .cells b317 [.d (I b1.fLaw.fBase), .d (I b1.fLaw.fPercent), .d (I b1.fLaw.fCap), .d (I b1.fLaw.fLeast), .d (I b1.fLaw.fBlind), .d (.list 1 (List.map I b1.fBowlers)), .sl 109 hd836, .d (.list 1 (List.map I b1.fWithdrawn))]), (109, .arr hd836 68 6 false (List.map Ref07Sheet.enc l372))]) (fun y => loopN (fun rr x => law07RateUntold_b9 N b1 rr x) y.1 y.2 = some number1651) (fun y => y.1) (N, w64 (number1633 + 1)) hx11298 (Sub.eq rfl ?_ ?_) ?_
             ·repeat ((conv => whnf); refine Need.mk rfl ?_)
              exact trivial
             ·conv => whnf
              refine Need.mk (OLe.refl _) ?_
              conv => whnf
              refine Need.mk (OLe.refl _) ?_
              conv => whnf
              refine Need.mk (OLe.refl _) ?_
              conv => whnf
              refine Need.mk (OLe.refl _) ?_
              conv => whnf
              refine Need.mk (OLe.refl _) ?_
              exact trivial
             ·rintro ⟨n322, number1656⟩ hl314
              obtain ⟨n322, rfl, hl314⟩ := loopN_some hl314
              replace hl314 : law07RateUntold_b9 N b1 (loopN (fun rr x => law07RateUntold_b9 N b1 rr x) n322) number1656 = some number1651 := hl314
              rw [law07RateUntold_b9] at hl314
              obtain ⟨v1759, hx11326, hl314⟩ := obind hl314
              conv => whnf
              refine SeqG.mk Unit (fun y => [(4, .d (.list 1 (List.map (fun x => .int .u16 x) words1))), (5, .d (.ref (.agg [I b1.fLaw.fBase, I b1.fLaw.fPercent, I b1.fLaw.fCap, I b1.fLaw.fLeast, I b1.fLaw.fBlind, .list 1 (List.map I b1.fBowlers), .list 6 (List.map Ref07Sheet.enc b1.fSheets), .list 1 (List.map I b1.fWithdrawn)]))), (11, .d (I k6)), (12, .d (I w6)), (13, .sl 84 hd20), (14, .d (I games8)), (18, .ptr 18 b27 0), (20, .ptr 20 b29 0), (21, .i .i64 0), (22, .ptr 22 b317 0), (23, .d (I number1656)), (24, .d (I i96)), (130, .d (.bool v1759))]) (fun y => [(84, .arr hd20 3 1 true (List.map I l14)), (18, .cells b27 [.d (I ra26.fLo), .d (I ra26.fHi)]), (20, .cells b29 [.d (I 0), .d (I 0), .d (I 0)]), (22, .cells b317 [.d (I b1.fLaw.fBase), .d (I b1.fLaw.fPercent), .d (I b1.fLaw.fCap), .d (I b1.fLaw.fLeast), .d (I b1.fLaw.fBlind), .d (.list 1 (List.map I b1.fBowlers)), .sl 109 hd836, .d (.list 1 (List.map I b1.fWithdrawn))]), (109, .arr hd836 68 6 false (List.map Ref07Sheet.enc l372))]) (fun _ => True) ?_ ?_
              ·obtain ⟨r6947, hx11327, hx11326⟩ := obind hx11326
               conv => whnf
               refine CallG.pure _ (ref07HasC hN hx11327) ?_
               conv => whnf
               refine Br.mk (fun hc6007 => ?_) (fun hc6007 => ?_)
               ·replace hx11326 := ite_f hc6007 hx11326
                obtain ⟨r6948, hx11328, hx11326⟩ := obind hx11326
                conv => whnf
                refine CallG.pure _ (law07TakenC hN hx11328) ?_
                cases hx11326
                conv => whnf
                refine ⟨(), trivial, Sub.eq rfl ?_ ?_⟩
                ·repeat ((conv => whnf); refine Need.mk rfl ?_)
                 exact trivial
                ·conv => whnf
                 refine Need.mk (OLe.refl _) ?_
                 conv => whnf
                 refine Need.mk (OLe.refl _) ?_
                 conv => whnf
                 refine Need.mk (OLe.refl _) ?_
                 conv => whnf
                 refine Need.mk (OLe.refl _) ?_
                 conv => whnf
                 refine Need.mk (OLe.refl _) ?_
                 exact trivial
               ·replace hx11326 := ite_t hc6007 hx11326
                cases hx11326
                conv => whnf
                refine ⟨(), trivial, Sub.eq rfl ?_ ?_⟩
                ·repeat ((conv => whnf); refine Need.mk rfl ?_)
                 exact trivial
                ·conv => whnf
                 refine Need.mk (OLe.refl _) ?_
                 conv => whnf
                 refine Need.mk (OLe.refl _) ?_
                 conv => whnf
                 refine Need.mk (OLe.refl _) ?_
                 conv => whnf
                 refine Need.mk (OLe.refl _) ?_
                 conv => whnf
                 refine Need.mk (OLe.refl _) ?_
                 exact trivial
              ·rintro _ _
               conv => whnf
               refine Br.mk (fun hc6008 => ?_) (fun hc6008 => ?_)
               ·replace hl314 := ite_t hc6008 hl314
                conv => whnf
                refine ⟨(n322, w64 (number1656 + 1)), hl314, Sub.eq rfl ?_ ?_, Nat.lt_succ_self _⟩
                ·repeat ((conv => whnf); refine Need.mk rfl ?_)
                 exact trivial
                ·conv => whnf
                 refine Need.mk (OLe.refl _) ?_
                 conv => whnf
                 refine Need.mk (OLe.refl _) ?_
                 conv => whnf
                 refine Need.mk (OLe.refl _) ?_
                 conv => whnf
                 refine Need.mk (OLe.refl _) ?_
                 conv => whnf
                 refine Need.mk (OLe.refl _) ?_
                 exact trivial
               ·replace hl314 := ite_f hc6008 hl314
                cases hl314
                conv => whnf
                refine ⟨(), trivial, Sub.eq rfl ?_ ?_⟩
                ·repeat ((conv => whnf); refine Need.mk rfl ?_)
                 exact trivial
                ·conv => whnf
                 refine Need.mk (OLe.refl _) ?_
                 conv => whnf
                 refine Need.mk (OLe.refl _) ?_
                 conv => whnf
                 refine Need.mk (OLe.refl _) ?_
                 conv => whnf
                 refine Need.mk (OLe.refl _) ?_
                 conv => whnf
                 refine Need.mk (OLe.refl _) ?_
                 exact trivial
            ·rintro _ _
             conv => whnf
             intro b341
             conv => whnf
             refine LoopG.unr 4 ?_
             obtain ⟨_, hx11332, hx11267⟩ := obind hx11267
             conv => whnf
             refine SeqG.mk Unit (fun y => [(4, .d (.list 1 (List.map (fun x => .int .u16 x) words1))), (5, .d (.ref (.agg [I b1.fLaw.fBase, I b1.fLaw.fPercent, I b1.fLaw.fCap, I b1.fLaw.fLeast, I b1.fLaw.fBlind, .list 1 (List.map I b1.fBowlers), .list 6 (List.map Ref07Sheet.enc b1.fSheets), .list 1 (List.map I b1.fWithdrawn)]))), (11, .d (I k6)), (12, .d (I w6)), (13, .sl 84 hd20), (14, .d (I games8)), (18, .ptr 18 b27 0), (20, .ptr 20 b29 0), (21, .i .i64 0), (22, .ptr 22 b317 0), (23, .d (I number1651)), (24, .d (I i96)), (25, .ptr 25 b341 0), (26, .i .i64 0)]) (fun y => [(84, .arr hd20 3 1 true (List.map I l14)), (18, .cells b27 [.d (I ra26.fLo), .d (I ra26.fHi)]), (20, .cells b29 [.d (I 0), .d (I 0), .d (I 0)]), (22, .cells b317 [.d (I b1.fLaw.fBase), .d (I b1.fLaw.fPercent), .d (I b1.fLaw.fCap), .d (I b1.fLaw.fLeast), .d (I b1.fLaw.fBlind), .d (.list 1 (List.map I b1.fBowlers)), .sl 109 hd836, .d (.list 1 (List.map I b1.fWithdrawn))]), (25, .cells b341 [.d (I 0), .d (I 0), .d (I 0)]), (109, .arr hd836 68 6 false (List.map Ref07Sheet.enc l372))]) (fun _ => True) ?_ ?_
             ·conv => whnf
              refine IxG.mk 0 rfl (by decide) ?_
              conv => whnf
              refine Side.mk rfl ?_
              conv => whnf
              refine ⟨(), trivial, Sub.eq rfl ?_ ?_⟩
              ·repeat ((conv => whnf); refine Need.mk rfl ?_)
               exact trivial
              ·conv => whnf
               refine Need.mk (OLe.refl _) ?_
               conv => whnf
               refine Need.mk (OLe.refl _) ?_
               conv => whnf
               refine Need.mk (OLe.refl _) ?_
               conv => whnf
               refine Need.mk (OLe.refl _) ?_
               conv => whnf
               refine Need.mk (OLe.refl _) ?_
               conv => whnf
               refine Need.mk (OLe.refl _) ?_
               exact trivial
             ·rintro _ _
              obtain ⟨_, hx11333, hx11267⟩ := obind hx11267
              conv => whnf
              refine SeqG.mk Unit (fun y => [(4, .d (.list 1 (List.map (fun x => .int .u16 x) words1))), (5, .d (.ref (.agg [I b1.fLaw.fBase, I b1.fLaw.fPercent, I b1.fLaw.fCap, I b1.fLaw.fLeast, I b1.fLaw.fBlind, .list 1 (List.map I b1.fBowlers), .list 6 (List.map Ref07Sheet.enc b1.fSheets), .list 1 (List.map I b1.fWithdrawn)]))), (11, .d (I k6)), (12, .d (I w6)), (13, .sl 84 hd20), (14, .d (I games8)), (18, .ptr 18 b27 0), (20, .ptr 20 b29 0), (21, .i .i64 0), (22, .ptr 22 b317 0), (23, .d (I number1651)), (24, .d (I i96)), (25, .ptr 25 b341 0), (26, .i .i64 1)]) (fun y => [(84, .arr hd20 3 1 true (List.map I l14)), (18, .cells b27 [.d (I ra26.fLo), .d (I ra26.fHi)]), (20, .cells b29 [.d (I 0), .d (I 0), .d (I 0)]), (22, .cells b317 [.d (I b1.fLaw.fBase), .d (I b1.fLaw.fPercent), .d (I b1.fLaw.fCap), .d (I b1.fLaw.fLeast), .d (I b1.fLaw.fBlind), .d (.list 1 (List.map I b1.fBowlers)), .sl 109 hd836, .d (.list 1 (List.map I b1.fWithdrawn))]), (25, .cells b341 [.d (I 0), .d (I 0), .d (I 0)]), (109, .arr hd836 68 6 false (List.map Ref07Sheet.enc l372))]) (fun _ => True) ?_ ?_
              ·conv => whnf
               refine IxG.mk 1 rfl (by decide) ?_
               conv => whnf
               refine Side.mk rfl ?_
               conv => whnf
               refine ⟨(), trivial, Sub.eq rfl ?_ ?_⟩
               ·repeat ((conv => whnf); refine Need.mk rfl ?_)
                exact trivial
               ·conv => whnf
                refine Need.mk (OLe.refl _) ?_
                conv => whnf
                refine Need.mk (OLe.refl _) ?_
                conv => whnf
                refine Need.mk (OLe.refl _) ?_
                conv => whnf
                refine Need.mk (OLe.refl _) ?_
                conv => whnf
                refine Need.mk (OLe.refl _) ?_
                conv => whnf
                refine Need.mk (OLe.refl _) ?_
                exact trivial
              ·rintro _ _
               obtain ⟨_, hx11334, hx11267⟩ := obind hx11267
               conv => whnf
               refine SeqG.mk Unit (fun y => [(4, .d (.list 1 (List.map (fun x => .int .u16 x) words1))), (5, .d (.ref (.agg [I b1.fLaw.fBase, I b1.fLaw.fPercent, I b1.fLaw.fCap, I b1.fLaw.fLeast, I b1.fLaw.fBlind, .list 1 (List.map I b1.fBowlers), .list 6 (List.map Ref07Sheet.enc b1.fSheets), .list 1 (List.map I b1.fWithdrawn)]))), (11, .d (I k6)), (12, .d (I w6)), (13, .sl 84 hd20), (14, .d (I games8)), (18, .ptr 18 b27 0), (20, .ptr 20 b29 0), (21, .i .i64 0), (22, .ptr 22 b317 0), (23, .d (I number1651)), (24, .d (I i96)), (25, .ptr 25 b341 0), (26, .i .i64 2)]) (fun y => [(84, .arr hd20 3 1 true (List.map I l14)), (18, .cells b27 [.d (I ra26.fLo), .d (I ra26.fHi)]), (20, .cells b29 [.d (I 0), .d (I 0), .d (I 0)]), (22, .cells b317 [.d (I b1.fLaw.fBase), .d (I b1.fLaw.fPercent), .d (I b1.fLaw.fCap), .d (I b1.fLaw.fLeast), .d (I b1.fLaw.fBlind), .d (.list 1 (List.map I b1.fBowlers)), .sl 109 hd836, .d (.list 1 (List.map I b1.fWithdrawn))]), (25, .cells b341 [.d (I 0), .d (I 0), .d (I 0)]), (109, .arr hd836 68 6 false (List.map Ref07Sheet.enc l372))]) (fun _ => True) ?_ ?_
               ·conv => whnf
                refine IxG.mk 2 rfl (by decide) ?_
                conv => whnf
                refine Side.mk rfl ?_
                conv => whnf
                refine ⟨(), trivial, Sub.eq rfl ?_ ?_⟩
                ·repeat ((conv => whnf); refine Need.mk rfl ?_)
                 exact trivial
                ·conv => whnf
                 refine Need.mk (OLe.refl _) ?_
                 conv => whnf
                 refine Need.mk (OLe.refl _) ?_
                 conv => whnf
                 refine Need.mk (OLe.refl _) ?_
                 conv => whnf
                 refine Need.mk (OLe.refl _) ?_
                 conv => whnf
                 refine Need.mk (OLe.refl _) ?_
                 conv => whnf
                 refine Need.mk (OLe.refl _) ?_
                 exact trivial
               ·rintro _ _
                obtain ⟨x720, hx11335, hx11267⟩ := obind hx11267
                obtain ⟨l375, hx11336, hx11267⟩ := obind hx11267
                conv => whnf
                refine DrawG.mk (.take 0 (.take 1 (.take 2 (.take 3 (.take 4 (.take 5 (.take 6 (.take 7 (.take 8 (.alt 9 [6, 5, 4, 1, 0] (.alt 10 [6, 5, 4, 1, 0] (.alt 11 [6, 5, 4, 0] (.take 12 (.alt 13 [] .done .nil)) .nil) .nil) .nil)))))))))) (by kernel_rfl) ?_
                conv => whnf
                refine Side.mk rfl ?_
                conv => whnf
                refine Side.mk ⟨rfl, rfl⟩ (Need.mk (idx_need _ hx11335) ?_)
                conv => whnf
                refine Side.mk ⟨rfl, rfl⟩ ⟨_, Int.natCast_nonneg _, idx_el _ hx11335, ?_⟩
                conv => whnf
                refine Side.mk rfl ?_
                conv => whnf
                refine Both.mk ?_ trivial
                conv => whnf
                refine Side.mk ⟨rfl, rfl⟩ (Need.mk (idx_need _ hx11335) ?_)
                conv => whnf
                refine Need.mk (AV.le_refl _) ?_
                conv => whnf
                refine Need.mk (AV.le_refl _) ?_
                conv => whnf
                refine Need.mk (AV.le_refl _) ?_
                conv => whnf
                refine Side.mk rfl ?_
                conv => whnf
                refine Need.mk (AV.le_refl _) ?_
                conv => whnf
                refine Need.mk (AV.le_refl _) ?_
                conv => whnf
                refine Both.mk ?_ trivial
                conv => whnf
                intro hd844
                conv => whnf
                refine Side.mk ⟨rfl, rfl⟩ (Need.mk (idx_need _ hx11335) ?_)
                conv => whnf
                refine Need.mk (AV.le_refl _) ?_
                conv => whnf
                refine Need.mk (AV.le_refl _) ?_
                conv => whnf
                refine Need.mk (AV.le_refl _) ?_
                conv => whnf
                refine Side.mk rfl ?_
                conv => whnf
                refine Need.mk (AV.le_refl _) ?_
                conv => whnf
                refine Need.mk (AV.le_refl _) ?_
                conv => whnf
                refine Both.mk ?_ trivial
                conv => whnf
                refine Side.mk ⟨rfl, rfl⟩ ?_
                conv => whnf
                refine Side.mk ⟨rfl, rfl, rfl⟩ (Need.mk (app_need hN hx11336 (by decide)) (Eqv.mk (List.map Ref07Sheet.enc l375) (app_map _ hx11336) ?_))
                conv => whnf
                intro hd845
                conv => whnf
                refine Side.mk ⟨rfl, rfl⟩ (Need.mk (idx_need _ hx11335) ?_)
                conv => whnf
                refine Need.mk (AV.le_refl _) ?_
                conv => whnf
                refine Need.mk (AV.le_refl _) ?_
                conv => whnf
                refine Need.mk (AV.le_refl _) ?_
                conv => whnf
                refine Need.mk (AV.le_refl _) ?_
                conv => whnf
                refine Both.mk ?_ trivial
                conv => whnf
                refine Side.mk rfl ?_
                cases hx11267
                conv => whnf
                refine ⟨hd845, trivial, Sub.eq rfl ?_ ?_⟩
                ·repeat ((conv => whnf); refine Need.mk rfl ?_)
                 exact trivial
                ·conv => whnf
                 refine Need.mk (OLe.refl _) ?_
                 conv => whnf
                 refine Need.mk (OLe.refl _) ?_
                 conv => whnf
                 refine Need.mk (OLe.refl _) ?_
                 conv => whnf
                 refine Need.mk (OLe.refl _) ?_
                 conv => whnf
                 refine Need.mk (OLe.refl _) ?_
                 exact trivial
           ·rintro hd841 _
            conv => whnf
            refine ⟨(n318, (number1645, w64 (i96 + 1), l374), hd841), hl310, Sub.eq rfl ?_ ?_, Nat.lt_succ_self _⟩
            ·repeat ((conv => whnf); refine Need.mk rfl ?_)
             exact trivial
            ·conv => whnf
             refine Need.mk (OLe.refl _) ?_
             conv => whnf
             refine Need.mk (OLe.refl _) ?_
             conv => whnf
             refine Need.mk (OLe.refl _) ?_
             conv => whnf
             refine Need.mk (OLe.refl _) ?_
             conv => whnf
             refine Need.mk (OLe.refl _) ?_
             exact trivial
          ·replace hl310 := ite_f hc5936 hl310
           cases hl310
           conv => whnf
           refine ⟨hd836, trivial, Sub.eq rfl ?_ ?_⟩
           ·repeat ((conv => whnf); refine Need.mk rfl ?_)
            exact trivial
           ·conv => whnf
            refine Need.mk (OLe.refl _) ?_
            conv => whnf
            refine Need.mk (OLe.refl _) ?_
            conv => whnf
            refine Need.mk (OLe.refl _) ?_
            conv => whnf
            refine Need.mk (OLe.refl _) ?_
            conv => whnf
            refine Need.mk (OLe.refl _) ?_
            exact trivial
        ·rintro hd814 _
         conv => whnf
         refine Side.mk rfl ?_
         obtain ⟨r6950, hx11339, h⟩ := obind h
         conv => whnf
         refine Side.mk rfl ?_
         conv => whnf
         refine CallG.pure _ (law07BookC hN hx11339) ?_
         obtain ⟨⟨ra50, rb50⟩, hx11340, h⟩ := obind h
         conv => whnf
         refine CallG.pure _ (rateAverageC hN hx11340) ?_
         conv => whnf
         refine Br.mk (fun hc6010 => ?_) (fun hc6010 => ?_)
         ·replace h := ite_t hc6010 h
          conv => whnf
          cases h
          exact rfl
         ·replace h := ite_f hc6010 h
          conv => whnf
          refine IxG.mk 0 rfl (by decide) ?_
          conv => whnf
          refine Side.mk rfl ?_
          conv => whnf
          refine ⟨(Ar3.mk ra50 0 0), h, Sub.eq rfl ?_ ?_⟩
          ·repeat ((conv => whnf); refine Need.mk rfl ?_)
           exact trivial
          ·conv => whnf
           refine Need.mk (OLe.refl _) ?_
           conv => whnf
           refine Need.mk (OLe.refl _) ?_
           conv => whnf
           refine Need.mk (OLe.refl _) ?_
           exact trivial
       ·clear h
        rintro told4 h
        unfold law07RateUntold_k8 at h
        conv => whnf
        refine SeqG.mk (Ar3 Int) (fun y => [(4, .d (.list 1 (List.map (fun x => .int .u16 x) words1))), (5, .d (.ref (.agg [I b1.fLaw.fBase, I b1.fLaw.fPercent, I b1.fLaw.fCap, I b1.fLaw.fLeast, I b1.fLaw.fBlind, .list 1 (List.map I b1.fBowlers), .list 6 (List.map Ref07Sheet.enc b1.fSheets), .list 1 (List.map I b1.fWithdrawn)]))), (11, .d (I k6)), (12, .d (I w6)), (13, .sl 84 hd20), (14, .d (I games8)), (18, .ptr 18 b27 0), (20, .ptr 20 b29 0), (21, .i .i64 1)]) (fun y => [(84, .arr hd20 3 1 true (List.map I l14)), (18, .cells b27 [.d (I ra26.fLo), .d (I ra26.fHi)]), (20, .cells b29 [.d (I y.a0), .d (I y.a1), .d (I y.a2)])]) (fun y => law07RateUntold_k5 N b1 words1 k6 w6 games8 l14 ra26 y = some r) ?_ ?_
        ·conv => whnf
         intro b291
         conv => whnf
         refine Side.mk rfl ?_
         conv => whnf
         intro hd714
         obtain ⟨l319, hx9660, h⟩ := obind h
         conv => whnf
         refine Side.mk rfl ?_
         conv => whnf
         refine Side.mk ⟨rfl, rfl, rfl⟩ (Need.mk (app_need hN hx9660 (by decide)) (Eqv.mk (List.map Ref07Sheet.enc l319) (app_map _ hx9660) ?_))
         conv => whnf
         intro hd715
         conv => whnf
         refine Side.mk rfl ?_
         obtain ⟨l333, hx10078, h⟩ := obind h
         conv => whnf
         refine SeqG.mk Value (fun y => [(4, .d (.list 1 (List.map (fun x => .int .u16 x) words1))), (5, .d (.ref (.agg [I b1.fLaw.fBase, I b1.fLaw.fPercent, I b1.fLaw.fCap, I b1.fLaw.fLeast, I b1.fLaw.fBlind, .list 1 (List.map I b1.fBowlers), .list 6 (List.map Ref07Sheet.enc b1.fSheets), .list 1 (List.map I b1.fWithdrawn)]))), (11, .d (I k6)), (12, .d (I w6)), (13, .sl 84 hd20), (14, .d (I games8)), (18, .ptr 18 b27 0), (20, .ptr 20 b29 0), (21, .i .i64 1), (22, .ptr 22 b291 0)]) (fun y => [(84, .arr hd20 3 1 true (List.map I l14)), (18, .cells b27 [.d (I ra26.fLo), .d (I ra26.fHi)]), (20, .cells b29 [.d (I told4.a0), .d (I told4.a1), .d (I told4.a2)]), (22, .cells b291 [.d (I b1.fLaw.fBase), .d (I b1.fLaw.fPercent), .d (I b1.fLaw.fCap), .d (I b1.fLaw.fLeast), .d (I b1.fLaw.fBlind), .d (.list 1 (List.map I b1.fBowlers)), .sl 109 y, .d (.list 1 (List.map I b1.fWithdrawn))]), (109, .arr y 68 6 false (List.map Ref07Sheet.enc l333))]) (fun _ => True) ?_ ?_
         ·conv => whnf
          refine LoopG.mk (Nat × (Int × Int × (List Ref07Sheet)) × Value) (fun y => [(4, .d (.list 1 (List.map (fun x => .int .u16 x) words1))), (5, .d (.ref (.agg [I b1.fLaw.fBase, I b1.fLaw.fPercent, I b1.fLaw.fCap, I b1.fLaw.fLeast, I b1.fLaw.fBlind, .list 1 (List.map I b1.fBowlers), .list 6 (List.map Ref07Sheet.enc b1.fSheets), .list 1 (List.map I b1.fWithdrawn)]))), (11, .d (I k6)), (12, .d (I w6)), (13, .sl 84 hd20), (14, .d (I games8)), (18, .ptr 18 b27 0), (20, .ptr 20 b29 0), (21, .i .i64 1), (22, .ptr 22 b291 0), (23, .d (I y.2.1.1)), (24, .d (I y.2.1.2.1))]) (fun y => [(84, .arr hd20 3 1 true (List.map I l14)), (18, .cells b27 [.d (I ra26.fLo), .d (I ra26.fHi)]), (20, .cells b29 [.d (I told4.a0), .d (I told4.a1), .d (I told4.a2)]), (22, .cells b291 [.d (I b1.fLaw.fBase), .d (I b1.fLaw.fPercent), .d (I b1.fLaw.fCap), .d (I b1.fLaw.fLeast), .d (I b1.fLaw.fBlind), .d (.list 1 (List.map I b1.fBowlers)), .sl 109 y.2.2, .d (.list 1 (List.map I b1.fWithdrawn))]), (109, .arr y.2.2 68 6 false (List.map Ref07Sheet.enc y.2.1.2.2))]) (fun y => loopN (fun rr x => law07RateUntold_b7 N b1 k6 l14 rr x.1 x.2.1 x.2.2) y.1 y.2.1 = some l333) (fun y => y.1) (N, (0, 0, l319), hd715) hx10078 (Sub.eq rfl ?_ ?_) ?_
          ·repeat ((conv => whnf); refine Need.mk rfl ?_)
           exact trivial
          ·conv => whnf
           refine Need.mk (OLe.refl _) ?_
           conv => whnf
           refine Need.mk (OLe.refl _) ?_
           conv => whnf
           refine Need.mk (OLe.refl _) ?_
           conv => whnf
           refine Need.mk (OLe.refl _) ?_
           conv => whnf
           refine Need.mk (OLe.refl _) ?_
           exact trivial
          ·rintro ⟨n292, ⟨number1495, i88, l343⟩, hd769⟩ hl284
           obtain ⟨n292, rfl, hl284⟩ := loopN_some hl284
           replace hl284 : law07RateUntold_b7 N b1 k6 l14 (loopN (fun rr x => law07RateUntold_b7 N b1 k6 l14 rr x.1 x.2.1 x.2.2) n292) number1495 i88 l343 = some l333 := hl284
           rw [law07RateUntold_b7] at hl284
           conv => whnf
           refine Side.mk rfl (LnA.mk _ (List.length_map _) ?_)
           conv => whnf
           refine Br.mk (fun hc5490 => ?_) (fun hc5490 => ?_)
           ·replace hl284 := ite_t hc5490 hl284
            obtain ⟨⟨number1507, l345⟩, hx10426, hl284⟩ := obind hl284
            conv => whnf
            refine SeqG.mk Value (fun y => [(4, .d (.list 1 (List.map (fun x => .int .u16 x) words1))), (5, .d (.ref (.agg [I b1.fLaw.fBase, I b1.fLaw.fPercent, I b1.fLaw.fCap, I b1.fLaw.fLeast, I b1.fLaw.fBlind, .list 1 (List.map I b1.fBowlers), .list 6 (List.map Ref07Sheet.enc b1.fSheets), .list 1 (List.map I b1.fWithdrawn)]))), (11, .d (I k6)), (12, .d (I w6)), (13, .sl 84 hd20), (14, .d (I games8)), (18, .ptr 18 b27 0), (20, .ptr 20 b29 0), (21, .i .i64 1), (22, .ptr 22 b291 0), (23, .d (I number1507)), (24, .d (I i88))]) (fun y => [(84, .arr hd20 3 1 true (List.map I l14)), (18, .cells b27 [.d (I ra26.fLo), .d (I ra26.fHi)]), (20, .cells b29 [.d (I told4.a0), .d (I told4.a1), .d (I told4.a2)]), (22, .cells b291 [.d (I b1.fLaw.fBase), .d (I b1.fLaw.fPercent), .d (I b1.fLaw.fCap), .d (I b1.fLaw.fLeast), .d (I b1.fLaw.fBlind), .d (.list 1 (List.map I b1.fBowlers)), .sl 109 y, .d (.list 1 (List.map I b1.fWithdrawn))]), (109, .arr y 68 6 false (List.map Ref07Sheet.enc l345))]) (fun _ => True) ?_ ?_
            ·obtain ⟨number1513, hx10457, hx10426⟩ := obind hx10426
             conv => whnf
             refine SeqG.mk Unit (fun y => [(4, .d (.list 1 (List.map (fun x => .int .u16 x) words1))), (5, .d (.ref (.agg [I b1.fLaw.fBase, I b1.fLaw.fPercent, I b1.fLaw.fCap, I b1.fLaw.fLeast, I b1.fLaw.fBlind, .list 1 (List.map I b1.fBowlers), .list 6 (List.map Ref07Sheet.enc b1.fSheets), .list 1 (List.map I b1.fWithdrawn)]))), (11, .d (I k6)), (12, .d (I w6)), (13, .sl 84 hd20), (14, .d (I games8)), (18, .ptr 18 b27 0), (20, .ptr 20 b29 0), (21, .i .i64 1), (22, .ptr 22 b291 0), (23, .d (I number1513)), (24, .d (I i88))]) (fun y => [(84, .arr hd20 3 1 true (List.map I l14)), (18, .cells b27 [.d (I ra26.fLo), .d (I ra26.fHi)]), (20, .cells b29 [.d (I told4.a0), .d (I told4.a1), .d (I told4.a2)]), (22, .cells b291 [.d (I b1.fLaw.fBase), .d (I b1.fLaw.fPercent), .d (I b1.fLaw.fCap), .d (I b1.fLaw.fLeast), .d (I b1.fLaw.fBlind), .d (.list 1 (List.map I b1.fBowlers)), .sl 109 hd769, .d (.list 1 (List.map I b1.fWithdrawn))]), (109, .arr hd769 68 6 false (List.map Ref07Sheet.enc l343))]) (fun _ => True) ?_ ?_
             ·conv => whnf
              refine LoopG.mk (Nat × Int) (fun y => [(4, .d (.list 1 (List.map (fun x => .int .u16 x) words1))), (5, .d (.ref (.agg [I b1.fLaw.fBase, I b1.fLaw.fPercent, I b1.fLaw.fCap, I b1.fLaw.fLeast, I b1.fLaw.fBlind, .list 1 (List.map I b1.fBowlers), .list 6 (List.map Ref07Sheet.enc b1.fSheets), .list 1 (List.map I b1.fWithdrawn)]))), (11, .d (I k6)), (12, .d (I w6)), (13, .sl 84 hd20), (14, .d (I games8)), (18, .ptr 18 b27 0), (20, .ptr 20 b29 0), (21, .i .i64 1), (22, .ptr 22 b291 0), (23, .d (I y.2)), (24, .d (I i88))]) (fun y => [(84, .arr hd20 3 1 true (List.map I l14)), (18, .cells b27 [.d (I ra26.fLo), .d (I ra26.fHi)]), (20, .cells b29 [.d (I told4.a0), .d (I told4.a1), .d (I told4.a2)]), (22, .cells b291 [.d (I b1.fLaw.fBase), .d (I b1.fLaw.fPercent), .d (I b1.fLaw.fCap), .d (I b1.fLaw.fLeast), .d (I b1.fLaw.fBlind), .d (.list 1 (List.map I b1.fBowlers)), .sl 109 hd769, .d (.list 1 (List.map I b1.fWithdrawn))]), (109, .arr hd769 68 6 false (List.map Ref07Sheet.enc l343))]) (fun y => loopN (fun rr x => law07RateUntold_b6 N b1 rr x) y.1 y.2 = some number1513) (fun y => y.1) (N, w64 (number1495 + 1)) hx10457 (Sub.eq rfl ?_ ?_) ?_
              ·repeat ((conv => whnf); refine Need.mk rfl ?_)
               exact trivial
              ·conv => whnf
               refine Need.mk (OLe.refl _) ?_
               conv => whnf
               refine Need.mk (OLe.refl _) ?_
               conv => whnf
               refine Need.mk (OLe.refl _) ?_
               conv => whnf
               refine Need.mk (OLe.refl _) ?_
               conv => whnf
               refine Need.mk (OLe.refl _) ?_
               exact trivial
              ·rintro ⟨n296, number1518⟩ hl288
               obtain ⟨n296, rfl, hl288⟩ := loopN_some hl288
               replace hl288 : law07RateUntold_b6 N b1 (loopN (fun rr x => law07RateUntold_b6 N b1 rr x) n296) number1518 = some number1513 := hl288
               rw [law07RateUntold_b6] at hl288
               obtain ⟨v1615, hx10485, hl288⟩ := obind hl288
               conv => whnf
               refine SeqG.mk Unit (fun y => [(4, .d (.list 1 (List.map (fun x => .int .u16 x) words1))), (5, .d (.ref (.agg [I b1.fLaw.fBase, I b1.fLaw.fPercent, I b1.fLaw.fCap, I b1.fLaw.fLeast, I b1.fLaw.fBlind, .list 1 (List.map I b1.fBowlers), .list 6 (List.map Ref07Sheet.enc b1.fSheets), .list 1 (List.map I b1.fWithdrawn)]))), (11, .d (I k6)), (12, .d (I w6)), (13, .sl 84 hd20), (14, .d (I games8)), (18, .ptr 18 b27 0), (20, .ptr 20 b29 0), (21, .i .i64 1), (22, .ptr 22 b291 0), (23, .d (I number1518)), (24, .d (I i88)), (130, .d (.bool v1615))]) (fun y => [(84, .arr hd20 3 1 true (List.map I l14)), (18, .cells b27 [.d (I ra26.fLo), .d (I ra26.fHi)]), (20, .cells b29 [.d (I told4.a0), .d (I told4.a1), .d (I told4.a2)]), (22, .cells b291 [.d (I b1.fLaw.fBase), .d (I b1.fLaw.fPercent), .d (I b1.fLaw.fCap), .d (I b1.fLaw.fLeast), .d (I b1.fLaw.fBlind), .d (.list 1 (List.map I b1.fBowlers)), .sl 109 hd769, .d (.list 1 (List.map I b1.fWithdrawn))]), (109, .arr hd769 68 6 false (List.map Ref07Sheet.enc l343))]) (fun _ => True) ?_ ?_
               ·obtain ⟨r6369, hx10486, hx10485⟩ := obind hx10485
                conv => whnf
                refine CallG.pure _ (ref07HasC hN hx10486) ?_
                conv => whnf
                refine Br.mk (fun hc5561 => ?_) (fun hc5561 => ?_)
                ·replace hx10485 := ite_f hc5561 hx10485
                 obtain ⟨r6370, hx10487, hx10485⟩ := obind hx10485
                 conv => whnf
                 refine CallG.pure _ (law07TakenC hN hx10487) ?_
                 cases hx10485
                 conv => whnf
                 refine ⟨(), trivial, Sub.eq rfl ?_ ?_⟩
                 ·repeat ((conv => whnf); refine Need.mk rfl ?_)
                  exact trivial
                 ·conv => whnf
                  refine Need.mk (OLe.refl _) ?_
                  conv => whnf
                  refine Need.mk (OLe.refl _) ?_
                  conv => whnf
                  refine Need.mk (OLe.refl _) ?_
                  conv => whnf
                  refine Need.mk (OLe.refl _) ?_
                  conv => whnf
                  refine Need.mk (OLe.refl _) ?_
                  exact trivial
                ·replace hx10485 := ite_t hc5561 hx10485
                 cases hx10485
                 conv => whnf
                 refine ⟨(), trivial, Sub.eq rfl ?_ ?_⟩
                 ·repeat ((conv => whnf); refine Need.mk rfl ?_)
                  exact trivial
                 ·conv => whnf
                  refine Need.mk (OLe.refl _) ?_
                  conv => whnf
                  refine Need.mk (OLe.refl _) ?_
                  conv => whnf
                  refine Need.mk (OLe.refl _) ?_
                  conv => whnf
                  refine Need.mk (OLe.refl _) ?_
                  conv => whnf
                  refine Need.mk (OLe.refl _) ?_
                  exact trivial
               ·rintro _ _
                conv => whnf
                refine Br.mk (fun hc5562 => ?_) (fun hc5562 => ?_)
                ·replace hl288 := ite_t hc5562 hl288
                 conv => whnf
                 refine ⟨(n296, w64 (number1518 + 1)), hl288, Sub.eq rfl ?_ ?_, Nat.lt_succ_self _⟩
                 ·repeat ((conv => whnf); refine Need.mk rfl ?_)
                  exact trivial
                 ·conv => whnf
                  refine Need.mk (OLe.refl _) ?_
                  conv => whnf
                  refine Need.mk (OLe.refl _) ?_
                  conv => whnf
                  refine Need.mk (OLe.refl _) ?_
                  conv => whnf
                  refine Need.mk (OLe.refl _) ?_
                  conv => whnf
                  refine Need.mk (OLe.refl _) ?_
                  exact trivial
                ·replace hl288 := ite_f hc5562 hl288
                 cases hl288
                 conv => whnf
                 refine ⟨(), trivial, Sub.eq rfl ?_ ?_⟩
                 ·repeat ((conv => whnf); refine Need.mk rfl ?_)
                  exact trivial
                 ·conv => whnf
                  refine Need.mk (OLe.refl _) ?_
                  conv => whnf
                  refine Need.mk (OLe.refl _) ?_
                  conv => whnf
                  refine Need.mk (OLe.refl _) ?_
                  conv => whnf
                  refine Need.mk (OLe.refl _) ?_
                  conv => whnf
                  refine Need.mk (OLe.refl _) ?_
                  exact trivial
             ·rintro _ _
              conv => whnf
              intro b315
              conv => whnf
              refine LoopG.unr 4 ?_
              obtain ⟨_, hx10491, hx10426⟩ := obind hx10426
              conv => whnf
              refine SeqG.mk Unit (fun y => [(4, .d (.list 1 (List.map (fun x => .int .u16 x) words1))), (5, .d (.ref (.agg [I b1.fLaw.fBase, I b1.fLaw.fPercent, I b1.fLaw.fCap, I b1.fLaw.fLeast, I b1.fLaw.fBlind, .list 1 (List.map I b1.fBowlers), .list 6 (List.map Ref07Sheet.enc b1.fSheets), .list 1 (List.map I b1.fWithdrawn)]))), (11, .d (I k6)), (12, .d (I w6)), (13, .sl 84 hd20), (14, .d (I games8)), (18, .ptr 18 b27 0), (20, .ptr 20 b29 0), (21, .i .i64 1), (22, .ptr 22 b291 0), (23, .d (I number1513)), (24, .d (I i88)), (25, .ptr 25 b315 0), (26, .i .i64 0)]) (fun y => [(84, .arr hd20 3 1 true (List.map I l14)), (18, .cells b27 [.d (I ra26.fLo), .d (I ra26.fHi)]), (20, .cells b29 [.d (I told4.a0), .d (I told4.a1), .d (I told4.a2)]), (22, .cells b291 [.d (I b1.fLaw.fBase), .d (I b1.fLaw.fPercent), .d (I b1.fLaw.fCap), .d (I b1.fLaw.fLeast), .d (I b1.fLaw.fBlind), .d (.list 1 (List.map I b1.fBowlers)), .sl 109 hd769, .d (.list 1 (List.map I b1.fWithdrawn))]), (25, .cells b315 [.d (I 300), .d (I 0), .d (I 0)]), (109, .arr hd769 68 6 false (List.map Ref07Sheet.enc l343))]) (fun _ => True) ?_ ?_
              ·conv => whnf
               refine IxG.mk 0 rfl (by decide) ?_
               conv => whnf
               refine Side.mk rfl ?_
               conv => whnf
               refine ⟨(), trivial, Sub.eq rfl ?_ ?_⟩
               ·repeat ((conv => whnf); refine Need.mk rfl ?_)
                exact trivial
               ·conv => whnf
                refine Need.mk (OLe.refl _) ?_
                conv => whnf
                refine Need.mk (OLe.refl _) ?_
                conv => whnf
                refine Need.mk (OLe.refl _) ?_
                conv => whnf
                refine Need.mk (OLe.refl _) ?_
                conv => whnf
                refine Need.mk (OLe.refl _) ?_
                conv => whnf
                refine Need.mk (OLe.refl _) ?_
                exact trivial
              ·rintro _ _
               obtain ⟨_, hx10492, hx10426⟩ := obind hx10426
               conv => whnf
               refine SeqG.mk Unit (fun y => [(4, .d (.list 1 (List.map (fun x => .int .u16 x) words1))), (5, .d (.ref (.agg [I b1.fLaw.fBase, I b1.fLaw.fPercent, I b1.fLaw.fCap, I b1.fLaw.fLeast, I b1.fLaw.fBlind, .list 1 (List.map I b1.fBowlers), .list 6 (List.map Ref07Sheet.enc b1.fSheets), .list 1 (List.map I b1.fWithdrawn)]))), (11, .d (I k6)), (12, .d (I w6)), (13, .sl 84 hd20), (14, .d (I games8)), (18, .ptr 18 b27 0), (20, .ptr 20 b29 0), (21, .i .i64 1), (22, .ptr 22 b291 0), (23, .d (I number1513)), (24, .d (I i88)), (25, .ptr 25 b315 0), (26, .i .i64 1)]) (fun y => [(84, .arr hd20 3 1 true (List.map I l14)), (18, .cells b27 [.d (I ra26.fLo), .d (I ra26.fHi)]), (20, .cells b29 [.d (I told4.a0), .d (I told4.a1), .d (I told4.a2)]), (22, .cells b291 [.d (I b1.fLaw.fBase), .d (I b1.fLaw.fPercent), .d (I b1.fLaw.fCap), .d (I b1.fLaw.fLeast), .d (I b1.fLaw.fBlind), .d (.list 1 (List.map I b1.fBowlers)), .sl 109 hd769, .d (.list 1 (List.map I b1.fWithdrawn))]), (25, .cells b315 [.d (I 300), .d (I 300), .d (I 0)]), (109, .arr hd769 68 6 false (List.map Ref07Sheet.enc l343))]) (fun _ => True) ?_ ?_
               ·conv => whnf
                refine IxG.mk 1 rfl (by decide) ?_
                conv => whnf
                refine Side.mk rfl ?_
                conv => whnf
                refine ⟨(), trivial, Sub.eq rfl ?_ ?_⟩
                ·repeat ((conv => whnf); refine Need.mk rfl ?_)
                 exact trivial
                ·conv => whnf
                 refine Need.mk (OLe.refl _) ?_
                 conv => whnf
                 refine Need.mk (OLe.refl _) ?_
                 conv => whnf
                 refine Need.mk (OLe.refl _) ?_
                 conv => whnf
                 refine Need.mk (OLe.refl _) ?_
                 conv => whnf
                 refine Need.mk (OLe.refl _) ?_
                 conv => whnf
                 refine Need.mk (OLe.refl _) ?_
                 exact trivial
               ·rintro _ _
                obtain ⟨_, hx10493, hx10426⟩ := obind hx10426
                conv => whnf
                refine SeqG.mk Unit (fun y => [(4, .d (.list 1 (List.map (fun x => .int .u16 x) words1))), (5, .d (.ref (.agg [I b1.fLaw.fBase, I b1.fLaw.fPercent, I b1.fLaw.fCap, I b1.fLaw.fLeast, I b1.fLaw.fBlind, .list 1 (List.map I b1.fBowlers), .list 6 (List.map Ref07Sheet.enc b1.fSheets), .list 1 (List.map I b1.fWithdrawn)]))), (11, .d (I k6)), (12, .d (I w6)), (13, .sl 84 hd20), (14, .d (I games8)), (18, .ptr 18 b27 0), (20, .ptr 20 b29 0), (21, .i .i64 1), (22, .ptr 22 b291 0), (23, .d (I number1513)), (24, .d (I i88)), (25, .ptr 25 b315 0), (26, .i .i64 2)]) (fun y => [(84, .arr hd20 3 1 true (List.map I l14)), (18, .cells b27 [.d (I ra26.fLo), .d (I ra26.fHi)]), (20, .cells b29 [.d (I told4.a0), .d (I told4.a1), .d (I told4.a2)]), (22, .cells b291 [.d (I b1.fLaw.fBase), .d (I b1.fLaw.fPercent), .d (I b1.fLaw.fCap), .d (I b1.fLaw.fLeast), .d (I b1.fLaw.fBlind), .d (.list 1 (List.map I b1.fBowlers)), .sl 109 hd769, .d (.list 1 (List.map I b1.fWithdrawn))]), (25, .cells b315 [.d (I 300), .d (I 300), .d (I 300)]), (109, .arr hd769 68 6 false (List.map Ref07Sheet.enc l343))]) (fun _ => True) ?_ ?_
                ·conv => whnf
                 refine IxG.mk 2 rfl (by decide) ?_
                 conv => whnf
                 refine Side.mk rfl ?_
                 conv => whnf
                 refine ⟨(), trivial, Sub.eq rfl ?_ ?_⟩
                 ·repeat ((conv => whnf); refine Need.mk rfl ?_)
                  exact trivial
                 ·conv => whnf
                  refine Need.mk (OLe.refl _) ?_
                  conv => whnf
                  refine Need.mk (OLe.refl _) ?_
                  conv => whnf
                  refine Need.mk (OLe.refl _) ?_
                  conv => whnf
                  refine Need.mk (OLe.refl _) ?_
                  conv => whnf
                  refine Need.mk (OLe.refl _) ?_
                  conv => whnf
                  refine Need.mk (OLe.refl _) ?_
                  exact trivial
                ·rintro _ _
                 obtain ⟨x708, hx10494, hx10426⟩ := obind hx10426
                 obtain ⟨l346, hx10495, hx10426⟩ := obind hx10426
                 conv => whnf
                 refine DrawG.mk (.take 0 (.take 1 (.take 2 (.take 3 (.take 4 (.take 5 (.take 6 (.take 7 (.take 8 (.alt 9 [6, 5, 4, 1, 0] (.alt 10 [6, 5, 4, 1, 0] (.alt 11 [6, 5, 4, 0] (.take 12 (.alt 13 [] .done .nil)) .nil) .nil) .nil)))))))))) (by kernel_rfl) ?_
                 conv => whnf
                 refine Side.mk rfl ?_
                 conv => whnf
                 refine Side.mk ⟨rfl, rfl⟩ (Need.mk (idx_need _ hx10494) ?_)
                 conv => whnf
                 refine Side.mk ⟨rfl, rfl⟩ ⟨_, Int.natCast_nonneg _, idx_el _ hx10494, ?_⟩
                 conv => whnf
                 refine Side.mk rfl ?_
                 conv => whnf
                 refine Both.mk ?_ trivial
                 conv => whnf
                 refine Side.mk ⟨rfl, rfl⟩ (Need.mk (idx_need _ hx10494) ?_)
                 conv => whnf
                 refine Need.mk (AV.le_refl _) ?_
                 conv => whnf
                 refine Need.mk (AV.le_refl _) ?_
                 conv => whnf
                 refine Need.mk (AV.le_refl _) ?_
                 conv => whnf
                 refine Side.mk rfl ?_
                 conv => whnf
                 refine Need.mk (AV.le_refl _) ?_
                 conv => whnf
                 refine Need.mk (AV.le_refl _) ?_
                 conv => whnf
                 refine Both.mk ?_ trivial
                 conv => whnf
                 intro hd777
                 conv => whnf
                 refine Side.mk ⟨rfl, rfl⟩ (Need.mk (idx_need _ hx10494) ?_)
                 conv => whnf
                 refine Need.mk (AV.le_refl _) ?_
                 conv => whnf
                 refine Need.mk (AV.le_refl _) ?_
                 conv => whnf
                 refine Need.mk (AV.le_refl _) ?_
                 conv => whnf
                 refine Side.mk rfl ?_
                 conv => whnf
                 refine Need.mk (AV.le_refl _) ?_
                 conv => whnf
                 refine Need.mk (AV.le_refl _) ?_
                 conv => whnf
                 refine Both.mk ?_ trivial
                 conv => whnf
                 refine Side.mk ⟨rfl, rfl⟩ ?_
                 conv => whnf
                 refine Side.mk ⟨rfl, rfl, rfl⟩ (Need.mk (app_need hN hx10495 (by decide)) (Eqv.mk (List.map Ref07Sheet.enc l346) (app_map _ hx10495) ?_))
                 conv => whnf
                 intro hd778
                 conv => whnf
                 refine Side.mk ⟨rfl, rfl⟩ (Need.mk (idx_need _ hx10494) ?_)
                 conv => whnf
                 refine Need.mk (AV.le_refl _) ?_
                 conv => whnf
                 refine Need.mk (AV.le_refl _) ?_
                 conv => whnf
                 refine Need.mk (AV.le_refl _) ?_
                 conv => whnf
                 refine Need.mk (AV.le_refl _) ?_
                 conv => whnf
                 refine Both.mk ?_ trivial
                 conv => whnf
                 refine Side.mk rfl ?_
                 cases hx10426
                 conv => whnf
                 refine ⟨hd778, trivial, Sub.eq rfl ?_ ?_⟩
                 ·repeat ((conv => whnf); refine Need.mk rfl ?_)
                  exact trivial
                 ·conv => whnf
                  refine Need.mk (OLe.refl _) ?_
                  conv => whnf
                  refine Need.mk (OLe.refl _) ?_
                  conv => whnf
                  refine Need.mk (OLe.refl _) ?_
                  conv => whnf
                  refine Need.mk (OLe.refl _) ?_
                  conv => whnf
                  refine Need.mk (OLe.refl _) ?_
                  exact trivial
            ·rintro hd774 _
             conv => whnf
             refine ⟨(n292, (number1507, w64 (i88 + 1), l345), hd774), hl284, Sub.eq rfl ?_ ?_, Nat.lt_succ_self _⟩
             ·repeat ((conv => whnf); refine Need.mk rfl ?_)
              exact trivial
             ·conv => whnf
              refine Need.mk (OLe.refl _) ?_
              conv => whnf
              refine Need.mk (OLe.refl _) ?_
              conv => whnf
              refine Need.mk (OLe.refl _) ?_
              conv => whnf
              refine Need.mk (OLe.refl _) ?_
              conv => whnf
              refine Need.mk (OLe.refl _) ?_
              exact trivial
           ·replace hl284 := ite_f hc5490 hl284
            cases hl284
            conv => whnf
            refine ⟨hd769, trivial, Sub.eq rfl ?_ ?_⟩
            ·repeat ((conv => whnf); refine Need.mk rfl ?_)
             exact trivial
            ·conv => whnf
             refine Need.mk (OLe.refl _) ?_
             conv => whnf
             refine Need.mk (OLe.refl _) ?_
             conv => whnf
             refine Need.mk (OLe.refl _) ?_
             conv => whnf
             refine Need.mk (OLe.refl _) ?_
             conv => whnf
             refine Need.mk (OLe.refl _) ?_
             exact trivial
         ·rintro hd747 _
          conv => whnf
          refine Side.mk rfl ?_
          obtain ⟨r6372, hx10498, h⟩ := obind h
          conv => whnf
          refine Side.mk rfl ?_
          conv => whnf
          refine CallG.pure _ (law07BookC hN hx10498) ?_
          obtain ⟨⟨ra48, rb48⟩, hx10499, h⟩ := obind h
          conv => whnf
          refine CallG.pure _ (rateAverageC hN hx10499) ?_
          conv => whnf
          refine Br.mk (fun hc5564 => ?_) (fun hc5564 => ?_)
          ·replace h := ite_t hc5564 h
           conv => whnf
           cases h
           exact rfl
          ·replace h := ite_f hc5564 h
           conv => whnf
           refine IxG.mk 1 rfl (by decide) ?_
           conv => whnf
           refine Side.mk rfl ?_
           conv => whnf
           refine ⟨(Ar3.mk told4.a0 ra48 told4.a2), h, Sub.eq rfl ?_ ?_⟩
           ·repeat ((conv => whnf); refine Need.mk rfl ?_)
            exact trivial
           ·conv => whnf
            refine Need.mk (OLe.refl _) ?_
            conv => whnf
            refine Need.mk (OLe.refl _) ?_
            conv => whnf
            refine Need.mk (OLe.refl _) ?_
            exact trivial
        ·clear h
         rintro told5 h
         unfold law07RateUntold_k5 at h
         conv => whnf
         refine SeqG.mk (Ar3 Int) (fun y => [(4, .d (.list 1 (List.map (fun x => .int .u16 x) words1))), (5, .d (.ref (.agg [I b1.fLaw.fBase, I b1.fLaw.fPercent, I b1.fLaw.fCap, I b1.fLaw.fLeast, I b1.fLaw.fBlind, .list 1 (List.map I b1.fBowlers), .list 6 (List.map Ref07Sheet.enc b1.fSheets), .list 1 (List.map I b1.fWithdrawn)]))), (11, .d (I k6)), (12, .d (I w6)), (13, .sl 84 hd20), (14, .d (I games8)), (18, .ptr 18 b27 0), (20, .ptr 20 b29 0), (21, .i .i64 2)]) (fun y => [(84, .arr hd20 3 1 true (List.map I l14)), (18, .cells b27 [.d (I ra26.fLo), .d (I ra26.fHi)]), (20, .cells b29 [.d (I y.a0), .d (I y.a1), .d (I y.a2)])]) (fun y => law07RateUntold_k2 N b1 games8 l14 ra26 y = some r) ?_ ?_
         ·conv => whnf
          intro b265
          conv => whnf
          refine Side.mk rfl ?_
          conv => whnf
          intro hd647
          obtain ⟨l290, hx8531, h⟩ := obind h
          conv => whnf
          refine Side.mk rfl ?_
          conv => whnf
          refine Side.mk ⟨rfl, rfl, rfl⟩ (Need.mk (app_need hN hx8531 (by decide)) (Eqv.mk (List.map Ref07Sheet.enc l290) (app_map _ hx8531) ?_))
          conv => whnf
          intro hd648
          conv => whnf
          refine Side.mk rfl ?_
          obtain ⟨l304, hx9093, h⟩ := obind h
          conv => whnf
          refine SeqG.mk Value (fun y => [(4, .d (.list 1 (List.map (fun x => .int .u16 x) words1))), (5, .d (.ref (.agg [I b1.fLaw.fBase, I b1.fLaw.fPercent, I b1.fLaw.fCap, I b1.fLaw.fLeast, I b1.fLaw.fBlind, .list 1 (List.map I b1.fBowlers), .list 6 (List.map Ref07Sheet.enc b1.fSheets), .list 1 (List.map I b1.fWithdrawn)]))), (11, .d (I k6)), (12, .d (I w6)), (13, .sl 84 hd20), (14, .d (I games8)), (18, .ptr 18 b27 0), (20, .ptr 20 b29 0), (21, .i .i64 2), (22, .ptr 22 b265 0)]) (fun y => [(84, .arr hd20 3 1 true (List.map I l14)), (18, .cells b27 [.d (I ra26.fLo), .d (I ra26.fHi)]), (20, .cells b29 [.d (I told5.a0), .d (I told5.a1), .d (I told5.a2)]), (22, .cells b265 [.d (I b1.fLaw.fBase), .d (I b1.fLaw.fPercent), .d (I b1.fLaw.fCap), .d (I b1.fLaw.fLeast), .d (I b1.fLaw.fBlind), .d (.list 1 (List.map I b1.fBowlers)), .sl 109 y, .d (.list 1 (List.map I b1.fWithdrawn))]), (109, .arr y 68 6 false (List.map Ref07Sheet.enc l304))]) (fun _ => True) ?_ ?_
          ·conv => whnf
           refine LoopG.mk (Nat × (Int × Int × (List Ref07Sheet)) × Value) (fun y => [(4, .d (.list 1 (List.map (fun x => .int .u16 x) words1))), (5, .d (.ref (.agg [I b1.fLaw.fBase, I b1.fLaw.fPercent, I b1.fLaw.fCap, I b1.fLaw.fLeast, I b1.fLaw.fBlind, .list 1 (List.map I b1.fBowlers), .list 6 (List.map Ref07Sheet.enc b1.fSheets), .list 1 (List.map I b1.fWithdrawn)]))), (11, .d (I k6)), (12, .d (I w6)), (13, .sl 84 hd20), (14, .d (I games8)), (18, .ptr 18 b27 0), (20, .ptr 20 b29 0), (21, .i .i64 2), (22, .ptr 22 b265 0), (23, .d (I y.2.1.1)), (24, .d (I y.2.1.2.1))]) (fun y => [(84, .arr hd20 3 1 true (List.map I l14)), (18, .cells b27 [.d (I ra26.fLo), .d (I ra26.fHi)]), (20, .cells b29 [.d (I told5.a0), .d (I told5.a1), .d (I told5.a2)]), (22, .cells b265 [.d (I b1.fLaw.fBase), .d (I b1.fLaw.fPercent), .d (I b1.fLaw.fCap), .d (I b1.fLaw.fLeast), .d (I b1.fLaw.fBlind), .d (.list 1 (List.map I b1.fBowlers)), .sl 109 y.2.2, .d (.list 1 (List.map I b1.fWithdrawn))]), (109, .arr y.2.2 68 6 false (List.map Ref07Sheet.enc y.2.1.2.2))]) (fun y => loopN (fun rr x => law07RateUntold_b4 N b1 words1 k6 l14 rr x.1 x.2.1 x.2.2) y.1 y.2.1 = some l304) (fun y => y.1) (N, (0, 0, l290), hd648) hx9093 (Sub.eq rfl ?_ ?_) ?_
           ·repeat ((conv => whnf); refine Need.mk rfl ?_)
            exact trivial
           ·conv => whnf
            refine Need.mk (OLe.refl _) ?_
            conv => whnf
            refine Need.mk (OLe.refl _) ?_
            conv => whnf
            refine Need.mk (OLe.refl _) ?_
            conv => whnf
            refine Need.mk (OLe.refl _) ?_
            conv => whnf
            refine Need.mk (OLe.refl _) ?_
            exact trivial
           ·rintro ⟨n266, ⟨number1357, i80, l314⟩, hd702⟩ hl258
            obtain ⟨n266, rfl, hl258⟩ := loopN_some hl258
            replace hl258 : law07RateUntold_b4 N b1 words1 k6 l14 (loopN (fun rr x => law07RateUntold_b4 N b1 words1 k6 l14 rr x.1 x.2.1 x.2.2) n266) number1357 i80 l314 = some l304 := hl258
            rw [law07RateUntold_b4] at hl258
            conv => whnf
            refine Side.mk rfl (LnA.mk _ (List.length_map _) ?_)
            conv => whnf
            refine Br.mk (fun hc5020 => ?_) (fun hc5020 => ?_)
            ·replace hl258 := ite_t hc5020 hl258
             obtain ⟨⟨number1369, l316⟩, hx9561, hl258⟩ := obind hl258
             conv => whnf
             refine SeqG.mk Value (fun y => [(4, .d (.list 1 (List.map (fun x => .int .u16 x) words1))), (5, .d (.ref (.agg [I b1.fLaw.fBase, I b1.fLaw.fPercent, I b1.fLaw.fCap, I b1.fLaw.fLeast, I b1.fLaw.fBlind, .list 1 (List.map I b1.fBowlers), .list 6 (List.map Ref07Sheet.enc b1.fSheets), .list 1 (List.map I b1.fWithdrawn)]))), (11, .d (I k6)), (12, .d (I w6)), (13, .sl 84 hd20), (14, .d (I games8)), (18, .ptr 18 b27 0), (20, .ptr 20 b29 0), (21, .i .i64 2), (22, .ptr 22 b265 0), (23, .d (I number1369)), (24, .d (I i80))]) (fun y => [(84, .arr hd20 3 1 true (List.map I l14)), (18, .cells b27 [.d (I ra26.fLo), .d (I ra26.fHi)]), (20, .cells b29 [.d (I told5.a0), .d (I told5.a1), .d (I told5.a2)]), (22, .cells b265 [.d (I b1.fLaw.fBase), .d (I b1.fLaw.fPercent), .d (I b1.fLaw.fCap), .d (I b1.fLaw.fLeast), .d (I b1.fLaw.fBlind), .d (.list 1 (List.map I b1.fBowlers)), .sl 109 y, .d (.list 1 (List.map I b1.fWithdrawn))]), (109, .arr y 68 6 false (List.map Ref07Sheet.enc l316))]) (fun _ => True) ?_ ?_
             ·obtain ⟨number1375, hx9592, hx9561⟩ := obind hx9561
              conv => whnf
              refine SeqG.mk Unit (fun y => [(4, .d (.list 1 (List.map (fun x => .int .u16 x) words1))), (5, .d (.ref (.agg [I b1.fLaw.fBase, I b1.fLaw.fPercent, I b1.fLaw.fCap, I b1.fLaw.fLeast, I b1.fLaw.fBlind, .list 1 (List.map I b1.fBowlers), .list 6 (List.map Ref07Sheet.enc b1.fSheets), .list 1 (List.map I b1.fWithdrawn)]))), (11, .d (I k6)), (12, .d (I w6)), (13, .sl 84 hd20), (14, .d (I games8)), (18, .ptr 18 b27 0), (20, .ptr 20 b29 0), (21, .i .i64 2), (22, .ptr 22 b265 0), (23, .d (I number1375)), (24, .d (I i80))]) (fun y => [(84, .arr hd20 3 1 true (List.map I l14)), (18, .cells b27 [.d (I ra26.fLo), .d (I ra26.fHi)]), (20, .cells b29 [.d (I told5.a0), .d (I told5.a1), .d (I told5.a2)]), (22, .cells b265 [.d (I b1.fLaw.fBase), .d (I b1.fLaw.fPercent), .d (I b1.fLaw.fCap), .d (I b1.fLaw.fLeast), .d (I b1.fLaw.fBlind), .d (.list 1 (List.map I b1.fBowlers)), .sl 109 hd702, .d (.list 1 (List.map I b1.fWithdrawn))]), (109, .arr hd702 68 6 false (List.map Ref07Sheet.enc l314))]) (fun _ => True) ?_ ?_
              ·conv => whnf
               refine LoopG.mk (Nat × Int) (fun y => [(4, .d (.list 1 (List.map (fun x => .int .u16 x) words1))), (5, .d (.ref (.agg [I b1.fLaw.fBase, I b1.fLaw.fPercent, I b1.fLaw.fCap, I b1.fLaw.fLeast, I b1.fLaw.fBlind, .list 1 (List.map I b1.fBowlers), .list 6 (List.map Ref07Sheet.enc b1.fSheets), .list 1 (List.map I b1.fWithdrawn)]))), (11, .d (I k6)), (12, .d (I w6)), (13, .sl 84 hd20), (14, .d (I games8)), (18, .ptr 18 b27 0), (20, .ptr 20 b29 0), (21, .i .i64 2), (22, .ptr 22 b265 0), (23, .d (I y.2)), (24, .d (I i80))]) (fun y => [(84, .arr hd20 3 1 true (List.map I l14)), (18, .cells b27 [.d (I ra26.fLo), .d (I ra26.fHi)]), (20, .cells b29 [.d (I told5.a0), .d (I told5.a1), .d (I told5.a2)]), (22, .cells b265 [.d (I b1.fLaw.fBase), .d (I b1.fLaw.fPercent), .d (I b1.fLaw.fCap), .d (I b1.fLaw.fLeast), .d (I b1.fLaw.fBlind), .d (.list 1 (List.map I b1.fBowlers)), .sl 109 hd702, .d (.list 1 (List.map I b1.fWithdrawn))]), (109, .arr hd702 68 6 false (List.map Ref07Sheet.enc l314))]) (fun y => loopN (fun rr x => law07RateUntold_b3 N b1 rr x) y.1 y.2 = some number1375) (fun y => y.1) (N, w64 (number1357 + 1)) hx9592 (Sub.eq rfl ?_ ?_) ?_
               ·repeat ((conv => whnf); refine Need.mk rfl ?_)
                exact trivial
               ·conv => whnf
                refine Need.mk (OLe.refl _) ?_
                conv => whnf
                refine Need.mk (OLe.refl _) ?_
                conv => whnf
                refine Need.mk (OLe.refl _) ?_
                conv => whnf
                refine Need.mk (OLe.refl _) ?_
                conv => whnf
                refine Need.mk (OLe.refl _) ?_
                exact trivial
               ·rintro ⟨n270, number1380⟩ hl262
                obtain ⟨n270, rfl, hl262⟩ := loopN_some hl262
                replace hl262 : law07RateUntold_b3 N b1 (loopN (fun rr x => law07RateUntold_b3 N b1 rr x) n270) number1380 = some number1375 := hl262
                rw [law07RateUntold_b3] at hl262
                obtain ⟨v1471, hx9620, hl262⟩ := obind hl262
                conv => whnf
                refine SeqG.mk Unit (fun y => [(4, .d (.list 1 (List.map (fun x => .int .u16 x) words1))), (5, .d (.ref (.agg [I b1.fLaw.fBase, I b1.fLaw.fPercent, I b1.fLaw.fCap, I b1.fLaw.fLeast, I b1.fLaw.fBlind, .list 1 (List.map I b1.fBowlers), .list 6 (List.map Ref07Sheet.enc b1.fSheets), .list 1 (List.map I b1.fWithdrawn)]))), (11, .d (I k6)), (12, .d (I w6)), (13, .sl 84 hd20), (14, .d (I games8)), (18, .ptr 18 b27 0), (20, .ptr 20 b29 0), (21, .i .i64 2), (22, .ptr 22 b265 0), (23, .d (I number1380)), (24, .d (I i80)), (130, .d (.bool v1471))]) (fun y => [(84, .arr hd20 3 1 true (List.map I l14)), (18, .cells b27 [.d (I ra26.fLo), .d (I ra26.fHi)]), (20, .cells b29 [.d (I told5.a0), .d (I told5.a1), .d (I told5.a2)]), (22, .cells b265 [.d (I b1.fLaw.fBase), .d (I b1.fLaw.fPercent), .d (I b1.fLaw.fCap), .d (I b1.fLaw.fLeast), .d (I b1.fLaw.fBlind), .d (.list 1 (List.map I b1.fBowlers)), .sl 109 hd702, .d (.list 1 (List.map I b1.fWithdrawn))]), (109, .arr hd702 68 6 false (List.map Ref07Sheet.enc l314))]) (fun _ => True) ?_ ?_
                ·obtain ⟨r5791, hx9621, hx9620⟩ := obind hx9620
                 conv => whnf
                 refine CallG.pure _ (ref07HasC hN hx9621) ?_
                 conv => whnf
                 refine Br.mk (fun hc5103 => ?_) (fun hc5103 => ?_)
                 ·replace hx9620 := ite_f hc5103 hx9620
                  obtain ⟨r5792, hx9622, hx9620⟩ := obind hx9620
                  conv => whnf
                  refine CallG.pure _ (law07TakenC hN hx9622) ?_
                  cases hx9620
                  conv => whnf
                  refine ⟨(), trivial, Sub.eq rfl ?_ ?_⟩
                  ·repeat ((conv => whnf); refine Need.mk rfl ?_)
                   exact trivial
                  ·conv => whnf
                   refine Need.mk (OLe.refl _) ?_
                   conv => whnf
                   refine Need.mk (OLe.refl _) ?_
                   conv => whnf
                   refine Need.mk (OLe.refl _) ?_
                   conv => whnf
                   refine Need.mk (OLe.refl _) ?_
                   conv => whnf
                   refine Need.mk (OLe.refl _) ?_
                   exact trivial
                 ·replace hx9620 := ite_t hc5103 hx9620
                  cases hx9620
                  conv => whnf
                  refine ⟨(), trivial, Sub.eq rfl ?_ ?_⟩
                  ·repeat ((conv => whnf); refine Need.mk rfl ?_)
                   exact trivial
                  ·conv => whnf
                   refine Need.mk (OLe.refl _) ?_
                   conv => whnf
                   refine Need.mk (OLe.refl _) ?_
                   conv => whnf
                   refine Need.mk (OLe.refl _) ?_
                   conv => whnf
                   refine Need.mk (OLe.refl _) ?_
                   conv => whnf
                   refine Need.mk (OLe.refl _) ?_
                   exact trivial
                ·rintro _ _
                 conv => whnf
                 refine Br.mk (fun hc5104 => ?_) (fun hc5104 => ?_)
                 ·replace hl262 := ite_t hc5104 hl262
                  conv => whnf
                  refine ⟨(n270, w64 (number1380 + 1)), hl262, Sub.eq rfl ?_ ?_, Nat.lt_succ_self _⟩
                  ·repeat ((conv => whnf); refine Need.mk rfl ?_)
                   exact trivial
                  ·conv => whnf
                   refine Need.mk (OLe.refl _) ?_
                   conv => whnf
                   refine Need.mk (OLe.refl _) ?_
                   conv => whnf
                   refine Need.mk (OLe.refl _) ?_
                   conv => whnf
                   refine Need.mk (OLe.refl _) ?_
                   conv => whnf
                   refine Need.mk (OLe.refl _) ?_
                   exact trivial
                 ·replace hl262 := ite_f hc5104 hl262
                  cases hl262
                  conv => whnf
                  refine ⟨(), trivial, Sub.eq rfl ?_ ?_⟩
                  ·repeat ((conv => whnf); refine Need.mk rfl ?_)
                   exact trivial
                  ·conv => whnf
                   refine Need.mk (OLe.refl _) ?_
                   conv => whnf
                   refine Need.mk (OLe.refl _) ?_
                   conv => whnf
                   refine Need.mk (OLe.refl _) ?_
                   conv => whnf
                   refine Need.mk (OLe.refl _) ?_
                   conv => whnf
                   refine Need.mk (OLe.refl _) ?_
                   exact trivial
              ·rintro _ _
               conv => whnf
               intro b289
               conv => whnf
               refine LoopG.unr 4 ?_
               obtain ⟨g286, hx9640, hx9561⟩ := obind hx9561
               conv => whnf
               refine SeqG.mk Unit (fun y => [(4, .d (.list 1 (List.map (fun x => .int .u16 x) words1))), (5, .d (.ref (.agg [I b1.fLaw.fBase, I b1.fLaw.fPercent, I b1.fLaw.fCap, I b1.fLaw.fLeast, I b1.fLaw.fBlind, .list 1 (List.map I b1.fBowlers), .list 6 (List.map Ref07Sheet.enc b1.fSheets), .list 1 (List.map I b1.fWithdrawn)]))), (11, .d (I k6)), (12, .d (I w6)), (13, .sl 84 hd20), (14, .d (I games8)), (18, .ptr 18 b27 0), (20, .ptr 20 b29 0), (21, .i .i64 2), (22, .ptr 22 b265 0), (23, .d (I number1375)), (24, .d (I i80)), (25, .ptr 25 b289 0), (26, .i .i64 0)]) (fun y => [(84, .arr hd20 3 1 true (List.map I l14)), (18, .cells b27 [.d (I ra26.fLo), .d (I ra26.fHi)]), (20, .cells b29 [.d (I told5.a0), .d (I told5.a1), .d (I told5.a2)]), (22, .cells b265 [.d (I b1.fLaw.fBase), .d (I b1.fLaw.fPercent), .d (I b1.fLaw.fCap), .d (I b1.fLaw.fLeast), .d (I b1.fLaw.fBlind), .d (.list 1 (List.map I b1.fBowlers)), .sl 109 hd702, .d (.list 1 (List.map I b1.fWithdrawn))]), (25, .cells b289 [.d (I g286.a0), .d (I g286.a1), .d (I g286.a2)]), (109, .arr hd702 68 6 false (List.map Ref07Sheet.enc l314))]) (fun _ => True) ?_ ?_
               ·conv => whnf
                refine IxG.mk 0 rfl (by decide) ?_
                conv => whnf
                refine Side.mk rfl ?_
                conv => whnf
                refine IxG.mk 0 rfl (by decide) ?_
                conv => whnf
                refine Side.mk rfl ?_
                conv => whnf
                refine LnA.mk _ (List.length_map _) ?_
                conv => whnf
                refine Br.mk (fun hc5112 => ?_) (fun hc5112 => ?_)
                ·replace hx9640 := ite_t hc5112 hx9640
                 conv => whnf
                 refine LnA.mk _ (List.length_map _) ?_
                 obtain ⟨_, hx9641, hx9640⟩ := obind hx9640
                 conv => whnf
                 refine Need.mk (nz_ne hx9641) ?_
                 obtain ⟨x691, hx9642, hx9640⟩ := obind hx9640
                 conv => whnf
                 refine Side.mk rfl ⟨_, idx_0 hx9642, idx_map _ hx9642, ?_⟩
                 conv => whnf
                 refine Need.mk (by decide) ?_
                 conv => whnf
                 refine IxG.mk 0 rfl (by decide) ?_
                 conv => whnf
                 refine Side.mk rfl ?_
                 cases hx9640
                 conv => whnf
                 refine ⟨(), trivial, Sub.eq rfl ?_ ?_⟩
                 ·repeat ((conv => whnf); refine Need.mk rfl ?_)
                  exact trivial
                 ·conv => whnf
                  refine Need.mk (OLe.refl _) ?_
                  conv => whnf
                  refine Need.mk (OLe.refl _) ?_
                  conv => whnf
                  refine Need.mk (OLe.refl _) ?_
                  conv => whnf
                  refine Need.mk (OLe.refl _) ?_
                  conv => whnf
                  refine Need.mk (OLe.refl _) ?_
                  conv => whnf
                  refine Need.mk (OLe.refl _) ?_
                  exact trivial
                ·replace hx9640 := ite_f hc5112 hx9640
                 cases hx9640
                 conv => whnf
                 refine ⟨(), trivial, Sub.eq rfl ?_ ?_⟩
                 ·repeat ((conv => whnf); refine Need.mk rfl ?_)
                  exact trivial
                 ·conv => whnf
                  refine Need.mk (OLe.refl _) ?_
                  conv => whnf
                  refine Need.mk (OLe.refl _) ?_
                  conv => whnf
                  refine Need.mk (OLe.refl _) ?_
                  conv => whnf
                  refine Need.mk (OLe.refl _) ?_
                  conv => whnf
                  refine Need.mk (OLe.refl _) ?_
                  conv => whnf
                  refine Need.mk (OLe.refl _) ?_
                  exact trivial
               ·rintro _ _
                obtain ⟨g287, hx9645, hx9561⟩ := obind hx9561
                conv => whnf
                refine SeqG.mk Unit (fun y => [(4, .d (.list 1 (List.map (fun x => .int .u16 x) words1))), (5, .d (.ref (.agg [I b1.fLaw.fBase, I b1.fLaw.fPercent, I b1.fLaw.fCap, I b1.fLaw.fLeast, I b1.fLaw.fBlind, .list 1 (List.map I b1.fBowlers), .list 6 (List.map Ref07Sheet.enc b1.fSheets), .list 1 (List.map I b1.fWithdrawn)]))), (11, .d (I k6)), (12, .d (I w6)), (13, .sl 84 hd20), (14, .d (I games8)), (18, .ptr 18 b27 0), (20, .ptr 20 b29 0), (21, .i .i64 2), (22, .ptr 22 b265 0), (23, .d (I number1375)), (24, .d (I i80)), (25, .ptr 25 b289 0), (26, .i .i64 1)]) (fun y => [(84, .arr hd20 3 1 true (List.map I l14)), (18, .cells b27 [.d (I ra26.fLo), .d (I ra26.fHi)]), (20, .cells b29 [.d (I told5.a0), .d (I told5.a1), .d (I told5.a2)]), (22, .cells b265 [.d (I b1.fLaw.fBase), .d (I b1.fLaw.fPercent), .d (I b1.fLaw.fCap), .d (I b1.fLaw.fLeast), .d (I b1.fLaw.fBlind), .d (.list 1 (List.map I b1.fBowlers)), .sl 109 hd702, .d (.list 1 (List.map I b1.fWithdrawn))]), (25, .cells b289 [.d (I g287.a0), .d (I g287.a1), .d (I g287.a2)]), (109, .arr hd702 68 6 false (List.map Ref07Sheet.enc l314))]) (fun _ => True) ?_ ?_
                ·conv => whnf
                 refine IxG.mk 1 rfl (by decide) ?_
                 conv => whnf
                 refine Side.mk rfl ?_
                 conv => whnf
                 refine IxG.mk 1 rfl (by decide) ?_
                 conv => whnf
                 refine Side.mk rfl ?_
                 conv => whnf
                 refine LnA.mk _ (List.length_map _) ?_
                 conv => whnf
                 refine Br.mk (fun hc5114 => ?_) (fun hc5114 => ?_)
                 ·replace hx9645 := ite_t hc5114 hx9645
                  conv => whnf
                  refine LnA.mk _ (List.length_map _) ?_
                  obtain ⟨_, hx9646, hx9645⟩ := obind hx9645
                  conv => whnf
                  refine Need.mk (nz_ne hx9646) ?_
                  obtain ⟨x693, hx9647, hx9645⟩ := obind hx9645
                  conv => whnf
                  refine Side.mk rfl ⟨_, idx_0 hx9647, idx_map _ hx9647, ?_⟩
                  conv => whnf
                  refine Need.mk (by decide) ?_
                  conv => whnf
                  refine IxG.mk 1 rfl (by decide) ?_
                  conv => whnf
                  refine Side.mk rfl ?_
                  cases hx9645
                  conv => whnf
                  refine ⟨(), trivial, Sub.eq rfl ?_ ?_⟩
                  ·repeat ((conv => whnf); refine Need.mk rfl ?_)
                   exact trivial
                  ·conv => whnf
                   refine Need.mk (OLe.refl _) ?_
                   conv => whnf
                   refine Need.mk (OLe.refl _) ?_
                   conv => whnf
                   refine Need.mk (OLe.refl _) ?_
                   conv => whnf
                   refine Need.mk (OLe.refl _) ?_
                   conv => whnf
                   refine Need.mk (OLe.refl _) ?_
                   conv => whnf
                   refine Need.mk (OLe.refl _) ?_
                   exact trivial
                 ·replace hx9645 := ite_f hc5114 hx9645
                  cases hx9645
                  conv => whnf
                  refine ⟨(), trivial, Sub.eq rfl ?_ ?_⟩
                  ·repeat ((conv => whnf); refine Need.mk rfl ?_)
                   exact trivial
                  ·conv => whnf
                   refine Need.mk (OLe.refl _) ?_
                   conv => whnf
                   refine Need.mk (OLe.refl _) ?_
                   conv => whnf
                   refine Need.mk (OLe.refl _) ?_
                   conv => whnf
                   refine Need.mk (OLe.refl _) ?_
                   conv => whnf
                   refine Need.mk (OLe.refl _) ?_
                   conv => whnf
                   refine Need.mk (OLe.refl _) ?_
                   exact trivial
                ·rintro _ _
                 obtain ⟨g288, hx9650, hx9561⟩ := obind hx9561
                 conv => whnf
                 refine SeqG.mk Unit (fun y => [(4, .d (.list 1 (List.map (fun x => .int .u16 x) words1))), (5, .d (.ref (.agg [I b1.fLaw.fBase, I b1.fLaw.fPercent, I b1.fLaw.fCap, I b1.fLaw.fLeast, I b1.fLaw.fBlind, .list 1 (List.map I b1.fBowlers), .list 6 (List.map Ref07Sheet.enc b1.fSheets), .list 1 (List.map I b1.fWithdrawn)]))), (11, .d (I k6)), (12, .d (I w6)), (13, .sl 84 hd20), (14, .d (I games8)), (18, .ptr 18 b27 0), (20, .ptr 20 b29 0), (21, .i .i64 2), (22, .ptr 22 b265 0), (23, .d (I number1375)), (24, .d (I i80)), (25, .ptr 25 b289 0), (26, .i .i64 2)]) (fun y => [(84, .arr hd20 3 1 true (List.map I l14)), (18, .cells b27 [.d (I ra26.fLo), .d (I ra26.fHi)]), (20, .cells b29 [.d (I told5.a0), .d (I told5.a1), .d (I told5.a2)]), (22, .cells b265 [.d (I b1.fLaw.fBase), .d (I b1.fLaw.fPercent), .d (I b1.fLaw.fCap), .d (I b1.fLaw.fLeast), .d (I b1.fLaw.fBlind), .d (.list 1 (List.map I b1.fBowlers)), .sl 109 hd702, .d (.list 1 (List.map I b1.fWithdrawn))]), (25, .cells b289 [.d (I g288.a0), .d (I g288.a1), .d (I g288.a2)]), (109, .arr hd702 68 6 false (List.map Ref07Sheet.enc l314))]) (fun _ => True) ?_ ?_
                 ·conv => whnf
                  refine IxG.mk 2 rfl (by decide) ?_
                  conv => whnf
                  refine Side.mk rfl ?_
                  conv => whnf
                  refine IxG.mk 2 rfl (by decide) ?_
                  conv => whnf
                  refine Side.mk rfl ?_
                  conv => whnf
                  refine LnA.mk _ (List.length_map _) ?_
                  conv => whnf
                  refine Br.mk (fun hc5116 => ?_) (fun hc5116 => ?_)
                  ·replace hx9650 := ite_t hc5116 hx9650
                   conv => whnf
                   refine LnA.mk _ (List.length_map _) ?_
                   obtain ⟨_, hx9651, hx9650⟩ := obind hx9650
                   conv => whnf
                   refine Need.mk (nz_ne hx9651) ?_
                   obtain ⟨x695, hx9652, hx9650⟩ := obind hx9650
                   conv => whnf
                   refine Side.mk rfl ⟨_, idx_0 hx9652, idx_map _ hx9652, ?_⟩
                   conv => whnf
                   refine Need.mk (by decide) ?_
                   conv => whnf
                   refine IxG.mk 2 rfl (by decide) ?_
                   conv => whnf
                   refine Side.mk rfl ?_
                   cases hx9650
                   conv => whnf
                   refine ⟨(), trivial, Sub.eq rfl ?_ ?_⟩
                   ·repeat ((conv => whnf); refine Need.mk rfl ?_)
                    exact trivial
                   ·conv => whnf
                    refine Need.mk (OLe.refl _) ?_
                    conv => whnf
                    refine Need.mk (OLe.refl _) ?_
                    conv => whnf
                    refine Need.mk (OLe.refl _) ?_
                    conv => whnf
                    refine Need.mk (OLe.refl _) ?_
                    conv => whnf
                    refine Need.mk (OLe.refl _) ?_
                    conv => whnf
                    refine Need.mk (OLe.refl _) ?_
                    exact trivial
                  ·replace hx9650 := ite_f hc5116 hx9650
                   cases hx9650
                   conv => whnf
                   refine ⟨(), trivial, Sub.eq rfl ?_ ?_⟩
                   ·repeat ((conv => whnf); refine Need.mk rfl ?_)
                    exact trivial
                   ·conv => whnf
                    refine Need.mk (OLe.refl _) ?_
                    conv => whnf
                    refine Need.mk (OLe.refl _) ?_
                    conv => whnf
                    refine Need.mk (OLe.refl _) ?_
                    conv => whnf
                    refine Need.mk (OLe.refl _) ?_
                    conv => whnf
                    refine Need.mk (OLe.refl _) ?_
                    conv => whnf
                    refine Need.mk (OLe.refl _) ?_
                    exact trivial
                 ·rintro _ _
                  obtain ⟨x696, hx9653, hx9561⟩ := obind hx9561
                  obtain ⟨l317, hx9654, hx9561⟩ := obind hx9561
                  conv => whnf
                  refine DrawG.mk (.take 0 (.take 1 (.take 2 (.take 3 (.take 4 (.take 5 (.take 6 (.take 7 (.take 8 (.alt 9 [6, 5, 4, 1, 0] (.alt 10 [6, 5, 4, 1, 0] (.alt 11 [6, 5, 4, 0] (.take 12 (.alt 13 [] .done .nil)) .nil) .nil) .nil)))))))))) (by kernel_rfl) ?_
                  conv => whnf
                  refine Side.mk rfl ?_
                  conv => whnf
                  refine Side.mk ⟨rfl, rfl⟩ (Need.mk (idx_need _ hx9653) ?_)
                  conv => whnf
                  refine Side.mk ⟨rfl, rfl⟩ ⟨_, Int.natCast_nonneg _, idx_el _ hx9653, ?_⟩
                  conv => whnf
                  refine Side.mk rfl ?_
                  conv => whnf
                  refine Both.mk ?_ trivial
                  conv => whnf
                  refine Side.mk ⟨rfl, rfl⟩ (Need.mk (idx_need _ hx9653) ?_)
                  conv => whnf
                  refine Need.mk (AV.le_refl _) ?_
                  conv => whnf
                  refine Need.mk (AV.le_refl _) ?_
                  conv => whnf
                  refine Need.mk (AV.le_refl _) ?_
                  conv => whnf
                  refine Side.mk rfl ?_
                  conv => whnf
                  refine Need.mk (AV.le_refl _) ?_
                  conv => whnf
                  refine Need.mk (AV.le_refl _) ?_
                  conv => whnf
                  refine Both.mk ?_ trivial
                  conv => whnf
                  intro hd710
                  conv => whnf
                  refine Side.mk ⟨rfl, rfl⟩ (Need.mk (idx_need _ hx9653) ?_)
                  conv => whnf
                  refine Need.mk (AV.le_refl _) ?_
                  conv => whnf
                  refine Need.mk (AV.le_refl _) ?_
                  conv => whnf
                  refine Need.mk (AV.le_refl _) ?_
                  conv => whnf
                  refine Side.mk rfl ?_
                  conv => whnf
                  refine Need.mk (AV.le_refl _) ?_
                  conv => whnf
                  refine Need.mk (AV.le_refl _) ?_
                  conv => whnf
                  refine Both.mk ?_ trivial
                  conv => whnf
                  refine Side.mk ⟨rfl, rfl⟩ ?_
                  conv => whnf
                  refine Side.mk ⟨rfl, rfl, rfl⟩ (Need.mk (app_need hN hx9654 (by decide)) (Eqv.mk (List.map Ref07Sheet.enc l317) (app_map _ hx9654) ?_))
                  conv => whnf
                  intro hd711
                  conv => whnf
                  refine Side.mk ⟨rfl, rfl⟩ (Need.mk (idx_need _ hx9653) ?_)
                  conv => whnf
                  refine Need.mk (AV.le_refl _) ?_
                  conv => whnf
                  refine Need.mk (AV.le_refl _) ?_
                  conv => whnf
                  refine Need.mk (AV.le_refl _) ?_
                  conv => whnf
                  refine Need.mk (AV.le_refl _) ?_
                  conv => whnf
                  refine Both.mk ?_ trivial
                  conv => whnf
                  refine Side.mk rfl ?_
                  cases hx9561
                  conv => whnf
                  refine ⟨hd711, trivial, Sub.eq rfl ?_ ?_⟩
                  ·repeat ((conv => whnf); refine Need.mk rfl ?_)
                   exact trivial
                  ·conv => whnf
                   refine Need.mk (OLe.refl _) ?_
                   conv => whnf
                   refine Need.mk (OLe.refl _) ?_
                   conv => whnf
                   refine Need.mk (OLe.refl _) ?_
                   conv => whnf
                   refine Need.mk (OLe.refl _) ?_
                   conv => whnf
                   refine Need.mk (OLe.refl _) ?_
                   exact trivial
             ·rintro hd707 _
              conv => whnf
              refine ⟨(n266, (number1369, w64 (i80 + 1), l316), hd707), hl258, Sub.eq rfl ?_ ?_, Nat.lt_succ_self _⟩
              ·repeat ((conv => whnf); refine Need.mk rfl ?_)
               exact trivial
              ·conv => whnf
               refine Need.mk (OLe.refl _) ?_
               conv => whnf
               refine Need.mk (OLe.refl _) ?_
               conv => whnf
               refine Need.mk (OLe.refl _) ?_
               conv => whnf
               refine Need.mk (OLe.refl _) ?_
               conv => whnf
               refine Need.mk (OLe.refl _) ?_
               exact trivial
            ·replace hl258 := ite_f hc5020 hl258
             cases hl258
             conv => whnf
             refine ⟨hd702, trivial, Sub.eq rfl ?_ ?_⟩
             ·repeat ((conv => whnf); refine Need.mk rfl ?_)
              exact trivial
             ·conv => whnf
              refine Need.mk (OLe.refl _) ?_
              conv => whnf
              refine Need.mk (OLe.refl _) ?_
              conv => whnf
              refine Need.mk (OLe.refl _) ?_
              conv => whnf
              refine Need.mk (OLe.refl _) ?_
              conv => whnf
              refine Need.mk (OLe.refl _) ?_
              exact trivial
          ·rintro hd680 _
           conv => whnf
           refine Side.mk rfl ?_
           obtain ⟨r5794, hx9657, h⟩ := obind h
           conv => whnf
           refine Side.mk rfl ?_
           conv => whnf
           refine CallG.pure _ (law07BookC hN hx9657) ?_
           obtain ⟨⟨ra46, rb46⟩, hx9658, h⟩ := obind h
           conv => whnf
           refine CallG.pure _ (rateAverageC hN hx9658) ?_
           conv => whnf
           refine Br.mk (fun hc5118 => ?_) (fun hc5118 => ?_)
           ·replace h := ite_t hc5118 h
            conv => whnf
            cases h
            exact rfl
           ·replace h := ite_f hc5118 h
            conv => whnf
            refine IxG.mk 2 rfl (by decide) ?_
            conv => whnf
            refine Side.mk rfl ?_
            conv => whnf
            refine ⟨(Ar3.mk told5.a0 told5.a1 ra46), h, Sub.eq rfl ?_ ?_⟩
            ·repeat ((conv => whnf); refine Need.mk rfl ?_)
             exact trivial
            ·conv => whnf
             refine Need.mk (OLe.refl _) ?_
             conv => whnf
             refine Need.mk (OLe.refl _) ?_
             conv => whnf
             refine Need.mk (OLe.refl _) ?_
             exact trivial
         ·clear h
          rintro told6 h
          unfold law07RateUntold_k2 at h
          obtain ⟨v1326, hx8526, h⟩ := obind h
          conv => whnf
          refine SeqG.mk Unit (fun y => [(18, .ptr 18 b27 0), (20, .ptr 20 b29 0), (203, .d (.bool v1326))]) (fun y => [(18, .cells b27 [.d (I ra26.fLo), .d (I ra26.fHi)]), (20, .cells b29 [.d (I told6.a0), .d (I told6.a1), .d (I told6.a2)])]) (fun _ => True) ?_ ?_
          ·conv => whnf
           refine Side.mk rfl (LnA.mk _ (List.length_map _) ?_)
           conv => whnf
           refine Br.mk (fun hc4519 => ?_) (fun hc4519 => ?_)
           ·replace hx8526 := ite_t hc4519 hx8526
            conv => whnf
            refine Side.mk rfl ?_
            conv => whnf
            refine Side.mk rfl ?_
            cases hx8526
            conv => whnf
            refine ⟨(), trivial, Sub.eq rfl ?_ ?_⟩
            ·repeat ((conv => whnf); refine Need.mk rfl ?_)
             exact trivial
            ·conv => whnf
             refine Need.mk (OLe.refl _) ?_
             conv => whnf
             refine Need.mk (OLe.refl _) ?_
             exact trivial
           ·replace hx8526 := ite_f hc4519 hx8526
            cases hx8526
            conv => whnf
            refine ⟨(), trivial, Sub.eq rfl ?_ ?_⟩
            ·repeat ((conv => whnf); refine Need.mk rfl ?_)
             exact trivial
            ·conv => whnf
             refine Need.mk (OLe.refl _) ?_
             conv => whnf
             refine Need.mk (OLe.refl _) ?_
             exact trivial
          ·rintro _ _
           conv => whnf
           refine Br.mk (fun hc4520 => ?_) (fun hc4520 => ?_)
           ·replace h := ite_t hc4520 h
            conv => whnf
            cases h
            exact rfl
           ·replace h := ite_f hc4520 h
            obtain ⟨v1327, hx8528, h⟩ := obind h
            conv => whnf
            refine SeqG.mk Unit (fun y => [(10, .d (.bool v1327))]) (fun y => []) (fun _ => True) ?_ ?_
            ·conv => whnf
             refine IxG.mk 0 rfl (by decide) ?_
             conv => whnf
             refine Side.mk rfl ?_
             conv => whnf
             refine Side.mk rfl ?_
             conv => whnf
             refine Br.mk (fun hc4525 => ?_) (fun hc4525 => ?_)
             ·replace hx8528 := ite_t hc4525 hx8528
              conv => whnf
              refine IxG.mk 1 rfl (by decide) ?_
              conv => whnf
              refine Side.mk rfl ?_
              conv => whnf
              refine Side.mk rfl ?_
              conv => whnf
              refine Br.mk (fun hc4526 => ?_) (fun hc4526 => ?_)
              ·replace hx8528 := ite_t hc4526 hx8528
               conv => whnf
               refine IxG.mk 2 rfl (by decide) ?_
               conv => whnf
               refine Side.mk rfl ?_
               conv => whnf
               refine Side.mk rfl ?_
               conv => whnf
               refine Br.mk (fun hc4527 => ?_) (fun hc4527 => ?_)
               ·replace hx8528 := ite_t hc4527 hx8528
                conv => whnf
                refine IxG.mk 2 rfl (by decide) ?_
                conv => whnf
                refine Side.mk rfl ?_
                conv => whnf
                refine Side.mk rfl ?_
                conv => whnf
                refine Br.mk (fun hc4528 => ?_) (fun hc4528 => ?_)
                ·replace hx8528 := ite_t hc4528 hx8528
                 obtain ⟨r5216, hx8529, hx8528⟩ := obind hx8528
                 conv => whnf
                 refine CallG.pure _ (law07WakesC hN hx8529) ?_
                 cases hx8528
                 conv => whnf
                 refine ⟨(), trivial, Sub.eq rfl ?_ ?_⟩
                 ·repeat ((conv => whnf); refine Need.mk rfl ?_)
                  exact trivial
                 ·exact trivial
                ·replace hx8528 := ite_f hc4528 hx8528
                 cases hx8528
                 conv => whnf
                 refine ⟨(), trivial, Sub.eq rfl ?_ ?_⟩
                 ·repeat ((conv => whnf); refine Need.mk rfl ?_)
                  exact trivial
                 ·exact trivial
               ·replace hx8528 := ite_f hc4527 hx8528
                cases hx8528
                conv => whnf
                refine ⟨(), trivial, Sub.eq rfl ?_ ?_⟩
                ·repeat ((conv => whnf); refine Need.mk rfl ?_)
                 exact trivial
                ·exact trivial
              ·replace hx8528 := ite_f hc4526 hx8528
               cases hx8528
               conv => whnf
               refine ⟨(), trivial, Sub.eq rfl ?_ ?_⟩
               ·repeat ((conv => whnf); refine Need.mk rfl ?_)
                exact trivial
               ·exact trivial
             ·replace hx8528 := ite_f hc4525 hx8528
              cases hx8528
              conv => whnf
              refine ⟨(), trivial, Sub.eq rfl ?_ ?_⟩
              ·repeat ((conv => whnf); refine Need.mk rfl ?_)
               exact trivial
              ·exact trivial
            ·rintro _ _
             conv => whnf
             cases h
             exact rfl
end Go.Proofs.Ytmencjafjcmbaaa
