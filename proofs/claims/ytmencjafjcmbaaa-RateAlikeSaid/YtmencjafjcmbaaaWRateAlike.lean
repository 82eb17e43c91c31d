/-
  The walk of the law RateAlike.
-/
import Derived.Test.YtmencjafjcmbaaaDRateAlike
import Derived.Test.YtmencjafjcmbaaaWd
namespace Go.Proofs.Ytmencjafjcmbaaa
open Go Go.Abs Go.Kp
set_option maxRecDepth 100000
set_option maxHeartbeats 8000000
set_option linter.all false

theorem law07RateAlikeC {N : Nat} (hN : N ≤ 1073741824) {b1 : Ref07Book} {first1 : Int} {second1 : Int} {week1 : Int} {bits1 : Int} {r : Bool} (h : law07RateAlike N b1 first1 second1 week1 bits1 = some r) :
    ACalls Try.prog 16 [.d (.agg [I b1.fLaw.fBase, I b1.fLaw.fPercent, I b1.fLaw.fCap, I b1.fLaw.fLeast, I b1.fLaw.fBlind, .list 1 (List.map I b1.fBowlers), .list 6 (List.map Ref07Sheet.enc b1.fSheets), .list 1 (List.map I b1.fWithdrawn)]), .d (.int .u16 first1), .d (.int .u16 second1), .d (.int .u8 week1), .d (.int .u32 bits1)] [] fun e os => e = .ret (.d (.bool r)) ∧ os = [] := by
  refine acalls_f (fresh := false) tt_ok dr_ok ⟨[5], [], [], [], [9, 16, 25, 1006, 1009, 1018, 1021], 0, []⟩ Try.func16 rfl Try.call16 rfl ?_
  unfold law07RateAlike at h
  obtain ⟨r6, hx6, h⟩ := obind h
  conv => whnf
  refine CallG.pure _ (law07ReadyC hN hx6) ?_
  conv => whnf
  refine Br.mk (fun hc2 => ?_) (fun hc2 => ?_)
  ·replace h := ite_t hc2 h
   obtain ⟨r8, hx8, h⟩ := obind h
   conv => whnf
   refine CallG.pure _ (law07WakesC hN hx8) ?_
   conv => whnf
   cases h
   exact rfl
  ·replace h := ite_f hc2 h
   conv => whnf
   refine Need.mk (by decide) ?_
   conv => whnf
   refine Need.mk (by decide) ?_
   conv => whnf
   intro hd2
   conv => whnf
   refine Side.mk rfl ?_
   conv => whnf
   intro b3
   conv => whnf
   refine Side.mk rfl ?_
   conv => whnf
   refine Side.mk rfl ?_
   conv => whnf
   refine Side.mk rfl ?_
   conv => whnf
   refine Side.mk rfl ?_
   conv => whnf
   refine Need.mk (by decide) ?_
   obtain ⟨⟨w13, c13, l149⟩, hx489, h⟩ := obind h
   conv => whnf
   refine SeqG.mk Value (fun y => [(11, .ptr 11 b3 0), (12, .d (I w13))]) (fun y => [(11, .cells b3 [.d (I 300), .d (I 100), .d (I 300), .d (I b1.fLaw.fLeast), .d (I b1.fLaw.fBlind), .d (.list 1 (List.map I c13)), .sl 85 y, .nils 1]), (85, .arr y 68 6 false (List.map Ref07Sheet.enc l149))]) (fun _ => True) ?_ ?_
   ·conv => whnf
    refine LoopG.mk (Nat × (Int × Int × (List Int) × (List Ref07Sheet)) × Value) (fun y => [(4, .d (.int .u32 bits1)), (11, .ptr 11 b3 0), (12, .d (I y.2.1.1)), (13, .d (I y.2.1.2.1))]) (fun y => [(11, .cells b3 [.d (I 300), .d (I 100), .d (I 300), .d (I b1.fLaw.fLeast), .d (I b1.fLaw.fBlind), .d (.list 1 (List.map I y.2.1.2.2.1)), .sl 85 y.2.2, .nils 1]), (85, .arr y.2.2 68 6 false (List.map Ref07Sheet.enc y.2.1.2.2.2))]) (fun y => loopN (fun rr x => law07RateAlike_b2 N bits1 rr x.1 x.2.1 x.2.2.1 x.2.2.2) y.1 y.2.1 = some (w13, c13, l149)) (fun y => y.1) (N, (w64 (1 + (Int.tmod (w64 week1) 18)), 1, [Int.tmod (w64 first1) 301, Int.tmod (w64 second1) 301], []), (.slice none 0 0)) hx489 (Sub.eq rfl ?_ ?_) ?_
    ·repeat ((conv => whnf); refine Need.mk rfl ?_)
     exact trivial
    ·conv => whnf
     refine Need.mk (OLe.cells _ _ _ (by repeat (first | exact trivial | ((conv => whnf); refine Need.mk rfl ?_)))) ?_
     conv => whnf
     refine Need.mk (OLe.nil _ _ _ _) ?_
     exact trivial
    ·rintro ⟨n10, ⟨w18, n9, c18, l171⟩, hd317⟩ hl2
     obtain ⟨n10, rfl, hl2⟩ := loopN_some hl2
     replace hl2 : law07RateAlike_b2 N bits1 (loopN (fun rr x => law07RateAlike_b2 N bits1 rr x.1 x.2.1 x.2.2.1 x.2.2.2) n10) w18 n9 c18 l171 = some (w13, c13, l149) := hl2
     rw [law07RateAlike_b2] at hl2
     conv => whnf
     refine Br.mk (fun hc226 => ?_) (fun hc226 => ?_)
     ·replace hl2 := ite_t hc226 hl2
      obtain ⟨l176, hx574, hl2⟩ := obind hl2
      conv => whnf
      refine SeqG.mk Value (fun y => [(4, .d (.int .u32 bits1)), (11, .ptr 11 b3 0), (12, .d (I w18)), (13, .d (I n9))]) (fun y => [(11, .cells b3 [.d (I 300), .d (I 100), .d (I 300), .d (I b1.fLaw.fLeast), .d (I b1.fLaw.fBlind), .d (.list 1 (List.map I c18)), .sl 85 y, .nils 1]), (85, .arr y 68 6 false (List.map Ref07Sheet.enc l176))]) (fun _ => True) ?_ ?_
      ·conv => whnf
       refine SeqG.mk Unit (fun y => [(4, .d (.int .u32 bits1)), (11, .ptr 11 b3 0), (12, .d (I w18)), (13, .d (I n9))]) (fun y => [(11, .cells b3 [.d (I 300), .d (I 100), .d (I 300), .d (I b1.fLaw.fLeast), .d (I b1.fLaw.fBlind), .d (.list 1 (List.map I c18)), .sl 85 hd317, .nils 1]), (85, .arr hd317 68 6 false (List.map Ref07Sheet.enc l171))]) (fun y => law07RateAlike_k1 N n9 c18 l171 = some l176) ?_ ?_
       ·obtain ⟨v76, hx591, hx574⟩ := obind hx574
        conv => whnf
        refine SeqG.mk Unit (fun y => [(4, .d (.int .u32 bits1)), (11, .ptr 11 b3 0), (12, .d (I w18)), (13, .d (I n9)), (61, .d (.bool v76))]) (fun y => [(11, .cells b3 [.d (I 300), .d (I 100), .d (I 300), .d (I b1.fLaw.fLeast), .d (I b1.fLaw.fBlind), .d (.list 1 (List.map I c18)), .sl 85 hd317, .nils 1]), (85, .arr hd317 68 6 false (List.map Ref07Sheet.enc l171))]) (fun _ => True) ?_ ?_
        ·conv => whnf
         refine Br.mk (fun hc237 => ?_) (fun hc237 => ?_)
         ·replace hx591 := ite_t hc237 hx591
          obtain ⟨_, hx592, hx591⟩ := obind hx591
          conv => whnf
          refine Need.mk (nng_ok hx592) ?_
          conv => whnf
          refine Need.mk (by decide) ?_
          cases hx591
          conv => whnf
          refine ⟨(), trivial, Sub.eq rfl ?_ ?_⟩
          ·repeat ((conv => whnf); refine Need.mk rfl ?_)
           exact trivial
          ·conv => whnf
           refine Need.mk (OLe.refl _) ?_
           conv => whnf
           refine Need.mk (OLe.refl _) ?_
           exact trivial
         ·replace hx591 := ite_f hc237 hx591
          cases hx591
          conv => whnf
          refine ⟨(), trivial, Sub.eq rfl ?_ ?_⟩
          ·repeat ((conv => whnf); refine Need.mk rfl ?_)
           exact trivial
          ·conv => whnf
           refine Need.mk (OLe.refl _) ?_
           conv => whnf
           refine Need.mk (OLe.refl _) ?_
           exact trivial
        ·rintro _ _
         conv => whnf
         refine Br.mk (fun hc238 => ?_) (fun hc238 => ?_)
         ·replace hx574 := ite_t hc238 hx574
          cases hx574
          conv => whnf
          refine ⟨hd317, trivial, Sub.eq rfl ?_ ?_⟩
          ·repeat ((conv => whnf); refine Need.mk rfl ?_)
           exact trivial
          ·conv => whnf
           refine Need.mk (OLe.refl _) ?_
           conv => whnf
           refine Need.mk (OLe.refl _) ?_
           exact trivial
         ·replace hx574 := ite_f hc238 hx574
          conv => whnf
          refine ⟨(), hx574, Sub.eq rfl ?_ ?_⟩
          ·repeat ((conv => whnf); refine Need.mk rfl ?_)
           exact trivial
          ·conv => whnf
           refine Need.mk (OLe.refl _) ?_
           conv => whnf
           refine Need.mk (OLe.refl _) ?_
           exact trivial
       ·rintro _ h
        unfold law07RateAlike_k1 at h
        conv => whnf
        refine LoopG.unr 3 ?_
        conv => whnf
        refine Side.mk rfl ?_
        obtain ⟨x300, hx582, h⟩ := obind h
        conv => whnf
        refine Side.mk rfl ⟨_, idx_0 hx582, idx_map _ hx582, ?_⟩
        conv => whnf
        refine Side.mk rfl ?_
        conv => whnf
        refine Side.mk rfl ?_
        conv => whnf
        refine Side.mk rfl (LnA.mk _ (List.length_map _) ?_)
        conv => whnf
        intro hd329
        obtain ⟨l178, hx583, h⟩ := obind h
        conv => whnf
        refine Side.mk ⟨rfl, rfl⟩ ?_
        conv => whnf
        refine Side.mk ⟨rfl, rfl, rfl⟩ (Need.mk (app_need hN hx583 (by decide)) (Eqv.mk (List.map Ref07Sheet.enc l178) (app_map _ hx583) ?_))
        conv => whnf
        intro hd330
        conv => whnf
        refine Side.mk rfl ?_
        conv => whnf
        refine Side.mk rfl ?_
        obtain ⟨x304, hx588, h⟩ := obind h
        conv => whnf
        refine Side.mk rfl ⟨_, idx_0 hx588, idx_map _ hx588, ?_⟩
        conv => whnf
        refine Side.mk rfl ?_
        conv => whnf
        refine Side.mk rfl ?_
        conv => whnf
        refine Side.mk rfl (LnA.mk _ (List.length_map _) ?_)
        conv => whnf
        intro hd333
        obtain ⟨l180, hx589, h⟩ := obind h
        conv => whnf
        refine Side.mk ⟨rfl, rfl⟩ ?_
        conv => whnf
        refine Side.mk ⟨rfl, rfl, rfl⟩ (Need.mk (app_need hN hx589 (by decide)) (Eqv.mk (List.map Ref07Sheet.enc l180) (app_map _ hx589) ?_))
        conv => whnf
        intro hd334
        conv => whnf
        refine Side.mk rfl ?_
        cases h
        conv => whnf
        refine ⟨hd334, trivial, Sub.eq rfl ?_ ?_⟩
        ·repeat ((conv => whnf); refine Need.mk rfl ?_)
         exact trivial
        ·conv => whnf
         refine Need.mk (OLe.refl _) ?_
         conv => whnf
         refine Need.mk (OLe.refl _) ?_
         exact trivial
      ·rintro hd326 _
       conv => whnf
       refine ⟨(n10, (w18, w64 (n9 + 1), c18, l176), hd326), hl2, Sub.eq rfl ?_ ?_, Nat.lt_succ_self _⟩
       ·repeat ((conv => whnf); refine Need.mk rfl ?_)
        exact trivial
       ·conv => whnf
        refine Need.mk (OLe.refl _) ?_
        conv => whnf
        refine Need.mk (OLe.refl _) ?_
        exact trivial
     ·replace hl2 := ite_f hc226 hl2
      cases hl2
      conv => whnf
      refine ⟨hd317, trivial, Sub.eq rfl ?_ ?_⟩
      ·repeat ((conv => whnf); refine Need.mk rfl ?_)
       exact trivial
      ·conv => whnf
       refine Need.mk (OLe.refl _) ?_
       conv => whnf
       refine Need.mk (OLe.refl _) ?_
       exact trivial
   ·rintro hd279 _
    conv => whnf
    refine Side.mk rfl ?_
    obtain ⟨r10, hx595, h⟩ := obind h
    conv => whnf
    refine Side.mk rfl ?_
    conv => whnf
    refine CallG.pure _ (law07BookC hN hx595) ?_
    conv => whnf
    intro hd337
    conv => whnf
    intro hd338
    obtain ⟨⟨ra2, rb2, rc2⟩, hx596, h⟩ := obind h
    conv => whnf
    refine Side.mk rfl ?_
    conv => whnf
    refine Side.mk rfl ?_
    conv => whnf
    refine CallG.pure _ (rateMatchC hN hx596) ?_
    obtain ⟨v78, hx598, h⟩ := obind h
    conv => whnf
    refine SeqG.mk Unit (fun y => [(11, .ptr 11 b3 0), (106, .d (.bool v78))]) (fun y => [(11, .cells b3 [.d (I 300), .d (I 100), .d (I 300), .d (I b1.fLaw.fLeast), .d (I b1.fLaw.fBlind), .d (.list 1 (List.map I c13)), .sl 85 hd279, .nils 1]), (85, .arr hd279 68 6 true (List.map Ref07Sheet.enc l149))]) (fun _ => True) ?_ ?_
    ·conv => whnf
     refine Br.mk (fun hc246 => ?_) (fun hc246 => ?_)
     ·replace hx598 := ite_f hc246 hx598
      conv => whnf
      refine Br.mk (fun hc247 => ?_) (fun hc247 => ?_)
      ·replace hx598 := ite_f hc247 hx598
       cases hx598
       conv => whnf
       refine ⟨(), trivial, Sub.eq rfl ?_ ?_⟩
       ·repeat ((conv => whnf); refine Need.mk rfl ?_)
        exact trivial
       ·conv => whnf
        refine Need.mk (OLe.refl _) ?_
        conv => whnf
        refine Need.mk (OLe.refl _) ?_
        exact trivial
      ·replace hx598 := ite_t hc247 hx598
       cases hx598
       conv => whnf
       refine ⟨(), trivial, Sub.eq rfl ?_ ?_⟩
       ·repeat ((conv => whnf); refine Need.mk rfl ?_)
        exact trivial
       ·conv => whnf
        refine Need.mk (OLe.refl _) ?_
        conv => whnf
        refine Need.mk (OLe.refl _) ?_
        exact trivial
     ·replace hx598 := ite_t hc246 hx598
      cases hx598
      conv => whnf
      refine ⟨(), trivial, Sub.eq rfl ?_ ?_⟩
      ·repeat ((conv => whnf); refine Need.mk rfl ?_)
       exact trivial
      ·conv => whnf
       refine Need.mk (OLe.refl _) ?_
       conv => whnf
       refine Need.mk (OLe.refl _) ?_
       exact trivial
    ·rintro _ _
     conv => whnf
     refine Br.mk (fun hc248 => ?_) (fun hc248 => ?_)
     ·replace h := ite_t hc248 h
      conv => whnf
      cases h
      exact rfl
     ·replace h := ite_f hc248 h
      conv => whnf
      refine SeqG.mk Unit (fun y => []) (fun y => []) (fun y => law07RateAlike_k3 N = some r) ?_ ?_
      ·conv => whnf
       refine LoopG.mk (Nat × Int) (fun y => [(11, .ptr 11 b3 0), (19, .d (I y.2))]) (fun y => [(11, .cells b3 [.d (I 300), .d (I 100), .d (I 300), .d (I b1.fLaw.fLeast), .d (I b1.fLaw.fBlind), .d (.list 1 (List.map I c13)), .sl 85 hd279, .nils 1]), (85, .arr hd279 68 6 true (List.map Ref07Sheet.enc l149))]) (fun y => loopN (fun rr x => law07RateAlike_b5 N b1 c13 l149 rr x) y.1 y.2 = some r) (fun y => y.1) (N, 1) h (Sub.eq rfl ?_ ?_) ?_
       ·repeat ((conv => whnf); refine Need.mk rfl ?_)
        exact trivial
       ·conv => whnf
        refine Need.mk (OLe.refl _) ?_
        conv => whnf
        refine Need.mk (OLe.refl _) ?_
        exact trivial
       ·rintro ⟨n20, n19⟩ hl4
        obtain ⟨n20, rfl, hl4⟩ := loopN_some hl4
        replace hl4 : law07RateAlike_b5 N b1 c13 l149 (loopN (fun rr x => law07RateAlike_b5 N b1 c13 l149 rr x) n20) n19 = some r := hl4
        rw [law07RateAlike_b5] at hl4
        conv => whnf
        refine Br.mk (fun hc532 => ?_) (fun hc532 => ?_)
        ·replace hl4 := ite_t hc532 hl4
         conv => whnf
         refine SeqG.mk Unit (fun y => [(11, .ptr 11 b3 0), (19, .d (I n19))]) (fun y => [(11, .cells b3 [.d (I 300), .d (I 100), .d (I 300), .d (I b1.fLaw.fLeast), .d (I b1.fLaw.fBlind), .d (.list 1 (List.map I c13)), .sl 85 hd279, .nils 1]), (85, .arr hd279 68 6 true (List.map Ref07Sheet.enc l149))]) (fun y => law07RateAlike_k4 N n19 (loopN (fun rr x => law07RateAlike_b5 N b1 c13 l149 rr x) n20) = some r) ?_ ?_
         ·conv => whnf
          refine LoopG.unr 3 ?_
          conv => whnf
          refine Side.mk rfl ?_
          obtain ⟨r208, hx1282, hl4⟩ := obind hl4
          conv => whnf
          refine Side.mk rfl ?_
          conv => whnf
          refine CallG.pure _ (law07BookC hN hx1282) ?_
          obtain ⟨⟨ra198, rb198⟩, hx1283, hl4⟩ := obind hl4
          conv => whnf
          refine CallG.pure _ (rateAverageC hN hx1283) ?_
          obtain ⟨v176, hx1285, hl4⟩ := obind hl4
          conv => whnf
          refine SeqG.mk Unit (fun y => [(11, .ptr 11 b3 0), (19, .d (I n19)), (20, .i .i64 0), (133, .d (.bool v176))]) (fun y => [(11, .cells b3 [.d (I 300), .d (I 100), .d (I 300), .d (I b1.fLaw.fLeast), .d (I b1.fLaw.fBlind), .d (.list 1 (List.map I c13)), .sl 85 hd279, .nils 1]), (85, .arr hd279 68 6 true (List.map Ref07Sheet.enc l149))]) (fun _ => True) ?_ ?_
          ·conv => whnf
           refine Br.mk (fun hc549 => ?_) (fun hc549 => ?_)
           ·replace hx1285 := ite_f hc549 hx1285
            conv => whnf
            refine Side.mk rfl ?_
            obtain ⟨x500, hx1286, hx1285⟩ := obind hx1285
            conv => whnf
            refine Side.mk rfl ⟨_, idx_0 hx1286, idx_map _ hx1286, ?_⟩
            cases hx1285
            conv => whnf
            refine ⟨(), trivial, Sub.eq rfl ?_ ?_⟩
            ·repeat ((conv => whnf); refine Need.mk rfl ?_)
             exact trivial
            ·conv => whnf
             refine Need.mk (OLe.refl _) ?_
             conv => whnf
             refine Need.mk (OLe.refl _) ?_
             exact trivial
           ·replace hx1285 := ite_t hc549 hx1285
            cases hx1285
            conv => whnf
            refine ⟨(), trivial, Sub.eq rfl ?_ ?_⟩
            ·repeat ((conv => whnf); refine Need.mk rfl ?_)
             exact trivial
            ·conv => whnf
             refine Need.mk (OLe.refl _) ?_
             conv => whnf
             refine Need.mk (OLe.refl _) ?_
             exact trivial
          ·rintro _ _
           conv => whnf
           refine Br.mk (fun hc550 => ?_) (fun hc550 => ?_)
           ·replace hl4 := ite_t hc550 hl4
            conv => whnf
            cases hl4
            exact rfl
           ·replace hl4 := ite_f hc550 hl4
            conv => whnf
            refine Side.mk rfl ?_
            obtain ⟨r212, hx1296, hl4⟩ := obind hl4
            conv => whnf
            refine Side.mk rfl ?_
            conv => whnf
            refine CallG.pure _ (law07BookC hN hx1296) ?_
            obtain ⟨⟨ra202, rb202⟩, hx1297, hl4⟩ := obind hl4
            conv => whnf
            refine CallG.pure _ (rateAverageC hN hx1297) ?_
            obtain ⟨v178, hx1299, hl4⟩ := obind hl4
            conv => whnf
            refine SeqG.mk Unit (fun y => [(11, .ptr 11 b3 0), (19, .d (I n19)), (20, .i .i64 1), (133, .d (.bool v178))]) (fun y => [(11, .cells b3 [.d (I 300), .d (I 100), .d (I 300), .d (I b1.fLaw.fLeast), .d (I b1.fLaw.fBlind), .d (.list 1 (List.map I c13)), .sl 85 hd279, .nils 1]), (85, .arr hd279 68 6 true (List.map Ref07Sheet.enc l149))]) (fun _ => True) ?_ ?_
            ·conv => whnf
             refine Br.mk (fun hc555 => ?_) (fun hc555 => ?_)
             ·replace hx1299 := ite_f hc555 hx1299
              conv => whnf
              refine Side.mk rfl ?_
              obtain ⟨x504, hx1300, hx1299⟩ := obind hx1299
              conv => whnf
              refine Side.mk rfl ⟨_, idx_0 hx1300, idx_map _ hx1300, ?_⟩
              cases hx1299
              conv => whnf
              refine ⟨(), trivial, Sub.eq rfl ?_ ?_⟩
              ·repeat ((conv => whnf); refine Need.mk rfl ?_)
               exact trivial
              ·conv => whnf
               refine Need.mk (OLe.refl _) ?_
               conv => whnf
               refine Need.mk (OLe.refl _) ?_
               exact trivial
             ·replace hx1299 := ite_t hc555 hx1299
              cases hx1299
              conv => whnf
              refine ⟨(), trivial, Sub.eq rfl ?_ ?_⟩
              ·repeat ((conv => whnf); refine Need.mk rfl ?_)
               exact trivial
              ·conv => whnf
               refine Need.mk (OLe.refl _) ?_
               conv => whnf
               refine Need.mk (OLe.refl _) ?_
               exact trivial
            ·rintro _ _
             conv => whnf
             refine Br.mk (fun hc556 => ?_) (fun hc556 => ?_)
             ·replace hl4 := ite_t hc556 hl4
              conv => whnf
              cases hl4
              exact rfl
             ·replace hl4 := ite_f hc556 hl4
              conv => whnf
              refine ⟨(), hl4, Sub.eq rfl ?_ ?_⟩
              ·repeat ((conv => whnf); refine Need.mk rfl ?_)
               exact trivial
              ·conv => whnf
               refine Need.mk (OLe.refl _) ?_
               conv => whnf
               refine Need.mk (OLe.refl _) ?_
               exact trivial
         ·rintro _ h
          unfold law07RateAlike_k4 at h
          conv => whnf
          refine ⟨(n20, w64 (n19 + 1)), h, Sub.eq rfl ?_ ?_, Nat.lt_succ_self _⟩
          ·repeat ((conv => whnf); refine Need.mk rfl ?_)
           exact trivial
          ·conv => whnf
           refine Need.mk (OLe.refl _) ?_
           conv => whnf
           refine Need.mk (OLe.refl _) ?_
           exact trivial
        ·replace hl4 := ite_f hc532 hl4
         conv => whnf
         refine ⟨(), hl4, Sub.eq rfl ?_ ?_⟩
         ·repeat ((conv => whnf); refine Need.mk rfl ?_)
          exact trivial
         ·exact trivial
      ·clear h
       rintro _ h
       unfold law07RateAlike_k3 at h
       obtain ⟨r164, hx1132, h⟩ := obind h
       conv => whnf
       refine CallG.pure _ (law07WakesC hN hx1132) ?_
       conv => whnf
       cases h
       exact rfl
end Go.Proofs.Ytmencjafjcmbaaa
