/-
  The walk of the law RateBounds.
-/
import Derived.Test.YtmencjafjcmbaaaDRateBounds
import Derived.Test.YtmencjafjcmbaaaWd
namespace Go.Proofs.Ytmencjafjcmbaaa
open Go Go.Abs Go.Kp
set_option maxRecDepth 100000
set_option maxHeartbeats 8000000
set_option linter.all false

theorem law07RateBoundsC {N : Nat} (hN : N ≤ 1073741824) {b1 : Ref07Book} {week1 : Int} {r : Bool} (h : law07RateBounds N b1 week1 = some r) :
    ACalls Try.prog 12 [.d (.agg [I b1.fLaw.fBase, I b1.fLaw.fPercent, I b1.fLaw.fCap, I b1.fLaw.fLeast, I b1.fLaw.fBlind, .list 1 (List.map I b1.fBowlers), .list 6 (List.map Ref07Sheet.enc b1.fSheets), .list 1 (List.map I b1.fWithdrawn)]), .d (.int .u8 week1)] [] fun e os => e = .ret (.d (.bool r)) ∧ os = [] := by
  refine acalls_f (fresh := false) tt_ok dr_ok ⟨[2], [], [], [], [10, 15, 1005, 1008, 1012], 0, []⟩ Try.func12 rfl Try.call12 rfl ?_
  unfold law07RateBounds at h
  obtain ⟨r6, hx6, h⟩ := obind h
  conv => whnf
  refine CallG.pure _ (law07ReadyC hN hx6) ?_
  conv => whnf
  refine Br.mk (fun hc2 => ?_) (fun hc2 => ?_)
  ·replace h := ite_t hc2 h
   obtain ⟨r8, hx8, h⟩ := obind h
   conv => whnf
   refine CallG.pure _ (law07WakesC hN hx8) ?_
   conv => whnf
   cases h
   exact rfl
  ·replace h := ite_f hc2 h
   conv => whnf
   refine Need.mk (by decide) ?_
   conv => whnf
   refine SeqG.mk Unit (fun y => []) (fun y => []) (fun y => law07RateBounds_k1 N = some r) ?_ ?_
   ·conv => whnf
    refine LoopG.mk (Nat × (Int × Int × (List Int) × (List Int)) × Value × Value) (fun y => [(2, .d (.ref (.agg [I b1.fLaw.fBase, I b1.fLaw.fPercent, I b1.fLaw.fCap, I b1.fLaw.fLeast, I b1.fLaw.fBlind, .list 1 (List.map I b1.fBowlers), .list 6 (List.map Ref07Sheet.enc b1.fSheets), .list 1 (List.map I b1.fWithdrawn)]))), (5, .d (I y.2.1.1)), (6, .sl 135 y.2.2.1), (7, .sl 139 y.2.2.2), (8, .d (I y.2.1.2.1))]) (fun y => [(135, .arr y.2.2.1 3 1 false (List.map I y.2.1.2.2.1)), (139, .arr y.2.2.2 3 1 false (List.map I y.2.1.2.2.2))]) (fun y => loopN (fun rr x => law07RateBounds_b5 N b1 rr x.1 x.2.1 x.2.2.1 x.2.2.2) y.1 y.2.1 = some r) (fun y => y.1) (N, (w64 (1 + (Int.tmod (w64 week1) 30)), 0, [], []), (.slice none 0 0), (.slice none 0 0)) h (Sub.eq rfl ?_ ?_) ?_
    ·repeat ((conv => whnf); refine Need.mk rfl ?_)
     exact trivial
    ·conv => whnf
     refine Need.mk (OLe.nil _ _ _ _) ?_
     conv => whnf
     refine Need.mk (OLe.nil _ _ _ _) ?_
     exact trivial
    ·rintro ⟨n14, ⟨w10, k8, l45, l46⟩, hd65, hd66⟩ hl14
     obtain ⟨n14, rfl, hl14⟩ := loopN_some hl14
     replace hl14 : law07RateBounds_b5 N b1 (loopN (fun rr x => law07RateBounds_b5 N b1 rr x.1 x.2.1 x.2.2.1 x.2.2.2) n14) w10 k8 l45 l46 = some r := hl14
     rw [law07RateBounds_b5] at hl14
     conv => whnf
     refine LnA.mk _ (List.length_map _) ?_
     conv => whnf
     refine Br.mk (fun hc1858 => ?_) (fun hc1858 => ?_)
     ·replace hl14 := ite_t hc1858 hl14
      conv => whnf
      refine SeqG.mk ((List Int) × (List Int) × Value × Value) (fun y => [(2, .d (.ref (.agg [I b1.fLaw.fBase, I b1.fLaw.fPercent, I b1.fLaw.fCap, I b1.fLaw.fLeast, I b1.fLaw.fBlind, .list 1 (List.map I b1.fBowlers), .list 6 (List.map Ref07Sheet.enc b1.fSheets), .list 1 (List.map I b1.fWithdrawn)]))), (5, .d (I w10)), (6, .sl 135 y.2.2.1), (7, .sl 139 y.2.2.2), (8, .d (I k8))]) (fun y => [(135, .arr y.2.2.1 3 1 false (List.map I y.1)), (139, .arr y.2.2.2 3 1 false (List.map I y.2.1))]) (fun y => law07RateBounds_k2 N w10 k8 (loopN (fun rr x => law07RateBounds_b5 N b1 rr x.1 x.2.1 x.2.2.1 x.2.2.2) n14) y.1 y.2.1 = some r) ?_ ?_
      ·obtain ⟨r56, hx905, hl14⟩ := obind hl14
       conv => whnf
       refine CallG.pure _ (law07BookC hN hx905) ?_
       obtain ⟨⟨ra46, rb46⟩, hx906, hl14⟩ := obind hl14
       conv => whnf
       refine CallG.pure _ (rateAverageC hN hx906) ?_
       obtain ⟨r58, hx909, hl14⟩ := obind hl14
       conv => whnf
       refine CallG.pure _ (law07BookC hN hx909) ?_
       obtain ⟨⟨ra48, rb48⟩, hx910, hl14⟩ := obind hl14
       conv => whnf
       refine CallG.pure _ (rateHandicapC hN hx910) ?_
       obtain ⟨v108, hx912, hl14⟩ := obind hl14
       conv => whnf
       refine SeqG.mk Unit (fun y => [(2, .d (.ref (.agg [I b1.fLaw.fBase, I b1.fLaw.fPercent, I b1.fLaw.fCap, I b1.fLaw.fLeast, I b1.fLaw.fBlind, .list 1 (List.map I b1.fBowlers), .list 6 (List.map Ref07Sheet.enc b1.fSheets), .list 1 (List.map I b1.fWithdrawn)]))), (5, .d (I w10)), (6, .sl 135 hd65), (7, .sl 139 hd66), (8, .d (I k8)), (9, .d (I ra46)), (11, .d (I ra48)), (80, .d (.bool v108))]) (fun y => [(135, .arr hd65 3 1 false (List.map I l45)), (139, .arr hd66 3 1 false (List.map I l46))]) (fun _ => True) ?_ ?_
       ·conv => whnf
        refine Br.mk (fun hc2168 => ?_) (fun hc2168 => ?_)
        ·replace hx912 := ite_f hc2168 hx912
         conv => whnf
         refine Br.mk (fun hc2169 => ?_) (fun hc2169 => ?_)
         ·replace hx912 := ite_f hc2169 hx912
          conv => whnf
          refine Br.mk (fun hc2170 => ?_) (fun hc2170 => ?_)
          ·replace hx912 := ite_f hc2170 hx912
           conv => whnf
           refine Br.mk (fun hc2171 => ?_) (fun hc2171 => ?_)
           ·replace hx912 := ite_f hc2171 hx912
            conv => whnf
            refine Br.mk (fun hc2172 => ?_) (fun hc2172 => ?_)
            ·replace hx912 := ite_f hc2172 hx912
             conv => whnf
             refine Br.mk (fun hc2173 => ?_) (fun hc2173 => ?_)
             ·replace hx912 := ite_f hc2173 hx912
              cases hx912
              conv => whnf
              refine ⟨(), trivial, Sub.eq rfl ?_ ?_⟩
              ·repeat ((conv => whnf); refine Need.mk rfl ?_)
               exact trivial
              ·conv => whnf
               refine Need.mk (OLe.refl _) ?_
               conv => whnf
               refine Need.mk (OLe.refl _) ?_
               exact trivial
             ·replace hx912 := ite_t hc2173 hx912
              cases hx912
              conv => whnf
              refine ⟨(), trivial, Sub.eq rfl ?_ ?_⟩
              ·repeat ((conv => whnf); refine Need.mk rfl ?_)
               exact trivial
              ·conv => whnf
               refine Need.mk (OLe.refl _) ?_
               conv => whnf
               refine Need.mk (OLe.refl _) ?_
               exact trivial
            ·replace hx912 := ite_t hc2172 hx912
             cases hx912
             conv => whnf
             refine ⟨(), trivial, Sub.eq rfl ?_ ?_⟩
             ·repeat ((conv => whnf); refine Need.mk rfl ?_)
              exact trivial
             ·conv => whnf
              refine Need.mk (OLe.refl _) ?_
              conv => whnf
              refine Need.mk (OLe.refl _) ?_
              exact trivial
           ·replace hx912 := ite_t hc2171 hx912
            cases hx912
            conv => whnf
            refine ⟨(), trivial, Sub.eq rfl ?_ ?_⟩
            ·repeat ((conv => whnf); refine Need.mk rfl ?_)
             exact trivial
            ·conv => whnf
             refine Need.mk (OLe.refl _) ?_
             conv => whnf
             refine Need.mk (OLe.refl _) ?_
             exact trivial
          ·replace hx912 := ite_t hc2170 hx912
           cases hx912
           conv => whnf
           refine ⟨(), trivial, Sub.eq rfl ?_ ?_⟩
           ·repeat ((conv => whnf); refine Need.mk rfl ?_)
            exact trivial
           ·conv => whnf
            refine Need.mk (OLe.refl _) ?_
            conv => whnf
            refine Need.mk (OLe.refl _) ?_
            exact trivial
         ·replace hx912 := ite_t hc2169 hx912
          cases hx912
          conv => whnf
          refine ⟨(), trivial, Sub.eq rfl ?_ ?_⟩
          ·repeat ((conv => whnf); refine Need.mk rfl ?_)
           exact trivial
          ·conv => whnf
           refine Need.mk (OLe.refl _) ?_
           conv => whnf
           refine Need.mk (OLe.refl _) ?_
           exact trivial
        ·replace hx912 := ite_t hc2168 hx912
         cases hx912
         conv => whnf
         refine ⟨(), trivial, Sub.eq rfl ?_ ?_⟩
         ·repeat ((conv => whnf); refine Need.mk rfl ?_)
          exact trivial
         ·conv => whnf
          refine Need.mk (OLe.refl _) ?_
          conv => whnf
          refine Need.mk (OLe.refl _) ?_
          exact trivial
       ·rintro _ _
        conv => whnf
        refine Br.mk (fun hc2174 => ?_) (fun hc2174 => ?_)
        ·replace hl14 := ite_t hc2174 hl14
         conv => whnf
         cases hl14
         exact rfl
        ·replace hl14 := ite_f hc2174 hl14
         conv => whnf
         refine SeqG.mk Unit (fun y => [(2, .d (.ref (.agg [I b1.fLaw.fBase, I b1.fLaw.fPercent, I b1.fLaw.fCap, I b1.fLaw.fLeast, I b1.fLaw.fBlind, .list 1 (List.map I b1.fBowlers), .list 6 (List.map Ref07Sheet.enc b1.fSheets), .list 1 (List.map I b1.fWithdrawn)]))), (5, .d (I w10)), (6, .sl 135 hd65), (7, .sl 139 hd66), (8, .d (I k8)), (9, .d (I ra46)), (11, .d (I ra48))]) (fun y => [(135, .arr hd65 3 1 false (List.map I l45)), (139, .arr hd66 3 1 false (List.map I l46))]) (fun y => law07RateBounds_k3 N w10 k8 l45 l46 (loopN (fun rr x => law07RateBounds_b5 N b1 rr x.1 x.2.1 x.2.2.1 x.2.2.2) n14) ra46 ra48 = some r) ?_ ?_
         ·conv => whnf
          refine LoopG.mk (Nat × Int) (fun y => [(2, .d (.ref (.agg [I b1.fLaw.fBase, I b1.fLaw.fPercent, I b1.fLaw.fCap, I b1.fLaw.fLeast, I b1.fLaw.fBlind, .list 1 (List.map I b1.fBowlers), .list 6 (List.map Ref07Sheet.enc b1.fSheets), .list 1 (List.map I b1.fWithdrawn)]))), (5, .d (I w10)), (6, .sl 135 hd65), (7, .sl 139 hd66), (8, .d (I k8)), (9, .d (I ra46)), (11, .d (I ra48)), (13, .d (I y.2))]) (fun y => [(135, .arr hd65 3 1 false (List.map I l45)), (139, .arr hd66 3 1 false (List.map I l46))]) (fun y => loopN (fun rr x => law07RateBounds_b4 N w10 k8 l45 l46 (loopN (fun rr x => law07RateBounds_b5 N b1 rr x.1 x.2.1 x.2.2.1 x.2.2.2) n14) ra46 ra48 rr x) y.1 y.2 = some r) (fun y => y.1) (N, 0) hl14 (Sub.eq rfl ?_ ?_) ?_
          ·repeat ((conv => whnf); refine Need.mk rfl ?_)
           exact trivial
          ·conv => whnf
           refine Need.mk (OLe.refl _) ?_
           conv => whnf
           refine Need.mk (OLe.refl _) ?_
           exact trivial
          ·rintro ⟨n18, i64⟩ hl18
           obtain ⟨n18, rfl, hl18⟩ := loopN_some hl18
           replace hl18 : law07RateBounds_b4 N w10 k8 l45 l46 (loopN (fun rr x => law07RateBounds_b5 N b1 rr x.1 x.2.1 x.2.2.1 x.2.2.2) n14) ra46 ra48 (loopN (fun rr x => law07RateBounds_b4 N w10 k8 l45 l46 (loopN (fun rr x => law07RateBounds_b5 N b1 rr x.1 x.2.1 x.2.2.1 x.2.2.2) n14) ra46 ra48 rr x) n18) i64 = some r := hl18
           rw [law07RateBounds_b4] at hl18
           conv => whnf
           refine Br.mk (fun hc2396 => ?_) (fun hc2396 => ?_)
           ·replace hl18 := ite_t hc2396 hl18
            obtain ⟨v120, hx1018, hl18⟩ := obind hl18
            conv => whnf
            refine SeqG.mk Unit (fun y => [(2, .d (.ref (.agg [I b1.fLaw.fBase, I b1.fLaw.fPercent, I b1.fLaw.fCap, I b1.fLaw.fLeast, I b1.fLaw.fBlind, .list 1 (List.map I b1.fBowlers), .list 6 (List.map Ref07Sheet.enc b1.fSheets), .list 1 (List.map I b1.fWithdrawn)]))), (5, .d (I w10)), (6, .sl 135 hd65), (7, .sl 139 hd66), (8, .d (I k8)), (9, .d (I ra46)), (11, .d (I ra48)), (13, .d (I i64)), (131, .d (.bool v120))]) (fun y => [(135, .arr hd65 3 1 false (List.map I l45)), (139, .arr hd66 3 1 false (List.map I l46))]) (fun _ => True) ?_ ?_
            ·obtain ⟨x765, hx1019, hx1018⟩ := obind hx1018
             conv => whnf
             refine Side.mk ⟨rfl, rfl⟩ (Need.mk (idx_need _ hx1019) ?_)
             conv => whnf
             refine Side.mk ⟨rfl, rfl⟩ ⟨_, Int.natCast_nonneg _, idx_el _ hx1019, ?_⟩
             conv => whnf
             refine Br.mk (fun hc2428 => ?_) (fun hc2428 => ?_)
             ·replace hx1018 := ite_t hc2428 hx1018
              obtain ⟨x766, hx1020, hx1018⟩ := obind hx1018
              conv => whnf
              refine Side.mk ⟨rfl, rfl⟩ (Need.mk (idx_need _ hx1020) ?_)
              conv => whnf
              refine Side.mk ⟨rfl, rfl⟩ ⟨_, Int.natCast_nonneg _, idx_el _ hx1020, ?_⟩
              conv => whnf
              refine Br.mk (fun hc2429 => ?_) (fun hc2429 => ?_)
              ·replace hx1018 := ite_f hc2429 hx1018
               conv => whnf
               refine Side.mk ⟨rfl, rfl⟩ (Need.mk (idx_need _ hx1019) ?_)
               conv => whnf
               refine Side.mk ⟨rfl, rfl⟩ ⟨_, Int.natCast_nonneg _, idx_el _ hx1019, ?_⟩
               conv => whnf
               refine Br.mk (fun hc2430 => ?_) (fun hc2430 => ?_)
               ·replace hx1018 := ite_t hc2430 hx1018
                conv => whnf
                refine Side.mk ⟨rfl, rfl⟩ (Need.mk (idx_need _ hx1020) ?_)
                conv => whnf
                refine Side.mk ⟨rfl, rfl⟩ ⟨_, Int.natCast_nonneg _, idx_el _ hx1020, ?_⟩
                conv => whnf
                refine Br.mk (fun hc2431 => ?_) (fun hc2431 => ?_)
                ·replace hx1018 := ite_f hc2431 hx1018
                 conv => whnf
                 refine Side.mk ⟨rfl, rfl⟩ (Need.mk (idx_need _ hx1019) ?_)
                 conv => whnf
                 refine Side.mk ⟨rfl, rfl⟩ ⟨_, Int.natCast_nonneg _, idx_el _ hx1019, ?_⟩
                 conv => whnf
                 refine Br.mk (fun hc2432 => ?_) (fun hc2432 => ?_)
                 ·replace hx1018 := ite_t hc2432 hx1018
                  conv => whnf
                  refine Side.mk ⟨rfl, rfl⟩ (Need.mk (idx_need _ hx1020) ?_)
                  conv => whnf
                  refine Side.mk ⟨rfl, rfl⟩ ⟨_, Int.natCast_nonneg _, idx_el _ hx1020, ?_⟩
                  cases hx1018
                  conv => whnf
                  refine ⟨(), trivial, Sub.eq rfl ?_ ?_⟩
                  ·repeat ((conv => whnf); refine Need.mk rfl ?_)
                   exact trivial
                  ·conv => whnf
                   refine Need.mk (OLe.refl _) ?_
                   conv => whnf
                   refine Need.mk (OLe.refl _) ?_
                   exact trivial
                 ·replace hx1018 := ite_f hc2432 hx1018
                  cases hx1018
                  conv => whnf
                  refine ⟨(), trivial, Sub.eq rfl ?_ ?_⟩
                  ·repeat ((conv => whnf); refine Need.mk rfl ?_)
                   exact trivial
                  ·conv => whnf
                   refine Need.mk (OLe.refl _) ?_
                   conv => whnf
                   refine Need.mk (OLe.refl _) ?_
                   exact trivial
                ·replace hx1018 := ite_t hc2431 hx1018
                 cases hx1018
                 conv => whnf
                 refine ⟨(), trivial, Sub.eq rfl ?_ ?_⟩
                 ·repeat ((conv => whnf); refine Need.mk rfl ?_)
                  exact trivial
                 ·conv => whnf
                  refine Need.mk (OLe.refl _) ?_
                  conv => whnf
                  refine Need.mk (OLe.refl _) ?_
                  exact trivial
               ·replace hx1018 := ite_f hc2430 hx1018
                conv => whnf
                refine Side.mk ⟨rfl, rfl⟩ (Need.mk (idx_need _ hx1019) ?_)
                conv => whnf
                refine Side.mk ⟨rfl, rfl⟩ ⟨_, Int.natCast_nonneg _, idx_el _ hx1019, ?_⟩
                conv => whnf
                refine Br.mk (fun hc2433 => ?_) (fun hc2433 => ?_)
                ·replace hx1018 := ite_t hc2433 hx1018
                 conv => whnf
                 refine Side.mk ⟨rfl, rfl⟩ (Need.mk (idx_need _ hx1020) ?_)
                 conv => whnf
                 refine Side.mk ⟨rfl, rfl⟩ ⟨_, Int.natCast_nonneg _, idx_el _ hx1020, ?_⟩
                 cases hx1018
                 conv => whnf
                 refine ⟨(), trivial, Sub.eq rfl ?_ ?_⟩
                 ·repeat ((conv => whnf); refine Need.mk rfl ?_)
                  exact trivial
                 ·conv => whnf
                  refine Need.mk (OLe.refl _) ?_
                  conv => whnf
                  refine Need.mk (OLe.refl _) ?_
                  exact trivial
                ·replace hx1018 := ite_f hc2433 hx1018
                 cases hx1018
                 conv => whnf
                 refine ⟨(), trivial, Sub.eq rfl ?_ ?_⟩
                 ·repeat ((conv => whnf); refine Need.mk rfl ?_)
                  exact trivial
                 ·conv => whnf
                  refine Need.mk (OLe.refl _) ?_
                  conv => whnf
                  refine Need.mk (OLe.refl _) ?_
                  exact trivial
              ·replace hx1018 := ite_t hc2429 hx1018
               cases hx1018
               conv => whnf
               refine ⟨(), trivial, Sub.eq rfl ?_ ?_⟩
               ·repeat ((conv => whnf); refine Need.mk rfl ?_)
                exact trivial
               ·conv => whnf
                refine Need.mk (OLe.refl _) ?_
                conv => whnf
                refine Need.mk (OLe.refl _) ?_
                exact trivial
             ·replace hx1018 := ite_f hc2428 hx1018
              conv => whnf
              refine Side.mk ⟨rfl, rfl⟩ (Need.mk (idx_need _ hx1019) ?_)
              conv => whnf
              refine Side.mk ⟨rfl, rfl⟩ ⟨_, Int.natCast_nonneg _, idx_el _ hx1019, ?_⟩
              conv => whnf
              refine Br.mk (fun hc2434 => ?_) (fun hc2434 => ?_)
              ·replace hx1018 := ite_t hc2434 hx1018
               obtain ⟨x767, hx1021, hx1018⟩ := obind hx1018
               conv => whnf
               refine Side.mk ⟨rfl, rfl⟩ (Need.mk (idx_need _ hx1021) ?_)
               conv => whnf
               refine Side.mk ⟨rfl, rfl⟩ ⟨_, Int.natCast_nonneg _, idx_el _ hx1021, ?_⟩
               conv => whnf
               refine Br.mk (fun hc2435 => ?_) (fun hc2435 => ?_)
               ·replace hx1018 := ite_f hc2435 hx1018
                conv => whnf
                refine Side.mk ⟨rfl, rfl⟩ (Need.mk (idx_need _ hx1019) ?_)
                conv => whnf
                refine Side.mk ⟨rfl, rfl⟩ ⟨_, Int.natCast_nonneg _, idx_el _ hx1019, ?_⟩
                conv => whnf
                refine Br.mk (fun hc2436 => ?_) (fun hc2436 => ?_)
                ·replace hx1018 := ite_t hc2436 hx1018
                 conv => whnf
                 refine Side.mk ⟨rfl, rfl⟩ (Need.mk (idx_need _ hx1021) ?_)
                 conv => whnf
                 refine Side.mk ⟨rfl, rfl⟩ ⟨_, Int.natCast_nonneg _, idx_el _ hx1021, ?_⟩
                 cases hx1018
                 conv => whnf
                 refine ⟨(), trivial, Sub.eq rfl ?_ ?_⟩
                 ·repeat ((conv => whnf); refine Need.mk rfl ?_)
                  exact trivial
                 ·conv => whnf
                  refine Need.mk (OLe.refl _) ?_
                  conv => whnf
                  refine Need.mk (OLe.refl _) ?_
                  exact trivial
                ·replace hx1018 := ite_f hc2436 hx1018
                 cases hx1018
                 conv => whnf
                 refine ⟨(), trivial, Sub.eq rfl ?_ ?_⟩
                 ·repeat ((conv => whnf); refine Need.mk rfl ?_)
                  exact trivial
                 ·conv => whnf
                  refine Need.mk (OLe.refl _) ?_
                  conv => whnf
                  refine Need.mk (OLe.refl _) ?_
                  exact trivial
               ·replace hx1018 := ite_t hc2435 hx1018
                cases hx1018
                conv => whnf
                refine ⟨(), trivial, Sub.eq rfl ?_ ?_⟩
                ·repeat ((conv => whnf); refine Need.mk rfl ?_)
                 exact trivial
                ·conv => whnf
                 refine Need.mk (OLe.refl _) ?_
                 conv => whnf
                 refine Need.mk (OLe.refl _) ?_
                 exact trivial
              ·replace hx1018 := ite_f hc2434 hx1018
               conv => whnf
               refine Side.mk ⟨rfl, rfl⟩ (Need.mk (idx_need _ hx1019) ?_)
               conv => whnf
               refine Side.mk ⟨rfl, rfl⟩ ⟨_, Int.natCast_nonneg _, idx_el _ hx1019, ?_⟩
               conv => whnf
               refine Br.mk (fun hc2437 => ?_) (fun hc2437 => ?_)
               ·replace hx1018 := ite_t hc2437 hx1018
                obtain ⟨x768, hx1022, hx1018⟩ := obind hx1018
                conv => whnf
                refine Side.mk ⟨rfl, rfl⟩ (Need.mk (idx_need _ hx1022) ?_)
                conv => whnf
                refine Side.mk ⟨rfl, rfl⟩ ⟨_, Int.natCast_nonneg _, idx_el _ hx1022, ?_⟩
                cases hx1018
                conv => whnf
                refine ⟨(), trivial, Sub.eq rfl ?_ ?_⟩
                ·repeat ((conv => whnf); refine Need.mk rfl ?_)
                 exact trivial
                ·conv => whnf
                 refine Need.mk (OLe.refl _) ?_
                 conv => whnf
                 refine Need.mk (OLe.refl _) ?_
                 exact trivial
               ·replace hx1018 := ite_f hc2437 hx1018
                cases hx1018
                conv => whnf
                refine ⟨(), trivial, Sub.eq rfl ?_ ?_⟩
                ·repeat ((conv => whnf); refine Need.mk rfl ?_)
                 exact trivial
                ·conv => whnf
                 refine Need.mk (OLe.refl _) ?_
                 conv => whnf
                 refine Need.mk (OLe.refl _) ?_
                 exact trivial
            ·rintro _ _
             conv => whnf
             refine Br.mk (fun hc2438 => ?_) (fun hc2438 => ?_)
             ·replace hl18 := ite_t hc2438 hl18
              conv => whnf
              cases hl18
              exact rfl
             ·replace hl18 := ite_f hc2438 hl18
              conv => whnf
              refine ⟨(n18, w64 (i64 + 1)), hl18, Sub.eq rfl ?_ ?_, Nat.lt_succ_self _⟩
              ·repeat ((conv => whnf); refine Need.mk rfl ?_)
               exact trivial
              ·conv => whnf
               refine Need.mk (OLe.refl _) ?_
               conv => whnf
               refine Need.mk (OLe.refl _) ?_
               exact trivial
           ·replace hl18 := ite_f hc2396 hl18
            conv => whnf
            refine ⟨(), hl18, Sub.eq rfl ?_ ?_⟩
            ·repeat ((conv => whnf); refine Need.mk rfl ?_)
             exact trivial
            ·conv => whnf
             refine Need.mk (OLe.refl _) ?_
             conv => whnf
             refine Need.mk (OLe.refl _) ?_
             exact trivial
         ·rintro _ h
          unfold law07RateBounds_k3 at h
          conv => whnf
          intro hd73
          obtain ⟨l51, hx967, h⟩ := obind h
          conv => whnf
          refine Side.mk ⟨rfl, rfl⟩ ?_
          conv => whnf
          refine Side.mk ⟨rfl, rfl, rfl⟩ (Need.mk (app_need hN hx967 (by decide)) (Eqv.mk (List.map I l51) (app_map _ hx967) ?_))
          conv => whnf
          intro hd74
          conv => whnf
          intro hd75
          obtain ⟨l52, hx968, h⟩ := obind h
          conv => whnf
          refine Side.mk ⟨rfl, rfl⟩ ?_
          conv => whnf
          refine Side.mk ⟨rfl, rfl, rfl⟩ (Need.mk (app_need hN hx968 (by decide)) (Eqv.mk (List.map I l52) (app_map _ hx968) ?_))
          conv => whnf
          intro hd76
          conv => whnf
          refine ⟨(l51, l52, hd74, hd76), h, Sub.eq rfl ?_ ?_⟩
          ·repeat ((conv => whnf); refine Need.mk rfl ?_)
           exact trivial
          ·conv => whnf
           refine Need.mk (OLe.refl _) ?_
           conv => whnf
           refine Need.mk (OLe.refl _) ?_
           exact trivial
      ·rintro ⟨l49, l50, hd71, hd72⟩ h
       unfold law07RateBounds_k2 at h
       conv => whnf
       refine ⟨(n14, (w10, w64 (k8 + 1), l49, l50), hd71, hd72), h, Sub.eq rfl ?_ ?_, Nat.lt_succ_self _⟩
       ·repeat ((conv => whnf); refine Need.mk rfl ?_)
        exact trivial
       ·conv => whnf
        refine Need.mk (OLe.refl _) ?_
        conv => whnf
        refine Need.mk (OLe.refl _) ?_
        exact trivial
     ·replace hl14 := ite_f hc1858 hl14
      conv => whnf
      refine ⟨(), hl14, Sub.eq rfl ?_ ?_⟩
      ·repeat ((conv => whnf); refine Need.mk rfl ?_)
       exact trivial
      ·exact trivial
   ·clear h
    rintro _ h
    unfold law07RateBounds_k1 at h
    obtain ⟨r34, hx516, h⟩ := obind h
    conv => whnf
    refine CallG.pure _ (law07WakesC hN hx516) ?_
    conv => whnf
    cases h
    exact rfl
end Go.Proofs.Ytmencjafjcmbaaa
