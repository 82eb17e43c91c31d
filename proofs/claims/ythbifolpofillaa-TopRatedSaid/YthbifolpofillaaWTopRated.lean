/-
  The walk of the law TopRated.
-/
import Derived.Test.YthbifolpofillaaDTopRated
import Derived.Test.YthbifolpofillaaWc
namespace Go.Proofs.Ythbifolpofillaa
open Go Go.Abs Go.Kp
set_option maxRecDepth 100000
set_option maxHeartbeats 8000000
set_option linter.all false

theorem kingpintopTopRatedC {N : Nat} (hN : N ≤ 1073741824) {a1 : Ref01Law} {a2 : List (List Int)} {a3 : List Int} {r : Bool} (h : kingpintopTopRated N a1 a2 a3 = some r) :
    ACalls Try.prog 3 [.d (.agg [I a1.fFrames, I a1.fPins, I a1.fBalls, I a1.fTap]), .d (.list 1 (List.map (fun x => .list 1 (List.map I x)) a2)), .d (.list 1 (List.map (fun x => .int .u8 x) a3))] [] fun e os => e = .ret (.d (.bool r)) ∧ os = [] := by
  refine acalls_f (fresh := false) tt_ok dr_ok ⟨[3], [], [], [], [1, 7, 11, 12, 13, 22, 1009], 0⟩ Try.func3 rfl Try.call3 rfl ?_
  unfold kingpintopTopRated at h
  obtain ⟨v2, hx7, h⟩ := obind h
  conv => whnf
  refine SeqG.mk Unit (fun y => [(1, .d (.list 1 (List.map (fun x => .list 1 (List.map I x)) a2))), (2, .d (.list 1 (List.map (fun x => .int .u8 x) a3))), (3, .d (.ref (.agg [I a1.fFrames, I a1.fPins, I a1.fBalls, I a1.fTap]))), (34, .d (.bool v2))]) (fun y => []) (fun _ => True) ?_ ?_
  · obtain ⟨r6, hx8, hx7⟩ := obind hx7
    conv => whnf
    refine CallG.pure _ (ref01IsLawC hN hx8) ?_
    conv => whnf
    refine Br.mk (fun hc5 => ?_) (fun hc5 => ?_)
    · replace hx7 := ite_f hc5 hx7
      conv => whnf
      refine Ln.mk _ (List.length_map _) ?_
      cases hx7
      conv => whnf
      refine ⟨(), trivial, Sub.eq rfl ?_ ?_⟩
      · repeat ((conv => whnf); refine Need.mk rfl ?_)
        exact trivial
      · exact trivial
    · replace hx7 := ite_t hc5 hx7
      cases hx7
      conv => whnf
      refine ⟨(), trivial, Sub.eq rfl ?_ ?_⟩
      · repeat ((conv => whnf); refine Need.mk rfl ?_)
        exact trivial
      · exact trivial
  · rintro _ _
    conv => whnf
    refine Br.mk (fun hc6 => ?_) (fun hc6 => ?_)
    · replace h := ite_t hc6 h
      obtain ⟨r8, hx10, h⟩ := obind h
      conv => whnf
      refine CallG.pure _ (kingpintopRatedC hN hx10) ?_
      conv => whnf
      cases h
      exact rfl
    · replace h := ite_f hc6 h
      conv => whnf
      intro b4
      conv => whnf
      intro b5
      conv => whnf
      intro b6
      conv => whnf
      refine LoopG.unr 4 ?_
      obtain ⟨v53, hx314, h⟩ := obind h
      conv => whnf
      refine SeqG.mk Unit (fun y => [(1, .d (.list 1 (List.map (fun x => .list 1 (List.map I x)) a2))), (2, .d (.list 1 (List.map (fun x => .int .u8 x) a3))), (3, .d (.ref (.agg [I a1.fFrames, I a1.fPins, I a1.fBalls, I a1.fTap]))), (7, .ptr 7 b4 0), (8, .ptr 8 b5 0), (9, .ptr 9 b6 0), (10, .i .i64 0), (54, .d (.bool v53))]) (fun y => [(7, .cells b4 [.d (I 0), .d (I 0), .d (I 0)]), (8, .cells b5 [.d (I 0), .d (I 0), .d (I 0)]), (9, .cells b6 [.d (I 0), .d (I 0), .d (I 0)])]) (fun _ => True) ?_ ?_
      · obtain ⟨x81, hx315, hx314⟩ := obind hx314
        conv => whnf
        refine DrawG.mk (.take 0 (.take 1 (.take 2 (.take 3 (.take 4 (.take 5 (.take 6 (.spl 46 (.take 7 (.take 8 (.take 9 (.take 10 (.take 11 (.alt 12 [10, 9, 8, 5, 4, 3, 2, 1, 0] (.take 13 (.take 14 .done)) .nil)))))))))))))) (by kernel_rfl) ?_
        conv => whnf
        refine Side.mk rfl ⟨_, idx_0 hx315, idx_map _ hx315, ?_⟩
        conv => whnf
        refine Ln.mk _ (List.length_map _) ?_
        conv => whnf
        refine Br.mk (fun hc221 => ?_) (fun hc221 => ?_)
        · replace hx314 := ite_t hc221 hx314
          conv => whnf
          refine Both.mk ?_ trivial
          conv => whnf
          refine Need.mk rfl ?_
          conv => whnf
          refine Need.mk rfl ?_
          conv => whnf
          refine Need.mk rfl ?_
          conv => whnf
          refine Need.mk (AV.le_refl _) ?_
          conv => whnf
          refine Ln.mk _ (List.length_map _) ?_
          conv => whnf
          refine Need.mk (AV.le_refl _) ?_
          conv => whnf
          refine Need.mk (AV.le_refl _) ?_
          conv => whnf
          refine Side.mk rfl ⟨_, idx_0 hx315, idx_map _ hx315, ?_⟩
          conv => whnf
          refine Need.mk (AV.le_refl _) ?_
          conv => whnf
          refine Need.mk (AV.le_refl _) ?_
          conv => whnf
          refine Need.mk (AV.le_refl _) ?_
          cases hx314
          conv => whnf
          refine ⟨(), trivial, Sub.eq rfl ?_ ?_⟩
          · repeat ((conv => whnf); refine Need.mk rfl ?_)
            exact trivial
          · conv => whnf
            refine Need.mk (OLe.refl _) ?_
            conv => whnf
            refine Need.mk (OLe.refl _) ?_
            conv => whnf
            refine Need.mk (OLe.refl _) ?_
            exact trivial
        · replace hx314 := ite_f hc221 hx314
          obtain ⟨r112, hx316, hx314⟩ := obind hx314
          conv => whnf
          refine Side.mk rfl ⟨_, idx_0 hx315, idx_map _ hx315, ?_⟩
          conv => whnf
          refine Both.mk ?_ trivial
          conv => whnf
          refine CallG.pure _ (ref01IsC hN hx316) ?_
          conv => whnf
          refine Side.mk rfl ⟨_, idx_0 hx315, idx_map _ hx315, ?_⟩
          conv => whnf
          refine Need.mk (AV.le_refl _) ?_
          conv => whnf
          refine Need.mk (AV.le_refl _) ?_
          conv => whnf
          refine Need.mk (AV.le_refl _) ?_
          conv => whnf
          refine Need.mk (AV.le_refl _) ?_
          conv => whnf
          refine Ln.mk _ (List.length_map _) ?_
          conv => whnf
          refine Need.mk (AV.le_refl _) ?_
          conv => whnf
          refine Need.mk (AV.le_refl _) ?_
          conv => whnf
          refine Side.mk rfl ⟨_, idx_0 hx315, idx_map _ hx315, ?_⟩
          conv => whnf
          refine Need.mk (AV.le_refl _) ?_
          conv => whnf
          refine Need.mk (AV.le_refl _) ?_
          conv => whnf
          refine Need.mk (AV.le_refl _) ?_
          cases hx314
          conv => whnf
          refine ⟨(), trivial, Sub.eq rfl ?_ ?_⟩
          · repeat ((conv => whnf); refine Need.mk rfl ?_)
            exact trivial
          · conv => whnf
            refine Need.mk (OLe.refl _) ?_
            conv => whnf
            refine Need.mk (OLe.refl _) ?_
            conv => whnf
            refine Need.mk (OLe.refl _) ?_
            exact trivial
      · rintro _ _
        conv => whnf
        refine Br.mk (fun hc222 => ?_) (fun hc222 => ?_)
        · replace h := ite_t hc222 h
          obtain ⟨r114, hx318, h⟩ := obind h
          conv => whnf
          refine CallG.pure _ (kingpintopRatedC hN hx318) ?_
          conv => whnf
          cases h
          exact rfl
        · replace h := ite_f hc222 h
          obtain ⟨v54, hx322, h⟩ := obind h
          conv => whnf
          refine SeqG.mk Unit (fun y => [(1, .d (.list 1 (List.map (fun x => .list 1 (List.map I x)) a2))), (2, .d (.list 1 (List.map (fun x => .int .u8 x) v54))), (3, .d (.ref (.agg [I a1.fFrames, I a1.fPins, I a1.fBalls, I a1.fTap]))), (7, .ptr 7 b4 0), (8, .ptr 8 b5 0), (9, .ptr 9 b6 0), (10, .i .i64 0)]) (fun y => [(7, .cells b4 [.d (I 0), .d (I 0), .d (I 0)]), (8, .cells b5 [.d (I 0), .d (I 0), .d (I 0)]), (9, .cells b6 [.d (I 0), .d (I 0), .d (I 0)])]) (fun _ => True) ?_ ?_
          · conv => whnf
            refine Ln.mk _ (List.length_map _) ?_
            conv => whnf
            refine Br.mk (fun hc224 => ?_) (fun hc224 => ?_)
            · replace hx322 := ite_t hc224 hx322
              obtain ⟨x83, hx323, hx322⟩ := obind hx322
              obtain ⟨l45, hx324, hx322⟩ := obind hx322
              obtain ⟨l46, hx325, hx322⟩ := obind hx322
              conv => whnf
              refine DrawG.mk (.take 0 (.take 1 (.take 2 (.take 3 (.take 4 (.take 6 (.take 7 (.take 8 (.alt 5 [8, 7, 6, 3, 1] (.alt 9 [7, 6, 3, 1] (.alt 10 [7, 6, 3, 1] (.alt 11 [] .done .nil) .nil) .nil) (.alt 9 [7, 6, 4, 3, 2, 1, 0] (.alt 5 [7, 6, 3, 1] (.alt 10 [7, 6, 3, 1] (.alt 11 [] .done .nil) .nil) .nil) .nil)))))))))) (by kernel_rfl) ?_
              conv => whnf
              refine Ln.mk _ (List.length_map _) ?_
              conv => whnf
              refine Ln.mk _ (List.length_map _) ?_
              conv => whnf
              refine Side.mk rfl ⟨_, idx_0 hx323, idx_map _ hx323, ?_⟩
              conv => whnf
              refine Both.mk ?_ ?_
              · conv => whnf
                refine Need.mk (slc_need3 _ hx324) (Eqv.mk (List.map (fun x => .int .u8 x) l45) (slc_map _ hx324) ?_)
                conv => whnf
                refine Need.mk (AV.le_refl _) ?_
                conv => whnf
                refine Side.mk rfl ⟨_, idx_0 hx323, idx_map _ hx323, ?_⟩
                conv => whnf
                refine Need.mk (AV.le_refl _) ?_
                conv => whnf
                refine Need.mk (AV.le_refl _) ?_
                conv => whnf
                refine Need.mk (AV.le_refl _) ?_
                conv => whnf
                refine Need.mk (AV.le_refl _) ?_
                conv => whnf
                refine Both.mk ?_ trivial
                conv => whnf
                intro hd149
                conv => whnf
                refine Side.mk rfl ⟨_, idx_0 hx323, idx_map _ hx323, ?_⟩
                conv => whnf
                refine Need.mk (AV.le_refl _) ?_
                conv => whnf
                refine Need.mk (AV.le_refl _) ?_
                conv => whnf
                refine Need.mk (AV.le_refl _) ?_
                conv => whnf
                refine Need.mk (AV.le_refl _) ?_
                conv => whnf
                refine Both.mk ?_ trivial
                conv => whnf
                refine Side.mk ⟨rfl, rfl⟩ ?_
                conv => whnf
                refine Side.mk rfl (Need.mk (appB_need hx325 (by decide)) (Eqv.mk (List.map (fun x => .int .u8 x) l46) (appB_map _ hx325) ?_))
                conv => whnf
                refine Side.mk rfl ⟨_, idx_0 hx323, idx_map _ hx323, ?_⟩
                conv => whnf
                refine Need.mk (AV.le_refl _) ?_
                conv => whnf
                refine Need.mk (AV.le_refl _) ?_
                conv => whnf
                refine Need.mk (AV.le_refl _) ?_
                conv => whnf
                refine Need.mk (AV.le_refl _) ?_
                conv => whnf
                refine Both.mk ?_ trivial
                cases hx322
                conv => whnf
                refine ⟨(), trivial, Sub.eq rfl ?_ ?_⟩
                · repeat ((conv => whnf); refine Need.mk rfl ?_)
                  exact trivial
                · conv => whnf
                  refine Need.mk (OLe.refl _) ?_
                  conv => whnf
                  refine Need.mk (OLe.refl _) ?_
                  conv => whnf
                  refine Need.mk (OLe.refl _) ?_
                  exact trivial
              · conv => whnf
                refine Both.mk ?_ trivial
                conv => whnf
                intro hd151
                conv => whnf
                refine Side.mk rfl ⟨_, idx_0 hx323, idx_map _ hx323, ?_⟩
                conv => whnf
                refine Need.mk (AV.le_refl _) ?_
                conv => whnf
                refine Need.mk (AV.le_refl _) ?_
                conv => whnf
                refine Ln.mk _ (List.length_map _) ?_
                conv => whnf
                refine Need.mk (AV.le_refl _) ?_
                conv => whnf
                refine Need.mk (AV.le_refl _) ?_
                conv => whnf
                refine Ln.mk _ (List.length_map _) ?_
                conv => whnf
                refine Need.mk (AV.le_refl _) ?_
                conv => whnf
                refine Need.mk (AV.le_refl _) ?_
                conv => whnf
                refine Need.mk (AV.le_refl _) ?_
                conv => whnf
                refine Both.mk ?_ trivial
                conv => whnf
                refine Need.mk (slc_need3 _ hx324) (Eqv.mk (List.map (fun x => .int .u8 x) l45) (slc_map _ hx324) ?_)
                conv => whnf
                refine Side.mk rfl ⟨_, idx_0 hx323, idx_map _ hx323, ?_⟩
                conv => whnf
                refine Need.mk (AV.le_refl _) ?_
                conv => whnf
                refine Need.mk (AV.le_refl _) ?_
                conv => whnf
                refine Need.mk (AV.le_refl _) ?_
                conv => whnf
                refine Need.mk (AV.le_refl _) ?_
                conv => whnf
                refine Both.mk ?_ trivial
                conv => whnf
                refine Side.mk ⟨rfl, rfl⟩ ?_
                conv => whnf
                refine Side.mk rfl (Need.mk (appB_need hx325 (by decide)) (Eqv.mk (List.map (fun x => .int .u8 x) l46) (appB_map _ hx325) ?_))
                conv => whnf
                refine Side.mk rfl ⟨_, idx_0 hx323, idx_map _ hx323, ?_⟩
                conv => whnf
                refine Need.mk (AV.le_refl _) ?_
                conv => whnf
                refine Need.mk (AV.le_refl _) ?_
                conv => whnf
                refine Need.mk (AV.le_refl _) ?_
                conv => whnf
                refine Need.mk (AV.le_refl _) ?_
                conv => whnf
                refine Both.mk ?_ trivial
                cases hx322
                conv => whnf
                refine ⟨(), trivial, Sub.eq rfl ?_ ?_⟩
                · repeat ((conv => whnf); refine Need.mk rfl ?_)
                  exact trivial
                · conv => whnf
                  refine Need.mk (OLe.refl _) ?_
                  conv => whnf
                  refine Need.mk (OLe.refl _) ?_
                  conv => whnf
                  refine Need.mk (OLe.refl _) ?_
                  exact trivial
            · replace hx322 := ite_f hc224 hx322
              cases hx322
              conv => whnf
              refine ⟨(), trivial, Sub.eq rfl ?_ ?_⟩
              · repeat ((conv => whnf); refine Need.mk rfl ?_)
                exact trivial
              · conv => whnf
                refine Need.mk (OLe.refl _) ?_
                conv => whnf
                refine Need.mk (OLe.refl _) ?_
                conv => whnf
                refine Need.mk (OLe.refl _) ?_
                exact trivial
          · rintro _ _
            obtain ⟨⟨v55, c15⟩, hx330, h⟩ := obind h
            conv => whnf
            refine SeqG.mk Nat (fun y => [(1, .d (.list 1 (List.map (fun x => .list 1 (List.map I x)) a2))), (2, .d (.list 1 (List.map (fun x => .int .u8 x) v54))), (3, .d (.ref (.agg [I a1.fFrames, I a1.fPins, I a1.fBalls, I a1.fTap]))), (7, .ptr 7 b4 0), (8, .ptr 8 b5 0), (9, .ptr 9 b6 0), (10, .i .i64 0), (11, .ptr 11 y 0), (12, .d (I v55))]) (fun y => [(7, .cells b4 [.d (I 0), .d (I 0), .d (I 0)]), (8, .cells b5 [.d (I 0), .d (I 0), .d (I 0)]), (9, .cells b6 [.d (I 0), .d (I 0), .d (I 0)]), (11, .cells y [.d (I c15.fLo), .d (I c15.fHi)])]) (fun _ => True) ?_ ?_
            · obtain ⟨x85, hx331, hx330⟩ := obind hx330
              obtain ⟨r116, hx332, hx330⟩ := obind hx330
              obtain ⟨l48, hx333, hx330⟩ := obind hx330
              obtain ⟨⟨ra30, rb30⟩, hx334, hx330⟩ := obind hx330
              conv => whnf
              refine DrawG.mk (.take 0 (.take 2 (.take 3 (.take 4 (.take 5 (.alt 1 [5, 4, 3, 2] (.alt 6 [4, 3, 2] (.alt 7 [4, 3, 2] (.take 8 (.take 9 (.take 10 (.alt 11 [10, 9, 8, 4, 3, 2] (.alt 12 [10] (.take 13 .done) .nil) .nil)))) (.alt 11 [4, 3, 2] (.alt 7 [4, 3, 2] (.take 8 (.take 9 (.take 10 (.alt 12 [10] (.take 13 .done) .nil)))) .nil) .nil)) (.alt 11 [5, 4, 3, 2] (.alt 6 [4, 3, 2] (.alt 7 [4, 3, 2] (.take 8 (.take 9 (.take 10 (.alt 12 [10] (.take 13 .done) .nil)))) .nil) .nil) .nil)) (.alt 11 [5, 4, 3, 2, 0] (.alt 1 [5, 4, 3, 2] (.alt 6 [4, 3, 2] (.alt 7 [4, 3, 2] (.take 8 (.take 9 (.take 10 (.alt 12 [10] (.take 13 .done) .nil)))) .nil) .nil) .nil) .nil))))))) (by kernel_rfl) ?_
              conv => whnf
              refine Side.mk rfl ⟨_, idx_0 hx331, idx_map _ hx331, ?_⟩
              conv => whnf
              refine Both.mk ?_ ?_
              · conv => whnf
                refine CallG.pure _ (law01LawC hN hx332) ?_
                conv => whnf
                refine Need.mk (AV.le_refl _) ?_
                conv => whnf
                refine Side.mk rfl ⟨_, idx_0 hx331, idx_map _ hx331, ?_⟩
                conv => whnf
                refine Need.mk (AV.le_refl _) ?_
                conv => whnf
                refine Need.mk (AV.le_refl _) ?_
                conv => whnf
                refine Need.mk (AV.le_refl _) ?_
                conv => whnf
                refine Both.mk ?_ ?_
                · conv => whnf
                  refine Side.mk rfl ?_
                  conv => whnf
                  refine Need.mk (app_need0 hN hx333 (by decide)) (Eqv.mk (List.map I l48) (app_map0 _ hx333) ?_)
                  conv => whnf
                  intro hd158
                  conv => whnf
                  refine Side.mk rfl ⟨_, idx_0 hx331, idx_map _ hx331, ?_⟩
                  conv => whnf
                  refine Need.mk (AV.le_refl _) ?_
                  conv => whnf
                  refine Need.mk (AV.le_refl _) ?_
                  conv => whnf
                  refine Need.mk (AV.le_refl _) ?_
                  conv => whnf
                  refine Both.mk ?_ ?_
                  · conv => whnf
                    refine Side.mk rfl ?_
                    conv => whnf
                    refine CallG.pure _ (frameSpanC hN hx334) ?_
                    conv => whnf
                    refine Side.mk rfl ⟨_, idx_0 hx331, idx_map _ hx331, ?_⟩
                    conv => whnf
                    refine Need.mk (AV.le_refl _) ?_
                    conv => whnf
                    refine Need.mk (AV.le_refl _) ?_
                    conv => whnf
                    refine Need.mk (AV.le_refl _) ?_
                    conv => whnf
                    refine Both.mk ?_ trivial
                    conv => whnf
                    intro b153
                    conv => whnf
                    refine Need.mk (AV.le_refl _) ?_
                    conv => whnf
                    refine Need.mk (AV.le_refl _) ?_
                    conv => whnf
                    refine Need.mk (AV.le_refl _) ?_
                    conv => whnf
                    refine Side.mk rfl ⟨_, idx_0 hx331, idx_map _ hx331, ?_⟩
                    conv => whnf
                    refine Need.mk (AV.le_refl _) ?_
                    conv => whnf
                    refine Need.mk (AV.le_refl _) ?_
                    conv => whnf
                    refine Need.mk (AV.le_refl _) ?_
                    conv => whnf
                    refine Both.mk ?_ trivial
                    conv => whnf
                    refine Side.mk rfl ?_
                    conv => whnf
                    refine Need.mk (AV.le_refl _) ?_
                    cases hx330
                    conv => whnf
                    refine ⟨b153, trivial, Sub.eq rfl ?_ ?_⟩
                    · repeat ((conv => whnf); refine Need.mk rfl ?_)
                      exact trivial
                    · conv => whnf
                      refine Need.mk (OLe.refl _) ?_
                      conv => whnf
                      refine Need.mk (OLe.refl _) ?_
                      conv => whnf
                      refine Need.mk (OLe.refl _) ?_
                      conv => whnf
                      refine Need.mk (OLe.refl _) ?_
                      exact trivial
                  · conv => whnf
                    refine Both.mk ?_ trivial
                    conv => whnf
                    intro b154
                    conv => whnf
                    refine Side.mk rfl ⟨_, idx_0 hx331, idx_map _ hx331, ?_⟩
                    conv => whnf
                    refine Need.mk (AV.le_refl _) ?_
                    conv => whnf
                    refine Need.mk (AV.le_refl _) ?_
                    conv => whnf
                    refine Need.mk (AV.le_refl _) ?_
                    conv => whnf
                    refine Both.mk ?_ trivial
                    conv => whnf
                    refine Side.mk rfl ?_
                    conv => whnf
                    refine CallG.pure _ (frameSpanC hN hx334) ?_
                    conv => whnf
                    refine Side.mk rfl ⟨_, idx_0 hx331, idx_map _ hx331, ?_⟩
                    conv => whnf
                    refine Need.mk (AV.le_refl _) ?_
                    conv => whnf
                    refine Need.mk (AV.le_refl _) ?_
                    conv => whnf
                    refine Need.mk (AV.le_refl _) ?_
                    conv => whnf
                    refine Both.mk ?_ trivial
                    conv => whnf
                    refine Side.mk rfl ?_
                    conv => whnf
                    refine Need.mk (AV.le_refl _) ?_
                    cases hx330
                    conv => whnf
                    refine ⟨b154, trivial, Sub.eq rfl ?_ ?_⟩
                    · repeat ((conv => whnf); refine Need.mk rfl ?_)
                      exact trivial
                    · conv => whnf
                      refine Need.mk (OLe.refl _) ?_
                      conv => whnf
                      refine Need.mk (OLe.refl _) ?_
                      conv => whnf
                      refine Need.mk (OLe.refl _) ?_
                      conv => whnf
                      refine Need.mk (OLe.refl _) ?_
                      exact trivial
                · conv => whnf
                  refine Both.mk ?_ trivial
                  conv => whnf
                  intro b155
                  conv => whnf
                  refine Need.mk (AV.le_refl _) ?_
                  conv => whnf
                  refine Side.mk rfl ⟨_, idx_0 hx331, idx_map _ hx331, ?_⟩
                  conv => whnf
                  refine Need.mk (AV.le_refl _) ?_
                  conv => whnf
                  refine Need.mk (AV.le_refl _) ?_
                  conv => whnf
                  refine Need.mk (AV.le_refl _) ?_
                  conv => whnf
                  refine Both.mk ?_ trivial
                  conv => whnf
                  refine Side.mk rfl ?_
                  conv => whnf
                  refine Need.mk (app_need0 hN hx333 (by decide)) (Eqv.mk (List.map I l48) (app_map0 _ hx333) ?_)
                  conv => whnf
                  intro hd159
                  conv => whnf
                  refine Side.mk rfl ⟨_, idx_0 hx331, idx_map _ hx331, ?_⟩
                  conv => whnf
                  refine Need.mk (AV.le_refl _) ?_
                  conv => whnf
                  refine Need.mk (AV.le_refl _) ?_
                  conv => whnf
                  refine Need.mk (AV.le_refl _) ?_
                  conv => whnf
                  refine Both.mk ?_ trivial
                  conv => whnf
                  refine Side.mk rfl ?_
                  conv => whnf
                  refine CallG.pure _ (frameSpanC hN hx334) ?_
                  conv => whnf
                  refine Side.mk rfl ⟨_, idx_0 hx331, idx_map _ hx331, ?_⟩
                  conv => whnf
                  refine Need.mk (AV.le_refl _) ?_
                  conv => whnf
                  refine Need.mk (AV.le_refl _) ?_
                  conv => whnf
                  refine Need.mk (AV.le_refl _) ?_
                  conv => whnf
                  refine Both.mk ?_ trivial
                  conv => whnf
                  refine Side.mk rfl ?_
                  conv => whnf
                  refine Need.mk (AV.le_refl _) ?_
                  cases hx330
                  conv => whnf
                  refine ⟨b155, trivial, Sub.eq rfl ?_ ?_⟩
                  · repeat ((conv => whnf); refine Need.mk rfl ?_)
                    exact trivial
                  · conv => whnf
                    refine Need.mk (OLe.refl _) ?_
                    conv => whnf
                    refine Need.mk (OLe.refl _) ?_
                    conv => whnf
                    refine Need.mk (OLe.refl _) ?_
                    conv => whnf
                    refine Need.mk (OLe.refl _) ?_
                    exact trivial
              · conv => whnf
                refine Both.mk ?_ trivial
                conv => whnf
                intro b156
                conv => whnf
                refine Need.mk (AV.le_refl _) ?_
                conv => whnf
                refine Side.mk rfl ⟨_, idx_0 hx331, idx_map _ hx331, ?_⟩
                conv => whnf
                refine Need.mk (AV.le_refl _) ?_
                conv => whnf
                refine Need.mk (AV.le_refl _) ?_
                conv => whnf
                refine Need.mk (AV.le_refl _) ?_
                conv => whnf
                refine Need.mk (AV.le_refl _) ?_
                conv => whnf
                refine Both.mk ?_ trivial
                conv => whnf
                refine CallG.pure _ (law01LawC hN hx332) ?_
                conv => whnf
                refine Need.mk (AV.le_refl _) ?_
                conv => whnf
                refine Side.mk rfl ⟨_, idx_0 hx331, idx_map _ hx331, ?_⟩
                conv => whnf
                refine Need.mk (AV.le_refl _) ?_
                conv => whnf
                refine Need.mk (AV.le_refl _) ?_
                conv => whnf
                refine Need.mk (AV.le_refl _) ?_
                conv => whnf
                refine Both.mk ?_ trivial
                conv => whnf
                refine Side.mk rfl ?_
                conv => whnf
                refine Need.mk (app_need0 hN hx333 (by decide)) (Eqv.mk (List.map I l48) (app_map0 _ hx333) ?_)
                conv => whnf
                intro hd160
                conv => whnf
                refine Side.mk rfl ⟨_, idx_0 hx331, idx_map _ hx331, ?_⟩
                conv => whnf
                refine Need.mk (AV.le_refl _) ?_
                conv => whnf
                refine Need.mk (AV.le_refl _) ?_
                conv => whnf
                refine Need.mk (AV.le_refl _) ?_
                conv => whnf
                refine Both.mk ?_ trivial
                conv => whnf
                refine Side.mk rfl ?_
                conv => whnf
                refine CallG.pure _ (frameSpanC hN hx334) ?_
                conv => whnf
                refine Side.mk rfl ⟨_, idx_0 hx331, idx_map _ hx331, ?_⟩
                conv => whnf
                refine Need.mk (AV.le_refl _) ?_
                conv => whnf
                refine Need.mk (AV.le_refl _) ?_
                conv => whnf
                refine Need.mk (AV.le_refl _) ?_
                conv => whnf
                refine Both.mk ?_ trivial
                conv => whnf
                refine Side.mk rfl ?_
                conv => whnf
                refine Need.mk (AV.le_refl _) ?_
                cases hx330
                conv => whnf
                refine ⟨b156, trivial, Sub.eq rfl ?_ ?_⟩
                · repeat ((conv => whnf); refine Need.mk rfl ?_)
                  exact trivial
                · conv => whnf
                  refine Need.mk (OLe.refl _) ?_
                  conv => whnf
                  refine Need.mk (OLe.refl _) ?_
                  conv => whnf
                  refine Need.mk (OLe.refl _) ?_
                  conv => whnf
                  refine Need.mk (OLe.refl _) ?_
                  exact trivial
            · rintro bb15 _
              obtain ⟨⟨v56, c16⟩, hx339, h⟩ := obind h
              conv => whnf
              refine SeqG.mk Nat (fun y => [(1, .d (.list 1 (List.map (fun x => .list 1 (List.map I x)) a2))), (2, .d (.list 1 (List.map (fun x => .int .u8 x) v54))), (3, .d (.ref (.agg [I a1.fFrames, I a1.fPins, I a1.fBalls, I a1.fTap]))), (7, .ptr 7 b4 0), (8, .ptr 8 b5 0), (9, .ptr 9 b6 0), (10, .i .i64 0), (11, .ptr 11 bb15 0), (12, .d (I v55)), (13, .ptr 13 y 0), (14, .d (I v56))]) (fun y => [(7, .cells b4 [.d (I 0), .d (I 0), .d (I 0)]), (8, .cells b5 [.d (I 0), .d (I 0), .d (I 0)]), (9, .cells b6 [.d (I 0), .d (I 0), .d (I 0)]), (11, .cells bb15 [.d (I c15.fLo), .d (I c15.fHi)]), (13, .cells y [.d (.list 1 (List.map (fun x => .list 1 (List.map I x)) c16.fFrames)), .d (.list 1 (List.map I c16.fCounts)), .d (I c16.fStanding), .d (.bool c16.fDone)])]) (fun _ => True) ?_ ?_
              · obtain ⟨x87, hx340, hx339⟩ := obind hx339
                obtain ⟨r119, hx341, hx339⟩ := obind hx339
                obtain ⟨r120, hx342, hx339⟩ := obind hx339
                obtain ⟨⟨ra32, rb32⟩, hx343, hx339⟩ := obind hx339
                conv => whnf
                refine DrawG.mk (.take 0 (.take 2 (.take 3 (.take 4 (.take 5 (.take 6 (.take 7 (.alt 1 [7, 6, 5, 4, 3, 2] (.alt 8 [5, 4, 3] (.alt 9 [5, 4, 3] (.take 10 (.take 11 (.take 12 (.alt 13 [12, 11, 10, 5, 4, 3] (.alt 14 [12] (.take 15 .done) .nil) .nil)))) (.alt 13 [5, 4, 3] (.alt 9 [5, 4, 3] (.take 10 (.take 11 (.take 12 (.alt 14 [12] (.take 15 .done) .nil)))) .nil) .nil)) (.alt 13 [7, 6, 5, 4, 3, 2] (.alt 8 [5, 4, 3] (.alt 9 [5, 4, 3] (.take 10 (.take 11 (.take 12 (.alt 14 [12] (.take 15 .done) .nil)))) .nil) .nil) .nil)) (.alt 13 [7, 6, 5, 4, 3, 2, 0] (.alt 1 [7, 6, 5, 4, 3, 2] (.alt 8 [5, 4, 3] (.alt 9 [5, 4, 3] (.take 10 (.take 11 (.take 12 (.alt 14 [12] (.take 15 .done) .nil)))) .nil) .nil) .nil) .nil))))))))) (by kernel_rfl) ?_
                conv => whnf
                refine Side.mk rfl ⟨_, idx_0 hx340, idx_map _ hx340, ?_⟩
                conv => whnf
                refine Both.mk ?_ ?_
                · conv => whnf
                  refine CallG.pure _ (law01LawC hN hx341) ?_
                  conv => whnf
                  refine Need.mk (AV.le_refl _) ?_
                  conv => whnf
                  refine Need.mk (AV.le_refl _) ?_
                  conv => whnf
                  refine Side.mk rfl ⟨_, idx_0 hx340, idx_map _ hx340, ?_⟩
                  conv => whnf
                  refine Need.mk (AV.le_refl _) ?_
                  conv => whnf
                  refine Need.mk (AV.le_refl _) ?_
                  conv => whnf
                  refine Need.mk (AV.le_refl _) ?_
                  conv => whnf
                  refine Need.mk (AV.le_refl _) ?_
                  conv => whnf
                  refine Both.mk ?_ ?_
                  · conv => whnf
                    refine CallG.pure _ (law01EndedC hN hx342) ?_
                    conv => whnf
                    refine Side.mk rfl ⟨_, idx_0 hx340, idx_map _ hx340, ?_⟩
                    conv => whnf
                    refine Need.mk (AV.le_refl _) ?_
                    conv => whnf
                    refine Need.mk (AV.le_refl _) ?_
                    conv => whnf
                    refine Need.mk (AV.le_refl _) ?_
                    conv => whnf
                    refine Both.mk ?_ ?_
                    · conv => whnf
                      refine CallG.pure _ (frameReadC hN hx343) ?_
                      conv => whnf
                      refine Side.mk rfl ⟨_, idx_0 hx340, idx_map _ hx340, ?_⟩
                      conv => whnf
                      refine Need.mk (AV.le_refl _) ?_
                      conv => whnf
                      refine Need.mk (AV.le_refl _) ?_
                      conv => whnf
                      refine Need.mk (AV.le_refl _) ?_
                      conv => whnf
                      refine Both.mk ?_ trivial
                      conv => whnf
                      intro b163
                      conv => whnf
                      refine Need.mk (AV.le_refl _) ?_
                      conv => whnf
                      refine Need.mk (AV.le_refl _) ?_
                      conv => whnf
                      refine Need.mk (AV.le_refl _) ?_
                      conv => whnf
                      refine Side.mk rfl ⟨_, idx_0 hx340, idx_map _ hx340, ?_⟩
                      conv => whnf
                      refine Need.mk (AV.le_refl _) ?_
                      conv => whnf
                      refine Need.mk (AV.le_refl _) ?_
                      conv => whnf
                      refine Need.mk (AV.le_refl _) ?_
                      conv => whnf
                      refine Both.mk ?_ trivial
                      conv => whnf
                      refine Side.mk rfl ?_
                      conv => whnf
                      refine Need.mk (AV.le_refl _) ?_
                      cases hx339
                      conv => whnf
                      refine ⟨b163, trivial, Sub.eq rfl ?_ ?_⟩
                      · repeat ((conv => whnf); refine Need.mk rfl ?_)
                        exact trivial
                      · conv => whnf
                        refine Need.mk (OLe.refl _) ?_
                        conv => whnf
                        refine Need.mk (OLe.refl _) ?_
                        conv => whnf
                        refine Need.mk (OLe.refl _) ?_
                        conv => whnf
                        refine Need.mk (OLe.refl _) ?_
                        conv => whnf
                        refine Need.mk (OLe.refl _) ?_
                        exact trivial
                    · conv => whnf
                      refine Both.mk ?_ trivial
                      conv => whnf
                      intro b164
                      conv => whnf
                      refine Side.mk rfl ⟨_, idx_0 hx340, idx_map _ hx340, ?_⟩
                      conv => whnf
                      refine Need.mk (AV.le_refl _) ?_
                      conv => whnf
                      refine Need.mk (AV.le_refl _) ?_
                      conv => whnf
                      refine Need.mk (AV.le_refl _) ?_
                      conv => whnf
                      refine Both.mk ?_ trivial
                      conv => whnf
                      refine CallG.pure _ (frameReadC hN hx343) ?_
                      conv => whnf
                      refine Side.mk rfl ⟨_, idx_0 hx340, idx_map _ hx340, ?_⟩
                      conv => whnf
                      refine Need.mk (AV.le_refl _) ?_
                      conv => whnf
                      refine Need.mk (AV.le_refl _) ?_
                      conv => whnf
                      refine Need.mk (AV.le_refl _) ?_
                      conv => whnf
                      refine Both.mk ?_ trivial
                      conv => whnf
                      refine Side.mk rfl ?_
                      conv => whnf
                      refine Need.mk (AV.le_refl _) ?_
                      cases hx339
                      conv => whnf
                      refine ⟨b164, trivial, Sub.eq rfl ?_ ?_⟩
                      · repeat ((conv => whnf); refine Need.mk rfl ?_)
                        exact trivial
                      · conv => whnf
                        refine Need.mk (OLe.refl _) ?_
                        conv => whnf
                        refine Need.mk (OLe.refl _) ?_
                        conv => whnf
                        refine Need.mk (OLe.refl _) ?_
                        conv => whnf
                        refine Need.mk (OLe.refl _) ?_
                        conv => whnf
                        refine Need.mk (OLe.refl _) ?_
                        exact trivial
                  · conv => whnf
                    refine Both.mk ?_ trivial
                    conv => whnf
                    intro b165
                    conv => whnf
                    refine Need.mk (AV.le_refl _) ?_
                    conv => whnf
                    refine Need.mk (AV.le_refl _) ?_
                    conv => whnf
                    refine Side.mk rfl ⟨_, idx_0 hx340, idx_map _ hx340, ?_⟩
                    conv => whnf
                    refine Need.mk (AV.le_refl _) ?_
                    conv => whnf
                    refine Need.mk (AV.le_refl _) ?_
                    conv => whnf
                    refine Need.mk (AV.le_refl _) ?_
                    conv => whnf
                    refine Need.mk (AV.le_refl _) ?_
                    conv => whnf
                    refine Both.mk ?_ trivial
                    conv => whnf
                    refine CallG.pure _ (law01EndedC hN hx342) ?_
                    conv => whnf
                    refine Side.mk rfl ⟨_, idx_0 hx340, idx_map _ hx340, ?_⟩
                    conv => whnf
                    refine Need.mk (AV.le_refl _) ?_
                    conv => whnf
                    refine Need.mk (AV.le_refl _) ?_
                    conv => whnf
                    refine Need.mk (AV.le_refl _) ?_
                    conv => whnf
                    refine Both.mk ?_ trivial
                    conv => whnf
                    refine CallG.pure _ (frameReadC hN hx343) ?_
                    conv => whnf
                    refine Side.mk rfl ⟨_, idx_0 hx340, idx_map _ hx340, ?_⟩
                    conv => whnf
                    refine Need.mk (AV.le_refl _) ?_
                    conv => whnf
                    refine Need.mk (AV.le_refl _) ?_
                    conv => whnf
                    refine Need.mk (AV.le_refl _) ?_
                    conv => whnf
                    refine Both.mk ?_ trivial
                    conv => whnf
                    refine Side.mk rfl ?_
                    conv => whnf
                    refine Need.mk (AV.le_refl _) ?_
                    cases hx339
                    conv => whnf
                    refine ⟨b165, trivial, Sub.eq rfl ?_ ?_⟩
                    · repeat ((conv => whnf); refine Need.mk rfl ?_)
                      exact trivial
                    · conv => whnf
                      refine Need.mk (OLe.refl _) ?_
                      conv => whnf
                      refine Need.mk (OLe.refl _) ?_
                      conv => whnf
                      refine Need.mk (OLe.refl _) ?_
                      conv => whnf
                      refine Need.mk (OLe.refl _) ?_
                      conv => whnf
                      refine Need.mk (OLe.refl _) ?_
                      exact trivial
                · conv => whnf
                  refine Both.mk ?_ trivial
                  conv => whnf
                  intro b166
                  conv => whnf
                  refine Need.mk (AV.le_refl _) ?_
                  conv => whnf
                  refine Need.mk (AV.le_refl _) ?_
                  conv => whnf
                  refine Side.mk rfl ⟨_, idx_0 hx340, idx_map _ hx340, ?_⟩
                  conv => whnf
                  refine Need.mk (AV.le_refl _) ?_
                  conv => whnf
                  refine Need.mk (AV.le_refl _) ?_
                  conv => whnf
                  refine Need.mk (AV.le_refl _) ?_
                  conv => whnf
                  refine Need.mk (AV.le_refl _) ?_
                  conv => whnf
                  refine Need.mk (AV.le_refl _) ?_
                  conv => whnf
                  refine Both.mk ?_ trivial
                  conv => whnf
                  refine CallG.pure _ (law01LawC hN hx341) ?_
                  conv => whnf
                  refine Need.mk (AV.le_refl _) ?_
                  conv => whnf
                  refine Need.mk (AV.le_refl _) ?_
                  conv => whnf
                  refine Side.mk rfl ⟨_, idx_0 hx340, idx_map _ hx340, ?_⟩
                  conv => whnf
                  refine Need.mk (AV.le_refl _) ?_
                  conv => whnf
                  refine Need.mk (AV.le_refl _) ?_
                  conv => whnf
                  refine Need.mk (AV.le_refl _) ?_
                  conv => whnf
                  refine Need.mk (AV.le_refl _) ?_
                  conv => whnf
                  refine Both.mk ?_ trivial
                  conv => whnf
                  refine CallG.pure _ (law01EndedC hN hx342) ?_
                  conv => whnf
                  refine Side.mk rfl ⟨_, idx_0 hx340, idx_map _ hx340, ?_⟩
                  conv => whnf
                  refine Need.mk (AV.le_refl _) ?_
                  conv => whnf
                  refine Need.mk (AV.le_refl _) ?_
                  conv => whnf
                  refine Need.mk (AV.le_refl _) ?_
                  conv => whnf
                  refine Both.mk ?_ trivial
                  conv => whnf
                  refine CallG.pure _ (frameReadC hN hx343) ?_
                  conv => whnf
                  refine Side.mk rfl ⟨_, idx_0 hx340, idx_map _ hx340, ?_⟩
                  conv => whnf
                  refine Need.mk (AV.le_refl _) ?_
                  conv => whnf
                  refine Need.mk (AV.le_refl _) ?_
                  conv => whnf
                  refine Need.mk (AV.le_refl _) ?_
                  conv => whnf
                  refine Both.mk ?_ trivial
                  conv => whnf
                  refine Side.mk rfl ?_
                  conv => whnf
                  refine Need.mk (AV.le_refl _) ?_
                  cases hx339
                  conv => whnf
                  refine ⟨b166, trivial, Sub.eq rfl ?_ ?_⟩
                  · repeat ((conv => whnf); refine Need.mk rfl ?_)
                    exact trivial
                  · conv => whnf
                    refine Need.mk (OLe.refl _) ?_
                    conv => whnf
                    refine Need.mk (OLe.refl _) ?_
                    conv => whnf
                    refine Need.mk (OLe.refl _) ?_
                    conv => whnf
                    refine Need.mk (OLe.refl _) ?_
                    conv => whnf
                    refine Need.mk (OLe.refl _) ?_
                    exact trivial
              · rintro bb16 _
                obtain ⟨v58, hx345, h⟩ := obind h
                conv => whnf
                refine SeqG.mk Unit (fun y => [(1, .d (.list 1 (List.map (fun x => .list 1 (List.map I x)) a2))), (2, .d (.list 1 (List.map (fun x => .int .u8 x) v54))), (3, .d (.ref (.agg [I a1.fFrames, I a1.fPins, I a1.fBalls, I a1.fTap]))), (7, .ptr 7 b4 0), (8, .ptr 8 b5 0), (9, .ptr 9 b6 0), (10, .i .i64 0), (11, .ptr 11 bb15 0), (13, .ptr 13 bb16 0), (122, .d (.bool v58))]) (fun y => [(7, .cells b4 [.d (I 0), .d (I 0), .d (I 0)]), (8, .cells b5 [.d (I 0), .d (I 0), .d (I 0)]), (9, .cells b6 [.d (I 0), .d (I 0), .d (I 0)]), (11, .cells bb15 [.d (I c15.fLo), .d (I c15.fHi)]), (13, .cells bb16 [.d (.list 1 (List.map (fun x => .list 1 (List.map I x)) c16.fFrames)), .d (.list 1 (List.map I c16.fCounts)), .d (I c16.fStanding), .d (.bool c16.fDone)])]) (fun _ => True) ?_ ?_
                · conv => whnf
                  refine Br.mk (fun hc241 => ?_) (fun hc241 => ?_)
                  · replace hx345 := ite_f hc241 hx345
                    conv => whnf
                    refine Br.mk (fun hc242 => ?_) (fun hc242 => ?_)
                    · replace hx345 := ite_f hc242 hx345
                      conv => whnf
                      refine Side.mk rfl ?_
                      conv => whnf
                      refine Br.mk (fun hc243 => ?_) (fun hc243 => ?_)
                      · replace hx345 := ite_f hc243 hx345
                        conv => whnf
                        refine Side.mk rfl ?_
                        conv => whnf
                        refine Ln.mk _ (List.length_map _) ?_
                        conv => whnf
                        refine Br.mk (fun hc244 => ?_) (fun hc244 => ?_)
                        · replace hx345 := ite_f hc244 hx345
                          conv => whnf
                          refine Side.mk rfl ?_
                          conv => whnf
                          refine Br.mk (fun hc245 => ?_) (fun hc245 => ?_)
                          · replace hx345 := ite_f hc245 hx345
                            conv => whnf
                            refine Side.mk rfl ?_
                            cases hx345
                            conv => whnf
                            refine ⟨(), trivial, Sub.eq rfl ?_ ?_⟩
                            · repeat ((conv => whnf); refine Need.mk rfl ?_)
                              exact trivial
                            · conv => whnf
                              refine Need.mk (OLe.refl _) ?_
                              conv => whnf
                              refine Need.mk (OLe.refl _) ?_
                              conv => whnf
                              refine Need.mk (OLe.refl _) ?_
                              conv => whnf
                              refine Need.mk (OLe.refl _) ?_
                              conv => whnf
                              refine Need.mk (OLe.refl _) ?_
                              exact trivial
                          · replace hx345 := ite_t hc245 hx345
                            cases hx345
                            conv => whnf
                            refine ⟨(), trivial, Sub.eq rfl ?_ ?_⟩
                            · repeat ((conv => whnf); refine Need.mk rfl ?_)
                              exact trivial
                            · conv => whnf
                              refine Need.mk (OLe.refl _) ?_
                              conv => whnf
                              refine Need.mk (OLe.refl _) ?_
                              conv => whnf
                              refine Need.mk (OLe.refl _) ?_
                              conv => whnf
                              refine Need.mk (OLe.refl _) ?_
                              conv => whnf
                              refine Need.mk (OLe.refl _) ?_
                              exact trivial
                        · replace hx345 := ite_t hc244 hx345
                          cases hx345
                          conv => whnf
                          refine ⟨(), trivial, Sub.eq rfl ?_ ?_⟩
                          · repeat ((conv => whnf); refine Need.mk rfl ?_)
                            exact trivial
                          · conv => whnf
                            refine Need.mk (OLe.refl _) ?_
                            conv => whnf
                            refine Need.mk (OLe.refl _) ?_
                            conv => whnf
                            refine Need.mk (OLe.refl _) ?_
                            conv => whnf
                            refine Need.mk (OLe.refl _) ?_
                            conv => whnf
                            refine Need.mk (OLe.refl _) ?_
                            exact trivial
                      · replace hx345 := ite_t hc243 hx345
                        cases hx345
                        conv => whnf
                        refine ⟨(), trivial, Sub.eq rfl ?_ ?_⟩
                        · repeat ((conv => whnf); refine Need.mk rfl ?_)
                          exact trivial
                        · conv => whnf
                          refine Need.mk (OLe.refl _) ?_
                          conv => whnf
                          refine Need.mk (OLe.refl _) ?_
                          conv => whnf
                          refine Need.mk (OLe.refl _) ?_
                          conv => whnf
                          refine Need.mk (OLe.refl _) ?_
                          conv => whnf
                          refine Need.mk (OLe.refl _) ?_
                          exact trivial
                    · replace hx345 := ite_t hc242 hx345
                      cases hx345
                      conv => whnf
                      refine ⟨(), trivial, Sub.eq rfl ?_ ?_⟩
                      · repeat ((conv => whnf); refine Need.mk rfl ?_)
                        exact trivial
                      · conv => whnf
                        refine Need.mk (OLe.refl _) ?_
                        conv => whnf
                        refine Need.mk (OLe.refl _) ?_
                        conv => whnf
                        refine Need.mk (OLe.refl _) ?_
                        conv => whnf
                        refine Need.mk (OLe.refl _) ?_
                        conv => whnf
                        refine Need.mk (OLe.refl _) ?_
                        exact trivial
                  · replace hx345 := ite_t hc241 hx345
                    cases hx345
                    conv => whnf
                    refine ⟨(), trivial, Sub.eq rfl ?_ ?_⟩
                    · repeat ((conv => whnf); refine Need.mk rfl ?_)
                      exact trivial
                    · conv => whnf
                      refine Need.mk (OLe.refl _) ?_
                      conv => whnf
                      refine Need.mk (OLe.refl _) ?_
                      conv => whnf
                      refine Need.mk (OLe.refl _) ?_
                      conv => whnf
                      refine Need.mk (OLe.refl _) ?_
                      conv => whnf
                      refine Need.mk (OLe.refl _) ?_
                      exact trivial
                · rintro _ _
                  conv => whnf
                  refine Br.mk (fun hc246 => ?_) (fun hc246 => ?_)
                  · replace h := ite_t hc246 h
                    conv => whnf
                    cases h
                    exact rfl
                  · replace h := ite_f hc246 h
                    obtain ⟨x88, hx346, h⟩ := obind h
                    conv => whnf
                    refine DrawG.mk (.take 0 (.take 1 (.take 2 (.take 3 (.take 4 (.take 5 (.take 6 (.take 7 (.take 8 (.take 9 (.take 10 (.take 11 (.take 12 (.take 13 (.take 14 (.alt 15 [13, 12, 11, 10, 9, 8, 7, 6, 5, 2, 1] (.take 16 (.alt 17 [13, 12, 2] (.take 18 (.alt 19 [] .done .nil)) .nil)) .nil)))))))))))))))) (by kernel_rfl) ?_
                    conv => whnf
                    refine Side.mk rfl ?_
                    conv => whnf
                    refine Side.mk rfl ?_
                    conv => whnf
                    refine Side.mk rfl ⟨_, idx_0 hx346, idx_map _ hx346, ?_⟩
                    conv => whnf
                    refine Side.mk rfl ?_
                    conv => whnf
                    refine Need.mk (by decide) ?_
                    conv => whnf
                    refine Both.mk ?_ trivial
                    conv => whnf
                    refine Side.mk rfl ?_
                    conv => whnf
                    refine Side.mk rfl ?_
                    conv => whnf
                    refine Need.mk (AV.le_refl _) ?_
                    conv => whnf
                    refine Need.mk (AV.le_refl _) ?_
                    conv => whnf
                    refine Need.mk (AV.le_refl _) ?_
                    conv => whnf
                    refine Side.mk rfl ⟨_, idx_0 hx346, idx_map _ hx346, ?_⟩
                    conv => whnf
                    refine Need.mk (AV.le_refl _) ?_
                    conv => whnf
                    refine Need.mk (AV.le_refl _) ?_
                    conv => whnf
                    refine Need.mk (AV.le_refl _) ?_
                    conv => whnf
                    refine Need.mk (AV.le_refl _) ?_
                    conv => whnf
                    refine Side.mk rfl ?_
                    conv => whnf
                    refine Need.mk (AV.le_refl _) ?_
                    conv => whnf
                    refine Need.mk (AV.le_refl _) ?_
                    conv => whnf
                    refine Need.mk (AV.le_refl _) ?_
                    conv => whnf
                    refine Need.mk (AV.le_refl _) ?_
                    conv => whnf
                    refine Need.mk (by decide) ?_
                    conv => whnf
                    refine Both.mk ?_ trivial
                    conv => whnf
                    refine Side.mk rfl ?_
                    conv => whnf
                    refine Side.mk rfl ?_
                    conv => whnf
                    refine Need.mk (AV.le_refl _) ?_
                    conv => whnf
                    refine Need.mk (AV.le_refl _) ?_
                    conv => whnf
                    refine Need.mk (AV.le_refl _) ?_
                    conv => whnf
                    refine Need.mk (by decide) ?_
                    conv => whnf
                    refine Both.mk ?_ trivial
                    conv => whnf
                    refine Side.mk rfl ?_
                    obtain ⟨v67, hx398, h⟩ := obind h
                    conv => whnf
                    refine SeqG.mk Unit (fun y => [(1, .d (.list 1 (List.map (fun x => .list 1 (List.map I x)) a2))), (2, .d (.list 1 (List.map (fun x => .int .u8 x) v54))), (3, .d (.ref (.agg [I a1.fFrames, I a1.fPins, I a1.fBalls, I a1.fTap]))), (7, .ptr 7 b4 0), (8, .ptr 8 b5 0), (9, .ptr 9 b6 0), (10, .i .i64 1), (54, .d (.bool v67))]) (fun y => [(7, .cells b4 [.d (I c15.fLo), .d (I 0), .d (I 0)]), (8, .cells b5 [.d (I x88), .d (I 0), .d (I 0)]), (9, .cells b6 [.d (I c15.fHi), .d (I 0), .d (I 0)])]) (fun _ => True) ?_ ?_
                    · obtain ⟨x103, hx399, hx398⟩ := obind hx398
                      conv => whnf
                      refine DrawG.mk (.take 0 (.take 1 (.take 2 (.take 3 (.take 4 (.take 5 (.take 6 (.spl 46 (.take 7 (.take 8 (.take 9 (.take 10 (.take 11 (.alt 12 [10, 9, 8, 5, 4, 3, 2, 1, 0] (.take 13 (.take 14 .done)) .nil)))))))))))))) (by kernel_rfl) ?_
                      conv => whnf
                      refine Side.mk rfl ⟨_, idx_0 hx399, idx_map _ hx399, ?_⟩
                      conv => whnf
                      refine Ln.mk _ (List.length_map _) ?_
                      conv => whnf
                      refine Br.mk (fun hc281 => ?_) (fun hc281 => ?_)
                      · replace hx398 := ite_t hc281 hx398
                        conv => whnf
                        refine Both.mk ?_ trivial
                        conv => whnf
                        refine Need.mk rfl ?_
                        conv => whnf
                        refine Need.mk rfl ?_
                        conv => whnf
                        refine Need.mk rfl ?_
                        conv => whnf
                        refine Need.mk (AV.le_refl _) ?_
                        conv => whnf
                        refine Ln.mk _ (List.length_map _) ?_
                        conv => whnf
                        refine Need.mk (AV.le_refl _) ?_
                        conv => whnf
                        refine Need.mk (AV.le_refl _) ?_
                        conv => whnf
                        refine Side.mk rfl ⟨_, idx_0 hx399, idx_map _ hx399, ?_⟩
                        conv => whnf
                        refine Need.mk (AV.le_refl _) ?_
                        conv => whnf
                        refine Need.mk (AV.le_refl _) ?_
                        conv => whnf
                        refine Need.mk (AV.le_refl _) ?_
                        cases hx398
                        conv => whnf
                        refine ⟨(), trivial, Sub.eq rfl ?_ ?_⟩
                        · repeat ((conv => whnf); refine Need.mk rfl ?_)
                          exact trivial
                        · conv => whnf
                          refine Need.mk (OLe.refl _) ?_
                          conv => whnf
                          refine Need.mk (OLe.refl _) ?_
                          conv => whnf
                          refine Need.mk (OLe.refl _) ?_
                          exact trivial
                      · replace hx398 := ite_f hc281 hx398
                        obtain ⟨r140, hx400, hx398⟩ := obind hx398
                        conv => whnf
                        refine Side.mk rfl ⟨_, idx_0 hx399, idx_map _ hx399, ?_⟩
                        conv => whnf
                        refine Both.mk ?_ trivial
                        conv => whnf
                        refine CallG.pure _ (ref01IsC hN hx400) ?_
                        conv => whnf
                        refine Side.mk rfl ⟨_, idx_0 hx399, idx_map _ hx399, ?_⟩
                        conv => whnf
                        refine Need.mk (AV.le_refl _) ?_
                        conv => whnf
                        refine Need.mk (AV.le_refl _) ?_
                        conv => whnf
                        refine Need.mk (AV.le_refl _) ?_
                        conv => whnf
                        refine Need.mk (AV.le_refl _) ?_
                        conv => whnf
                        refine Ln.mk _ (List.length_map _) ?_
                        conv => whnf
                        refine Need.mk (AV.le_refl _) ?_
                        conv => whnf
                        refine Need.mk (AV.le_refl _) ?_
                        conv => whnf
                        refine Side.mk rfl ⟨_, idx_0 hx399, idx_map _ hx399, ?_⟩
                        conv => whnf
                        refine Need.mk (AV.le_refl _) ?_
                        conv => whnf
                        refine Need.mk (AV.le_refl _) ?_
                        conv => whnf
                        refine Need.mk (AV.le_refl _) ?_
                        cases hx398
                        conv => whnf
                        refine ⟨(), trivial, Sub.eq rfl ?_ ?_⟩
                        · repeat ((conv => whnf); refine Need.mk rfl ?_)
                          exact trivial
                        · conv => whnf
                          refine Need.mk (OLe.refl _) ?_
                          conv => whnf
                          refine Need.mk (OLe.refl _) ?_
                          conv => whnf
                          refine Need.mk (OLe.refl _) ?_
                          exact trivial
                    · rintro _ _
                      conv => whnf
                      refine Br.mk (fun hc282 => ?_) (fun hc282 => ?_)
                      · replace h := ite_t hc282 h
                        obtain ⟨r142, hx402, h⟩ := obind h
                        conv => whnf
                        refine CallG.pure _ (kingpintopRatedC hN hx402) ?_
                        conv => whnf
                        cases h
                        exact rfl
                      · replace h := ite_f hc282 h
                        obtain ⟨v68, hx406, h⟩ := obind h
                        conv => whnf
                        refine SeqG.mk Unit (fun y => [(1, .d (.list 1 (List.map (fun x => .list 1 (List.map I x)) a2))), (2, .d (.list 1 (List.map (fun x => .int .u8 x) v68))), (3, .d (.ref (.agg [I a1.fFrames, I a1.fPins, I a1.fBalls, I a1.fTap]))), (7, .ptr 7 b4 0), (8, .ptr 8 b5 0), (9, .ptr 9 b6 0), (10, .i .i64 1)]) (fun y => [(7, .cells b4 [.d (I c15.fLo), .d (I 0), .d (I 0)]), (8, .cells b5 [.d (I x88), .d (I 0), .d (I 0)]), (9, .cells b6 [.d (I c15.fHi), .d (I 0), .d (I 0)])]) (fun _ => True) ?_ ?_
                        · conv => whnf
                          refine Ln.mk _ (List.length_map _) ?_
                          conv => whnf
                          refine Br.mk (fun hc284 => ?_) (fun hc284 => ?_)
                          · replace hx406 := ite_t hc284 hx406
                            obtain ⟨x105, hx407, hx406⟩ := obind hx406
                            obtain ⟨l57, hx408, hx406⟩ := obind hx406
                            obtain ⟨l58, hx409, hx406⟩ := obind hx406
                            conv => whnf
                            refine DrawG.mk (.take 0 (.take 1 (.take 2 (.take 3 (.take 4 (.take 6 (.take 7 (.take 8 (.alt 5 [8, 7, 6, 3, 1] (.alt 9 [7, 6, 3, 1] (.alt 10 [7, 6, 3, 1] (.alt 11 [] .done .nil) .nil) .nil) (.alt 9 [7, 6, 4, 3, 2, 1, 0] (.alt 5 [7, 6, 3, 1] (.alt 10 [7, 6, 3, 1] (.alt 11 [] .done .nil) .nil) .nil) .nil)))))))))) (by kernel_rfl) ?_
                            conv => whnf
                            refine Ln.mk _ (List.length_map _) ?_
                            conv => whnf
                            refine Ln.mk _ (List.length_map _) ?_
                            conv => whnf
                            refine Side.mk rfl ⟨_, idx_0 hx407, idx_map _ hx407, ?_⟩
                            conv => whnf
                            refine Both.mk ?_ ?_
                            · conv => whnf
                              refine Need.mk (slc_need3 _ hx408) (Eqv.mk (List.map (fun x => .int .u8 x) l57) (slc_map _ hx408) ?_)
                              conv => whnf
                              refine Need.mk (AV.le_refl _) ?_
                              conv => whnf
                              refine Side.mk rfl ⟨_, idx_0 hx407, idx_map _ hx407, ?_⟩
                              conv => whnf
                              refine Need.mk (AV.le_refl _) ?_
                              conv => whnf
                              refine Need.mk (AV.le_refl _) ?_
                              conv => whnf
                              refine Need.mk (AV.le_refl _) ?_
                              conv => whnf
                              refine Need.mk (AV.le_refl _) ?_
                              conv => whnf
                              refine Both.mk ?_ trivial
                              conv => whnf
                              intro hd189
                              conv => whnf
                              refine Side.mk rfl ⟨_, idx_0 hx407, idx_map _ hx407, ?_⟩
                              conv => whnf
                              refine Need.mk (AV.le_refl _) ?_
                              conv => whnf
                              refine Need.mk (AV.le_refl _) ?_
                              conv => whnf
                              refine Need.mk (AV.le_refl _) ?_
                              conv => whnf
                              refine Need.mk (AV.le_refl _) ?_
                              conv => whnf
                              refine Both.mk ?_ trivial
                              conv => whnf
                              refine Side.mk ⟨rfl, rfl⟩ ?_
                              conv => whnf
                              refine Side.mk rfl (Need.mk (appB_need hx409 (by decide)) (Eqv.mk (List.map (fun x => .int .u8 x) l58) (appB_map _ hx409) ?_))
                              conv => whnf
                              refine Side.mk rfl ⟨_, idx_0 hx407, idx_map _ hx407, ?_⟩
                              conv => whnf
                              refine Need.mk (AV.le_refl _) ?_
                              conv => whnf
                              refine Need.mk (AV.le_refl _) ?_
                              conv => whnf
                              refine Need.mk (AV.le_refl _) ?_
                              conv => whnf
                              refine Need.mk (AV.le_refl _) ?_
                              conv => whnf
                              refine Both.mk ?_ trivial
                              cases hx406
                              conv => whnf
                              refine ⟨(), trivial, Sub.eq rfl ?_ ?_⟩
                              · repeat ((conv => whnf); refine Need.mk rfl ?_)
                                exact trivial
                              · conv => whnf
                                refine Need.mk (OLe.refl _) ?_
                                conv => whnf
                                refine Need.mk (OLe.refl _) ?_
                                conv => whnf
                                refine Need.mk (OLe.refl _) ?_
                                exact trivial
                            · conv => whnf
                              refine Both.mk ?_ trivial
                              conv => whnf
                              intro hd191
                              conv => whnf
                              refine Side.mk rfl ⟨_, idx_0 hx407, idx_map _ hx407, ?_⟩
                              conv => whnf
                              refine Need.mk (AV.le_refl _) ?_
                              conv => whnf
                              refine Need.mk (AV.le_refl _) ?_
                              conv => whnf
                              refine Ln.mk _ (List.length_map _) ?_
                              conv => whnf
                              refine Need.mk (AV.le_refl _) ?_
                              conv => whnf
                              refine Need.mk (AV.le_refl _) ?_
                              conv => whnf
                              refine Ln.mk _ (List.length_map _) ?_
                              conv => whnf
                              refine Need.mk (AV.le_refl _) ?_
                              conv => whnf
                              refine Need.mk (AV.le_refl _) ?_
                              conv => whnf
                              refine Need.mk (AV.le_refl _) ?_
                              conv => whnf
                              refine Both.mk ?_ trivial
                              conv => whnf
                              refine Need.mk (slc_need3 _ hx408) (Eqv.mk (List.map (fun x => .int .u8 x) l57) (slc_map _ hx408) ?_)
                              conv => whnf
                              refine Side.mk rfl ⟨_, idx_0 hx407, idx_map _ hx407, ?_⟩
                              conv => whnf
                              refine Need.mk (AV.le_refl _) ?_
                              conv => whnf
                              refine Need.mk (AV.le_refl _) ?_
                              conv => whnf
                              refine Need.mk (AV.le_refl _) ?_
                              conv => whnf
                              refine Need.mk (AV.le_refl _) ?_
                              conv => whnf
                              refine Both.mk ?_ trivial
                              conv => whnf
                              refine Side.mk ⟨rfl, rfl⟩ ?_
                              conv => whnf
                              refine Side.mk rfl (Need.mk (appB_need hx409 (by decide)) (Eqv.mk (List.map (fun x => .int .u8 x) l58) (appB_map _ hx409) ?_))
                              conv => whnf
                              refine Side.mk rfl ⟨_, idx_0 hx407, idx_map _ hx407, ?_⟩
                              conv => whnf
                              refine Need.mk (AV.le_refl _) ?_
                              conv => whnf
                              refine Need.mk (AV.le_refl _) ?_
                              conv => whnf
                              refine Need.mk (AV.le_refl _) ?_
                              conv => whnf
                              refine Need.mk (AV.le_refl _) ?_
                              conv => whnf
                              refine Both.mk ?_ trivial
                              cases hx406
                              conv => whnf
                              refine ⟨(), trivial, Sub.eq rfl ?_ ?_⟩
                              · repeat ((conv => whnf); refine Need.mk rfl ?_)
                                exact trivial
                              · conv => whnf
                                refine Need.mk (OLe.refl _) ?_
                                conv => whnf
                                refine Need.mk (OLe.refl _) ?_
                                conv => whnf
                                refine Need.mk (OLe.refl _) ?_
                                exact trivial
                          · replace hx406 := ite_f hc284 hx406
                            cases hx406
                            conv => whnf
                            refine ⟨(), trivial, Sub.eq rfl ?_ ?_⟩
                            · repeat ((conv => whnf); refine Need.mk rfl ?_)
                              exact trivial
                            · conv => whnf
                              refine Need.mk (OLe.refl _) ?_
                              conv => whnf
                              refine Need.mk (OLe.refl _) ?_
                              conv => whnf
                              refine Need.mk (OLe.refl _) ?_
                              exact trivial
                        · rintro _ _
                          obtain ⟨⟨v69, c19⟩, hx414, h⟩ := obind h
                          conv => whnf
                          refine SeqG.mk Nat (fun y => [(1, .d (.list 1 (List.map (fun x => .list 1 (List.map I x)) a2))), (2, .d (.list 1 (List.map (fun x => .int .u8 x) v68))), (3, .d (.ref (.agg [I a1.fFrames, I a1.fPins, I a1.fBalls, I a1.fTap]))), (7, .ptr 7 b4 0), (8, .ptr 8 b5 0), (9, .ptr 9 b6 0), (10, .i .i64 1), (11, .ptr 11 y 0), (12, .d (I v69))]) (fun y => [(7, .cells b4 [.d (I c15.fLo), .d (I 0), .d (I 0)]), (8, .cells b5 [.d (I x88), .d (I 0), .d (I 0)]), (9, .cells b6 [.d (I c15.fHi), .d (I 0), .d (I 0)]), (11, .cells y [.d (I c19.fLo), .d (I c19.fHi)])]) (fun _ => True) ?_ ?_
                          · obtain ⟨x107, hx415, hx414⟩ := obind hx414
                            obtain ⟨r144, hx416, hx414⟩ := obind hx414
                            obtain ⟨l60, hx417, hx414⟩ := obind hx414
                            obtain ⟨⟨ra38, rb38⟩, hx418, hx414⟩ := obind hx414
                            conv => whnf
                            refine DrawG.mk (.take 0 (.take 2 (.take 3 (.take 4 (.take 5 (.alt 1 [5, 4, 3, 2] (.alt 6 [4, 3, 2] (.alt 7 [4, 3, 2] (.take 8 (.take 9 (.take 10 (.alt 11 [10, 9, 8, 4, 3, 2] (.alt 12 [10] (.take 13 .done) .nil) .nil)))) (.alt 11 [4, 3, 2] (.alt 7 [4, 3, 2] (.take 8 (.take 9 (.take 10 (.alt 12 [10] (.take 13 .done) .nil)))) .nil) .nil)) (.alt 11 [5, 4, 3, 2] (.alt 6 [4, 3, 2] (.alt 7 [4, 3, 2] (.take 8 (.take 9 (.take 10 (.alt 12 [10] (.take 13 .done) .nil)))) .nil) .nil) .nil)) (.alt 11 [5, 4, 3, 2, 0] (.alt 1 [5, 4, 3, 2] (.alt 6 [4, 3, 2] (.alt 7 [4, 3, 2] (.take 8 (.take 9 (.take 10 (.alt 12 [10] (.take 13 .done) .nil)))) .nil) .nil) .nil) .nil))))))) (by kernel_rfl) ?_
                            conv => whnf
                            refine Side.mk rfl ⟨_, idx_0 hx415, idx_map _ hx415, ?_⟩
                            conv => whnf
                            refine Both.mk ?_ ?_
                            · conv => whnf
                              refine CallG.pure _ (law01LawC hN hx416) ?_
                              conv => whnf
                              refine Need.mk (AV.le_refl _) ?_
                              conv => whnf
                              refine Side.mk rfl ⟨_, idx_0 hx415, idx_map _ hx415, ?_⟩
                              conv => whnf
                              refine Need.mk (AV.le_refl _) ?_
                              conv => whnf
                              refine Need.mk (AV.le_refl _) ?_
                              conv => whnf
                              refine Need.mk (AV.le_refl _) ?_
                              conv => whnf
                              refine Both.mk ?_ ?_
                              · conv => whnf
                                refine Side.mk rfl ?_
                                conv => whnf
                                refine Need.mk (app_need0 hN hx417 (by decide)) (Eqv.mk (List.map I l60) (app_map0 _ hx417) ?_)
                                conv => whnf
                                intro hd198
                                conv => whnf
                                refine Side.mk rfl ⟨_, idx_0 hx415, idx_map _ hx415, ?_⟩
                                conv => whnf
                                refine Need.mk (AV.le_refl _) ?_
                                conv => whnf
                                refine Need.mk (AV.le_refl _) ?_
                                conv => whnf
                                refine Need.mk (AV.le_refl _) ?_
                                conv => whnf
                                refine Both.mk ?_ ?_
                                · conv => whnf
                                  refine Side.mk rfl ?_
                                  conv => whnf
                                  refine CallG.pure _ (frameSpanC hN hx418) ?_
                                  conv => whnf
                                  refine Side.mk rfl ⟨_, idx_0 hx415, idx_map _ hx415, ?_⟩
                                  conv => whnf
                                  refine Need.mk (AV.le_refl _) ?_
                                  conv => whnf
                                  refine Need.mk (AV.le_refl _) ?_
                                  conv => whnf
                                  refine Need.mk (AV.le_refl _) ?_
                                  conv => whnf
                                  refine Both.mk ?_ trivial
                                  conv => whnf
                                  intro b193
                                  conv => whnf
                                  refine Need.mk (AV.le_refl _) ?_
                                  conv => whnf
                                  refine Need.mk (AV.le_refl _) ?_
                                  conv => whnf
                                  refine Need.mk (AV.le_refl _) ?_
                                  conv => whnf
                                  refine Side.mk rfl ⟨_, idx_0 hx415, idx_map _ hx415, ?_⟩
                                  conv => whnf
                                  refine Need.mk (AV.le_refl _) ?_
                                  conv => whnf
                                  refine Need.mk (AV.le_refl _) ?_
                                  conv => whnf
                                  refine Need.mk (AV.le_refl _) ?_
                                  conv => whnf
                                  refine Both.mk ?_ trivial
                                  conv => whnf
                                  refine Side.mk rfl ?_
                                  conv => whnf
                                  refine Need.mk (AV.le_refl _) ?_
                                  cases hx414
                                  conv => whnf
                                  refine ⟨b193, trivial, Sub.eq rfl ?_ ?_⟩
                                  · repeat ((conv => whnf); refine Need.mk rfl ?_)
                                    exact trivial
                                  · conv => whnf
                                    refine Need.mk (OLe.refl _) ?_
                                    conv => whnf
                                    refine Need.mk (OLe.refl _) ?_
                                    conv => whnf
                                    refine Need.mk (OLe.refl _) ?_
                                    conv => whnf
                                    refine Need.mk (OLe.refl _) ?_
                                    exact trivial
                                · conv => whnf
                                  refine Both.mk ?_ trivial
                                  conv => whnf
                                  intro b194
                                  conv => whnf
                                  refine Side.mk rfl ⟨_, idx_0 hx415, idx_map _ hx415, ?_⟩
                                  conv => whnf
                                  refine Need.mk (AV.le_refl _) ?_
                                  conv => whnf
                                  refine Need.mk (AV.le_refl _) ?_
                                  conv => whnf
                                  refine Need.mk (AV.le_refl _) ?_
                                  conv => whnf
                                  refine Both.mk ?_ trivial
                                  conv => whnf
                                  refine Side.mk rfl ?_
                                  conv => whnf
                                  refine CallG.pure _ (frameSpanC hN hx418) ?_
                                  conv => whnf
                                  refine Side.mk rfl ⟨_, idx_0 hx415, idx_map _ hx415, ?_⟩
                                  conv => whnf
                                  refine Need.mk (AV.le_refl _) ?_
                                  conv => whnf
                                  refine Need.mk (AV.le_refl _) ?_
                                  conv => whnf
                                  refine Need.mk (AV.le_refl _) ?_
                                  conv => whnf
                                  refine Both.mk ?_ trivial
                                  conv => whnf
                                  refine Side.mk rfl ?_
                                  conv => whnf
                                  refine Need.mk (AV.le_refl _) ?_
                                  cases hx414
                                  conv => whnf
                                  refine ⟨b194, trivial, Sub.eq rfl ?_ ?_⟩
                                  · repeat ((conv => whnf); refine Need.mk rfl ?_)
                                    exact trivial
                                  · conv => whnf
                                    refine Need.mk (OLe.refl _) ?_
                                    conv => whnf
                                    refine Need.mk (OLe.refl _) ?_
                                    conv => whnf
                                    refine Need.mk (OLe.refl _) ?_
                                    conv => whnf
                                    refine Need.mk (OLe.refl _) ?_
                                    exact trivial
                              · conv => whnf
                                refine Both.mk ?_ trivial
                                conv => whnf
                                intro b195
                                conv => whnf
                                refine Need.mk (AV.le_refl _) ?_
                                conv => whnf
                                refine Side.mk rfl ⟨_, idx_0 hx415, idx_map _ hx415, ?_⟩
                                conv => whnf
                                refine Need.mk (AV.le_refl _) ?_
                                conv => whnf
                                refine Need.mk (AV.le_refl _) ?_
                                conv => whnf
                                refine Need.mk (AV.le_refl _) ?_
                                conv => whnf
                                refine Both.mk ?_ trivial
                                conv => whnf
                                refine Side.mk rfl ?_
                                conv => whnf
                                refine Need.mk (app_need0 hN hx417 (by decide)) (Eqv.mk (List.map I l60) (app_map0 _ hx417) ?_)
                                conv => whnf
                                intro hd199
                                conv => whnf
                                refine Side.mk rfl ⟨_, idx_0 hx415, idx_map _ hx415, ?_⟩
                                conv => whnf
                                refine Need.mk (AV.le_refl _) ?_
                                conv => whnf
                                refine Need.mk (AV.le_refl _) ?_
                                conv => whnf
                                refine Need.mk (AV.le_refl _) ?_
                                conv => whnf
                                refine Both.mk ?_ trivial
                                conv => whnf
                                refine Side.mk rfl ?_
                                conv => whnf
                                refine CallG.pure _ (frameSpanC hN hx418) ?_
                                conv => whnf
                                refine Side.mk rfl ⟨_, idx_0 hx415, idx_map _ hx415, ?_⟩
                                conv => whnf
                                refine Need.mk (AV.le_refl _) ?_
                                conv => whnf
                                refine Need.mk (AV.le_refl _) ?_
                                conv => whnf
                                refine Need.mk (AV.le_refl _) ?_
                                conv => whnf
                                refine Both.mk ?_ trivial
                                conv => whnf
                                refine Side.mk rfl ?_
                                conv => whnf
                                refine Need.mk (AV.le_refl _) ?_
                                cases hx414
                                conv => whnf
                                refine ⟨b195, trivial, Sub.eq rfl ?_ ?_⟩
                                · repeat ((conv => whnf); refine Need.mk rfl ?_)
                                  exact trivial
                                · conv => whnf
                                  refine Need.mk (OLe.refl _) ?_
                                  conv => whnf
                                  refine Need.mk (OLe.refl _) ?_
                                  conv => whnf
                                  refine Need.mk (OLe.refl _) ?_
                                  conv => whnf
                                  refine Need.mk (OLe.refl _) ?_
                                  exact trivial
                            · conv => whnf
                              refine Both.mk ?_ trivial
                              conv => whnf
                              intro b196
                              conv => whnf
                              refine Need.mk (AV.le_refl _) ?_
                              conv => whnf
                              refine Side.mk rfl ⟨_, idx_0 hx415, idx_map _ hx415, ?_⟩
                              conv => whnf
                              refine Need.mk (AV.le_refl _) ?_
                              conv => whnf
                              refine Need.mk (AV.le_refl _) ?_
                              conv => whnf
                              refine Need.mk (AV.le_refl _) ?_
                              conv => whnf
                              refine Need.mk (AV.le_refl _) ?_
                              conv => whnf
                              refine Both.mk ?_ trivial
                              conv => whnf
                              refine CallG.pure _ (law01LawC hN hx416) ?_
                              conv => whnf
                              refine Need.mk (AV.le_refl _) ?_
                              conv => whnf
                              refine Side.mk rfl ⟨_, idx_0 hx415, idx_map _ hx415, ?_⟩
                              conv => whnf
                              refine Need.mk (AV.le_refl _) ?_
                              conv => whnf
                              refine Need.mk (AV.le_refl _) ?_
                              conv => whnf
                              refine Need.mk (AV.le_refl _) ?_
                              conv => whnf
                              refine Both.mk ?_ trivial
                              conv => whnf
                              refine Side.mk rfl ?_
                              conv => whnf
                              refine Need.mk (app_need0 hN hx417 (by decide)) (Eqv.mk (List.map I l60) (app_map0 _ hx417) ?_)
                              conv => whnf
                              intro hd200
                              conv => whnf
                              refine Side.mk rfl ⟨_, idx_0 hx415, idx_map _ hx415, ?_⟩
                              conv => whnf
                              refine Need.mk (AV.le_refl _) ?_
                              conv => whnf
                              refine Need.mk (AV.le_refl _) ?_
                              conv => whnf
                              refine Need.mk (AV.le_refl _) ?_
                              conv => whnf
                              refine Both.mk ?_ trivial
                              conv => whnf
                              refine Side.mk rfl ?_
                              conv => whnf
                              refine CallG.pure _ (frameSpanC hN hx418) ?_
                              conv => whnf
                              refine Side.mk rfl ⟨_, idx_0 hx415, idx_map _ hx415, ?_⟩
                              conv => whnf
                              refine Need.mk (AV.le_refl _) ?_
                              conv => whnf
                              refine Need.mk (AV.le_refl _) ?_
                              conv => whnf
                              refine Need.mk (AV.le_refl _) ?_
                              conv => whnf
                              refine Both.mk ?_ trivial
                              conv => whnf
                              refine Side.mk rfl ?_
                              conv => whnf
                              refine Need.mk (AV.le_refl _) ?_
                              cases hx414
                              conv => whnf
                              refine ⟨b196, trivial, Sub.eq rfl ?_ ?_⟩
                              · repeat ((conv => whnf); refine Need.mk rfl ?_)
                                exact trivial
                              · conv => whnf
                                refine Need.mk (OLe.refl _) ?_
                                conv => whnf
                                refine Need.mk (OLe.refl _) ?_
                                conv => whnf
                                refine Need.mk (OLe.refl _) ?_
                                conv => whnf
                                refine Need.mk (OLe.refl _) ?_
                                exact trivial
                          · rintro bb19 _
                            obtain ⟨⟨v70, c20⟩, hx423, h⟩ := obind h
                            conv => whnf
                            refine SeqG.mk Nat (fun y => [(1, .d (.list 1 (List.map (fun x => .list 1 (List.map I x)) a2))), (2, .d (.list 1 (List.map (fun x => .int .u8 x) v68))), (3, .d (.ref (.agg [I a1.fFrames, I a1.fPins, I a1.fBalls, I a1.fTap]))), (7, .ptr 7 b4 0), (8, .ptr 8 b5 0), (9, .ptr 9 b6 0), (10, .i .i64 1), (11, .ptr 11 bb19 0), (12, .d (I v69)), (13, .ptr 13 y 0), (14, .d (I v70))]) (fun y => [(7, .cells b4 [.d (I c15.fLo), .d (I 0), .d (I 0)]), (8, .cells b5 [.d (I x88), .d (I 0), .d (I 0)]), (9, .cells b6 [.d (I c15.fHi), .d (I 0), .d (I 0)]), (11, .cells bb19 [.d (I c19.fLo), .d (I c19.fHi)]), (13, .cells y [.d (.list 1 (List.map (fun x => .list 1 (List.map I x)) c20.fFrames)), .d (.list 1 (List.map I c20.fCounts)), .d (I c20.fStanding), .d (.bool c20.fDone)])]) (fun _ => True) ?_ ?_
                            · obtain ⟨x109, hx424, hx423⟩ := obind hx423
                              obtain ⟨r147, hx425, hx423⟩ := obind hx423
                              obtain ⟨r148, hx426, hx423⟩ := obind hx423
                              obtain ⟨⟨ra40, rb40⟩, hx427, hx423⟩ := obind hx423
                              conv => whnf
                              refine DrawG.mk (.take 0 (.take 2 (.take 3 (.take 4 (.take 5 (.take 6 (.take 7 (.alt 1 [7, 6, 5, 4, 3, 2] (.alt 8 [5, 4, 3] (.alt 9 [5, 4, 3] (.take 10 (.take 11 (.take 12 (.alt 13 [12, 11, 10, 5, 4, 3] (.alt 14 [12] (.take 15 .done) .nil) .nil)))) (.alt 13 [5, 4, 3] (.alt 9 [5, 4, 3] (.take 10 (.take 11 (.take 12 (.alt 14 [12] (.take 15 .done) .nil)))) .nil) .nil)) (.alt 13 [7, 6, 5, 4, 3, 2] (.alt 8 [5, 4, 3] (.alt 9 [5, 4, 3] (.take 10 (.take 11 (.take 12 (.alt 14 [12] (.take 15 .done) .nil)))) .nil) .nil) .nil)) (.alt 13 [7, 6, 5, 4, 3, 2, 0] (.alt 1 [7, 6, 5, 4, 3, 2] (.alt 8 [5, 4, 3] (.alt 9 [5, 4, 3] (.take 10 (.take 11 (.take 12 (.alt 14 [12] (.take 15 .done) .nil)))) .nil) .nil) .nil) .nil))))))))) (by kernel_rfl) ?_
                              conv => whnf
                              refine Side.mk rfl ⟨_, idx_0 hx424, idx_map _ hx424, ?_⟩
                              conv => whnf
                              refine Both.mk ?_ ?_
                              · conv => whnf
                                refine CallG.pure _ (law01LawC hN hx425) ?_
                                conv => whnf
                                refine Need.mk (AV.le_refl _) ?_
                                conv => whnf
                                refine Need.mk (AV.le_refl _) ?_
                                conv => whnf
                                refine Side.mk rfl ⟨_, idx_0 hx424, idx_map _ hx424, ?_⟩
                                conv => whnf
                                refine Need.mk (AV.le_refl _) ?_
                                conv => whnf
                                refine Need.mk (AV.le_refl _) ?_
                                conv => whnf
                                refine Need.mk (AV.le_refl _) ?_
                                conv => whnf
                                refine Need.mk (AV.le_refl _) ?_
                                conv => whnf
                                refine Both.mk ?_ ?_
                                · conv => whnf
                                  refine CallG.pure _ (law01EndedC hN hx426) ?_
                                  conv => whnf
                                  refine Side.mk rfl ⟨_, idx_0 hx424, idx_map _ hx424, ?_⟩
                                  conv => whnf
                                  refine Need.mk (AV.le_refl _) ?_
                                  conv => whnf
                                  refine Need.mk (AV.le_refl _) ?_
                                  conv => whnf
                                  refine Need.mk (AV.le_refl _) ?_
                                  conv => whnf
                                  refine Both.mk ?_ ?_
                                  · conv => whnf
                                    refine CallG.pure _ (frameReadC hN hx427) ?_
                                    conv => whnf
                                    refine Side.mk rfl ⟨_, idx_0 hx424, idx_map _ hx424, ?_⟩
                                    conv => whnf
                                    refine Need.mk (AV.le_refl _) ?_
                                    conv => whnf
                                    refine Need.mk (AV.le_refl _) ?_
                                    conv => whnf
                                    refine Need.mk (AV.le_refl _) ?_
                                    conv => whnf
                                    refine Both.mk ?_ trivial
                                    conv => whnf
                                    intro b203
                                    conv => whnf
                                    refine Need.mk (AV.le_refl _) ?_
                                    conv => whnf
                                    refine Need.mk (AV.le_refl _) ?_
                                    conv => whnf
                                    refine Need.mk (AV.le_refl _) ?_
                                    conv => whnf
                                    refine Side.mk rfl ⟨_, idx_0 hx424, idx_map _ hx424, ?_⟩
                                    conv => whnf
                                    refine Need.mk (AV.le_refl _) ?_
                                    conv => whnf
                                    refine Need.mk (AV.le_refl _) ?_
                                    conv => whnf
                                    refine Need.mk (AV.le_refl _) ?_
                                    conv => whnf
                                    refine Both.mk ?_ trivial
                                    conv => whnf
                                    refine Side.mk rfl ?_
                                    conv => whnf
                                    refine Need.mk (AV.le_refl _) ?_
                                    cases hx423
                                    conv => whnf
                                    refine ⟨b203, trivial, Sub.eq rfl ?_ ?_⟩
                                    · repeat ((conv => whnf); refine Need.mk rfl ?_)
                                      exact trivial
                                    · conv => whnf
                                      refine Need.mk (OLe.refl _) ?_
                                      conv => whnf
                                      refine Need.mk (OLe.refl _) ?_
                                      conv => whnf
                                      refine Need.mk (OLe.refl _) ?_
                                      conv => whnf
                                      refine Need.mk (OLe.refl _) ?_
                                      conv => whnf
                                      refine Need.mk (OLe.refl _) ?_
                                      exact trivial
                                  · conv => whnf
                                    refine Both.mk ?_ trivial
                                    conv => whnf
                                    intro b204
                                    conv => whnf
                                    refine Side.mk rfl ⟨_, idx_0 hx424, idx_map _ hx424, ?_⟩
                                    conv => whnf
                                    refine Need.mk (AV.le_refl _) ?_
                                    conv => whnf
                                    refine Need.mk (AV.le_refl _) ?_
                                    conv => whnf
                                    refine Need.mk (AV.le_refl _) ?_
                                    conv => whnf
                                    refine Both.mk ?_ trivial
                                    conv => whnf
                                    refine CallG.pure _ (frameReadC hN hx427) ?_
                                    conv => whnf
                                    refine Side.mk rfl ⟨_, idx_0 hx424, idx_map _ hx424, ?_⟩
                                    conv => whnf
                                    refine Need.mk (AV.le_refl _) ?_
                                    conv => whnf
                                    refine Need.mk (AV.le_refl _) ?_
                                    conv => whnf
                                    refine Need.mk (AV.le_refl _) ?_
                                    conv => whnf
                                    refine Both.mk ?_ trivial
                                    conv => whnf
                                    refine Side.mk rfl ?_
                                    conv => whnf
                                    refine Need.mk (AV.le_refl _) ?_
                                    cases hx423
                                    conv => whnf
                                    refine ⟨b204, trivial, Sub.eq rfl ?_ ?_⟩
                                    · repeat ((conv => whnf); refine Need.mk rfl ?_)
                                      exact trivial
                                    · conv => whnf
                                      refine Need.mk (OLe.refl _) ?_
                                      conv => whnf
                                      refine Need.mk (OLe.refl _) ?_
                                      conv => whnf
                                      refine Need.mk (OLe.refl _) ?_
                                      conv => whnf
                                      refine Need.mk (OLe.refl _) ?_
                                      conv => whnf
                                      refine Need.mk (OLe.refl _) ?_
                                      exact trivial
                                · conv => whnf
                                  refine Both.mk ?_ trivial
                                  conv => whnf
                                  intro b205
                                  conv => whnf
                                  refine Need.mk (AV.le_refl _) ?_
                                  conv => whnf
                                  refine Need.mk (AV.le_refl _) ?_
                                  conv => whnf
                                  refine Side.mk rfl ⟨_, idx_0 hx424, idx_map _ hx424, ?_⟩
                                  conv => whnf
                                  refine Need.mk (AV.le_refl _) ?_
                                  conv => whnf
                                  refine Need.mk (AV.le_refl _) ?_
                                  conv => whnf
                                  refine Need.mk (AV.le_refl _) ?_
                                  conv => whnf
                                  refine Need.mk (AV.le_refl _) ?_
                                  conv => whnf
                                  refine Both.mk ?_ trivial
                                  conv => whnf
                                  refine CallG.pure _ (law01EndedC hN hx426) ?_
                                  conv => whnf
                                  refine Side.mk rfl ⟨_, idx_0 hx424, idx_map _ hx424, ?_⟩
                                  conv => whnf
                                  refine Need.mk (AV.le_refl _) ?_
                                  conv => whnf
                                  refine Need.mk (AV.le_refl _) ?_
                                  conv => whnf
                                  refine Need.mk (AV.le_refl _) ?_
                                  conv => whnf
                                  refine Both.mk ?_ trivial
                                  conv => whnf
                                  refine CallG.pure _ (frameReadC hN hx427) ?_
                                  conv => whnf
                                  refine Side.mk rfl ⟨_, idx_0 hx424, idx_map _ hx424, ?_⟩
                                  conv => whnf
                                  refine Need.mk (AV.le_refl _) ?_
                                  conv => whnf
                                  refine Need.mk (AV.le_refl _) ?_
                                  conv => whnf
                                  refine Need.mk (AV.le_refl _) ?_
                                  conv => whnf
                                  refine Both.mk ?_ trivial
                                  conv => whnf
                                  refine Side.mk rfl ?_
                                  conv => whnf
                                  refine Need.mk (AV.le_refl _) ?_
                                  cases hx423
                                  conv => whnf
                                  refine ⟨b205, trivial, Sub.eq rfl ?_ ?_⟩
                                  · repeat ((conv => whnf); refine Need.mk rfl ?_)
                                    exact trivial
                                  · conv => whnf
                                    refine Need.mk (OLe.refl _) ?_
                                    conv => whnf
                                    refine Need.mk (OLe.refl _) ?_
                                    conv => whnf
                                    refine Need.mk (OLe.refl _) ?_
                                    conv => whnf
                                    refine Need.mk (OLe.refl _) ?_
                                    conv => whnf
                                    refine Need.mk (OLe.refl _) ?_
                                    exact trivial
                              · conv => whnf
                                refine Both.mk ?_ trivial
                                conv => whnf
                                intro b206
                                conv => whnf
                                refine Need.mk (AV.le_refl _) ?_
                                conv => whnf
                                refine Need.mk (AV.le_refl _) ?_
                                conv => whnf
                                refine Side.mk rfl ⟨_, idx_0 hx424, idx_map _ hx424, ?_⟩
                                conv => whnf
                                refine Need.mk (AV.le_refl _) ?_
                                conv => whnf
                                refine Need.mk (AV.le_refl _) ?_
                                conv => whnf
                                refine Need.mk (AV.le_refl _) ?_
                                conv => whnf
                                refine Need.mk (AV.le_refl _) ?_
                                conv => whnf
                                refine Need.mk (AV.le_refl _) ?_
                                conv => whnf
                                refine Both.mk ?_ trivial
                                conv => whnf
                                refine CallG.pure _ (law01LawC hN hx425) ?_
                                conv => whnf
                                refine Need.mk (AV.le_refl _) ?_
                                conv => whnf
                                refine Need.mk (AV.le_refl _) ?_
                                conv => whnf
                                refine Side.mk rfl ⟨_, idx_0 hx424, idx_map _ hx424, ?_⟩
                                conv => whnf
                                refine Need.mk (AV.le_refl _) ?_
                                conv => whnf
                                refine Need.mk (AV.le_refl _) ?_
                                conv => whnf
                                refine Need.mk (AV.le_refl _) ?_
                                conv => whnf
                                refine Need.mk (AV.le_refl _) ?_
                                conv => whnf
                                refine Both.mk ?_ trivial
                                conv => whnf
                                refine CallG.pure _ (law01EndedC hN hx426) ?_
                                conv => whnf
                                refine Side.mk rfl ⟨_, idx_0 hx424, idx_map _ hx424, ?_⟩
                                conv => whnf
                                refine Need.mk (AV.le_refl _) ?_
                                conv => whnf
                                refine Need.mk (AV.le_refl _) ?_
                                conv => whnf
                                refine Need.mk (AV.le_refl _) ?_
                                conv => whnf
                                refine Both.mk ?_ trivial
                                conv => whnf
                                refine CallG.pure _ (frameReadC hN hx427) ?_
                                conv => whnf
                                refine Side.mk rfl ⟨_, idx_0 hx424, idx_map _ hx424, ?_⟩
                                conv => whnf
                                refine Need.mk (AV.le_refl _) ?_
                                conv => whnf
                                refine Need.mk (AV.le_refl _) ?_
                                conv => whnf
                                refine Need.mk (AV.le_refl _) ?_
                                conv => whnf
                                refine Both.mk ?_ trivial
                                conv => whnf
                                refine Side.mk rfl ?_
                                conv => whnf
                                refine Need.mk (AV.le_refl _) ?_
                                cases hx423
                                conv => whnf
                                refine ⟨b206, trivial, Sub.eq rfl ?_ ?_⟩
                                · repeat ((conv => whnf); refine Need.mk rfl ?_)
                                  exact trivial
                                · conv => whnf
                                  refine Need.mk (OLe.refl _) ?_
                                  conv => whnf
                                  refine Need.mk (OLe.refl _) ?_
                                  conv => whnf
                                  refine Need.mk (OLe.refl _) ?_
                                  conv => whnf
                                  refine Need.mk (OLe.refl _) ?_
                                  conv => whnf
                                  refine Need.mk (OLe.refl _) ?_
                                  exact trivial
                            · rintro bb20 _
                              obtain ⟨v72, hx429, h⟩ := obind h
                              conv => whnf
                              refine SeqG.mk Unit (fun y => [(1, .d (.list 1 (List.map (fun x => .list 1 (List.map I x)) a2))), (2, .d (.list 1 (List.map (fun x => .int .u8 x) v68))), (3, .d (.ref (.agg [I a1.fFrames, I a1.fPins, I a1.fBalls, I a1.fTap]))), (7, .ptr 7 b4 0), (8, .ptr 8 b5 0), (9, .ptr 9 b6 0), (10, .i .i64 1), (11, .ptr 11 bb19 0), (13, .ptr 13 bb20 0), (122, .d (.bool v72))]) (fun y => [(7, .cells b4 [.d (I c15.fLo), .d (I 0), .d (I 0)]), (8, .cells b5 [.d (I x88), .d (I 0), .d (I 0)]), (9, .cells b6 [.d (I c15.fHi), .d (I 0), .d (I 0)]), (11, .cells bb19 [.d (I c19.fLo), .d (I c19.fHi)]), (13, .cells bb20 [.d (.list 1 (List.map (fun x => .list 1 (List.map I x)) c20.fFrames)), .d (.list 1 (List.map I c20.fCounts)), .d (I c20.fStanding), .d (.bool c20.fDone)])]) (fun _ => True) ?_ ?_
                              · conv => whnf
                                refine Br.mk (fun hc301 => ?_) (fun hc301 => ?_)
                                · replace hx429 := ite_f hc301 hx429
                                  conv => whnf
                                  refine Br.mk (fun hc302 => ?_) (fun hc302 => ?_)
                                  · replace hx429 := ite_f hc302 hx429
                                    conv => whnf
                                    refine Side.mk rfl ?_
                                    conv => whnf
                                    refine Br.mk (fun hc303 => ?_) (fun hc303 => ?_)
                                    · replace hx429 := ite_f hc303 hx429
                                      conv => whnf
                                      refine Side.mk rfl ?_
                                      conv => whnf
                                      refine Ln.mk _ (List.length_map _) ?_
                                      conv => whnf
                                      refine Br.mk (fun hc304 => ?_) (fun hc304 => ?_)
                                      · replace hx429 := ite_f hc304 hx429
                                        conv => whnf
                                        refine Side.mk rfl ?_
                                        conv => whnf
                                        refine Br.mk (fun hc305 => ?_) (fun hc305 => ?_)
                                        · replace hx429 := ite_f hc305 hx429
                                          conv => whnf
                                          refine Side.mk rfl ?_
                                          cases hx429
                                          conv => whnf
                                          refine ⟨(), trivial, Sub.eq rfl ?_ ?_⟩
                                          · repeat ((conv => whnf); refine Need.mk rfl ?_)
                                            exact trivial
                                          · conv => whnf
                                            refine Need.mk (OLe.refl _) ?_
                                            conv => whnf
                                            refine Need.mk (OLe.refl _) ?_
                                            conv => whnf
                                            refine Need.mk (OLe.refl _) ?_
                                            conv => whnf
                                            refine Need.mk (OLe.refl _) ?_
                                            conv => whnf
                                            refine Need.mk (OLe.refl _) ?_
                                            exact trivial
                                        · replace hx429 := ite_t hc305 hx429
                                          cases hx429
                                          conv => whnf
                                          refine ⟨(), trivial, Sub.eq rfl ?_ ?_⟩
                                          · repeat ((conv => whnf); refine Need.mk rfl ?_)
                                            exact trivial
                                          · conv => whnf
                                            refine Need.mk (OLe.refl _) ?_
                                            conv => whnf
                                            refine Need.mk (OLe.refl _) ?_
                                            conv => whnf
                                            refine Need.mk (OLe.refl _) ?_
                                            conv => whnf
                                            refine Need.mk (OLe.refl _) ?_
                                            conv => whnf
                                            refine Need.mk (OLe.refl _) ?_
                                            exact trivial
                                      · replace hx429 := ite_t hc304 hx429
                                        cases hx429
                                        conv => whnf
                                        refine ⟨(), trivial, Sub.eq rfl ?_ ?_⟩
                                        · repeat ((conv => whnf); refine Need.mk rfl ?_)
                                          exact trivial
                                        · conv => whnf
                                          refine Need.mk (OLe.refl _) ?_
                                          conv => whnf
                                          refine Need.mk (OLe.refl _) ?_
                                          conv => whnf
                                          refine Need.mk (OLe.refl _) ?_
                                          conv => whnf
                                          refine Need.mk (OLe.refl _) ?_
                                          conv => whnf
                                          refine Need.mk (OLe.refl _) ?_
                                          exact trivial
                                    · replace hx429 := ite_t hc303 hx429
                                      cases hx429
                                      conv => whnf
                                      refine ⟨(), trivial, Sub.eq rfl ?_ ?_⟩
                                      · repeat ((conv => whnf); refine Need.mk rfl ?_)
                                        exact trivial
                                      · conv => whnf
                                        refine Need.mk (OLe.refl _) ?_
                                        conv => whnf
                                        refine Need.mk (OLe.refl _) ?_
                                        conv => whnf
                                        refine Need.mk (OLe.refl _) ?_
                                        conv => whnf
                                        refine Need.mk (OLe.refl _) ?_
                                        conv => whnf
                                        refine Need.mk (OLe.refl _) ?_
                                        exact trivial
                                  · replace hx429 := ite_t hc302 hx429
                                    cases hx429
                                    conv => whnf
                                    refine ⟨(), trivial, Sub.eq rfl ?_ ?_⟩
                                    · repeat ((conv => whnf); refine Need.mk rfl ?_)
                                      exact trivial
                                    · conv => whnf
                                      refine Need.mk (OLe.refl _) ?_
                                      conv => whnf
                                      refine Need.mk (OLe.refl _) ?_
                                      conv => whnf
                                      refine Need.mk (OLe.refl _) ?_
                                      conv => whnf
                                      refine Need.mk (OLe.refl _) ?_
                                      conv => whnf
                                      refine Need.mk (OLe.refl _) ?_
                                      exact trivial
                                · replace hx429 := ite_t hc301 hx429
                                  cases hx429
                                  conv => whnf
                                  refine ⟨(), trivial, Sub.eq rfl ?_ ?_⟩
                                  · repeat ((conv => whnf); refine Need.mk rfl ?_)
                                    exact trivial
                                  · conv => whnf
                                    refine Need.mk (OLe.refl _) ?_
                                    conv => whnf
                                    refine Need.mk (OLe.refl _) ?_
                                    conv => whnf
                                    refine Need.mk (OLe.refl _) ?_
                                    conv => whnf
                                    refine Need.mk (OLe.refl _) ?_
                                    conv => whnf
                                    refine Need.mk (OLe.refl _) ?_
                                    exact trivial
                              · rintro _ _
                                conv => whnf
                                refine Br.mk (fun hc306 => ?_) (fun hc306 => ?_)
                                · replace h := ite_t hc306 h
                                  conv => whnf
                                  cases h
                                  exact rfl
                                · replace h := ite_f hc306 h
                                  obtain ⟨x110, hx430, h⟩ := obind h
                                  conv => whnf
                                  refine DrawG.mk (.take 0 (.take 1 (.take 2 (.take 3 (.take 4 (.take 5 (.take 6 (.take 7 (.take 8 (.take 9 (.take 10 (.take 11 (.take 12 (.take 13 (.take 14 (.alt 15 [13, 12, 11, 10, 9, 8, 7, 6, 5, 2, 1] (.take 16 (.alt 17 [13, 12, 2] (.take 18 (.alt 19 [] .done .nil)) .nil)) .nil)))))))))))))))) (by kernel_rfl) ?_
                                  conv => whnf
                                  refine Side.mk rfl ?_
                                  conv => whnf
                                  refine Side.mk rfl ?_
                                  conv => whnf
                                  refine Side.mk rfl ⟨_, idx_0 hx430, idx_map _ hx430, ?_⟩
                                  conv => whnf
                                  refine Side.mk rfl ?_
                                  conv => whnf
                                  refine Need.mk (by decide) ?_
                                  conv => whnf
                                  refine Both.mk ?_ trivial
                                  conv => whnf
                                  refine Side.mk rfl ?_
                                  conv => whnf
                                  refine Side.mk rfl ?_
                                  conv => whnf
                                  refine Need.mk (AV.le_refl _) ?_
                                  conv => whnf
                                  refine Need.mk (AV.le_refl _) ?_
                                  conv => whnf
                                  refine Need.mk (AV.le_refl _) ?_
                                  conv => whnf
                                  refine Side.mk rfl ⟨_, idx_0 hx430, idx_map _ hx430, ?_⟩
                                  conv => whnf
                                  refine Need.mk (AV.le_refl _) ?_
                                  conv => whnf
                                  refine Need.mk (AV.le_refl _) ?_
                                  conv => whnf
                                  refine Need.mk (AV.le_refl _) ?_
                                  conv => whnf
                                  refine Need.mk (AV.le_refl _) ?_
                                  conv => whnf
                                  refine Side.mk rfl ?_
                                  conv => whnf
                                  refine Need.mk (AV.le_refl _) ?_
                                  conv => whnf
                                  refine Need.mk (AV.le_refl _) ?_
                                  conv => whnf
                                  refine Need.mk (AV.le_refl _) ?_
                                  conv => whnf
                                  refine Need.mk (AV.le_refl _) ?_
                                  conv => whnf
                                  refine Need.mk (by decide) ?_
                                  conv => whnf
                                  refine Both.mk ?_ trivial
                                  conv => whnf
                                  refine Side.mk rfl ?_
                                  conv => whnf
                                  refine Side.mk rfl ?_
                                  conv => whnf
                                  refine Need.mk (AV.le_refl _) ?_
                                  conv => whnf
                                  refine Need.mk (AV.le_refl _) ?_
                                  conv => whnf
                                  refine Need.mk (AV.le_refl _) ?_
                                  conv => whnf
                                  refine Need.mk (by decide) ?_
                                  conv => whnf
                                  refine Both.mk ?_ trivial
                                  conv => whnf
                                  refine Side.mk rfl ?_
                                  obtain ⟨v81, hx482, h⟩ := obind h
                                  conv => whnf
                                  refine SeqG.mk Unit (fun y => [(1, .d (.list 1 (List.map (fun x => .list 1 (List.map I x)) a2))), (2, .d (.list 1 (List.map (fun x => .int .u8 x) v68))), (3, .d (.ref (.agg [I a1.fFrames, I a1.fPins, I a1.fBalls, I a1.fTap]))), (7, .ptr 7 b4 0), (8, .ptr 8 b5 0), (9, .ptr 9 b6 0), (10, .i .i64 2), (54, .d (.bool v81))]) (fun y => [(7, .cells b4 [.d (I c15.fLo), .d (I c19.fLo), .d (I 0)]), (8, .cells b5 [.d (I x88), .d (I x110), .d (I 0)]), (9, .cells b6 [.d (I c15.fHi), .d (I c19.fHi), .d (I 0)])]) (fun _ => True) ?_ ?_
                                  · obtain ⟨x125, hx483, hx482⟩ := obind hx482
                                    conv => whnf
                                    refine DrawG.mk (.take 0 (.take 1 (.take 2 (.take 3 (.take 4 (.take 5 (.take 6 (.spl 46 (.take 7 (.take 8 (.take 9 (.take 10 (.take 11 (.alt 12 [10, 9, 8, 5, 4, 3, 2, 1, 0] (.take 13 (.take 14 .done)) .nil)))))))))))))) (by kernel_rfl) ?_
                                    conv => whnf
                                    refine Side.mk rfl ⟨_, idx_0 hx483, idx_map _ hx483, ?_⟩
                                    conv => whnf
                                    refine Ln.mk _ (List.length_map _) ?_
                                    conv => whnf
                                    refine Br.mk (fun hc341 => ?_) (fun hc341 => ?_)
                                    · replace hx482 := ite_t hc341 hx482
                                      conv => whnf
                                      refine Both.mk ?_ trivial
                                      conv => whnf
                                      refine Need.mk rfl ?_
                                      conv => whnf
                                      refine Need.mk rfl ?_
                                      conv => whnf
                                      refine Need.mk rfl ?_
                                      conv => whnf
                                      refine Need.mk (AV.le_refl _) ?_
                                      conv => whnf
                                      refine Ln.mk _ (List.length_map _) ?_
                                      conv => whnf
                                      refine Need.mk (AV.le_refl _) ?_
                                      conv => whnf
                                      refine Need.mk (AV.le_refl _) ?_
                                      conv => whnf
                                      refine Side.mk rfl ⟨_, idx_0 hx483, idx_map _ hx483, ?_⟩
                                      conv => whnf
                                      refine Need.mk (AV.le_refl _) ?_
                                      conv => whnf
                                      refine Need.mk (AV.le_refl _) ?_
                                      conv => whnf
                                      refine Need.mk (AV.le_refl _) ?_
                                      cases hx482
                                      conv => whnf
                                      refine ⟨(), trivial, Sub.eq rfl ?_ ?_⟩
                                      · repeat ((conv => whnf); refine Need.mk rfl ?_)
                                        exact trivial
                                      · conv => whnf
                                        refine Need.mk (OLe.refl _) ?_
                                        conv => whnf
                                        refine Need.mk (OLe.refl _) ?_
                                        conv => whnf
                                        refine Need.mk (OLe.refl _) ?_
                                        exact trivial
                                    · replace hx482 := ite_f hc341 hx482
                                      obtain ⟨r168, hx484, hx482⟩ := obind hx482
                                      conv => whnf
                                      refine Side.mk rfl ⟨_, idx_0 hx483, idx_map _ hx483, ?_⟩
                                      conv => whnf
                                      refine Both.mk ?_ trivial
                                      conv => whnf
                                      refine CallG.pure _ (ref01IsC hN hx484) ?_
                                      conv => whnf
                                      refine Side.mk rfl ⟨_, idx_0 hx483, idx_map _ hx483, ?_⟩
                                      conv => whnf
                                      refine Need.mk (AV.le_refl _) ?_
                                      conv => whnf
                                      refine Need.mk (AV.le_refl _) ?_
                                      conv => whnf
                                      refine Need.mk (AV.le_refl _) ?_
                                      conv => whnf
                                      refine Need.mk (AV.le_refl _) ?_
                                      conv => whnf
                                      refine Ln.mk _ (List.length_map _) ?_
                                      conv => whnf
                                      refine Need.mk (AV.le_refl _) ?_
                                      conv => whnf
                                      refine Need.mk (AV.le_refl _) ?_
                                      conv => whnf
                                      refine Side.mk rfl ⟨_, idx_0 hx483, idx_map _ hx483, ?_⟩
                                      conv => whnf
                                      refine Need.mk (AV.le_refl _) ?_
                                      conv => whnf
                                      refine Need.mk (AV.le_refl _) ?_
                                      conv => whnf
                                      refine Need.mk (AV.le_refl _) ?_
                                      cases hx482
                                      conv => whnf
                                      refine ⟨(), trivial, Sub.eq rfl ?_ ?_⟩
                                      · repeat ((conv => whnf); refine Need.mk rfl ?_)
                                        exact trivial
                                      · conv => whnf
                                        refine Need.mk (OLe.refl _) ?_
                                        conv => whnf
                                        refine Need.mk (OLe.refl _) ?_
                                        conv => whnf
                                        refine Need.mk (OLe.refl _) ?_
                                        exact trivial
                                  · rintro _ _
                                    conv => whnf
                                    refine Br.mk (fun hc342 => ?_) (fun hc342 => ?_)
                                    · replace h := ite_t hc342 h
                                      obtain ⟨r170, hx486, h⟩ := obind h
                                      conv => whnf
                                      refine CallG.pure _ (kingpintopRatedC hN hx486) ?_
                                      conv => whnf
                                      cases h
                                      exact rfl
                                    · replace h := ite_f hc342 h
                                      obtain ⟨v82, hx490, h⟩ := obind h
                                      conv => whnf
                                      refine SeqG.mk Unit (fun y => [(1, .d (.list 1 (List.map (fun x => .list 1 (List.map I x)) a2))), (2, .d (.list 1 (List.map (fun x => .int .u8 x) v82))), (3, .d (.ref (.agg [I a1.fFrames, I a1.fPins, I a1.fBalls, I a1.fTap]))), (7, .ptr 7 b4 0), (8, .ptr 8 b5 0), (9, .ptr 9 b6 0), (10, .i .i64 2)]) (fun y => [(7, .cells b4 [.d (I c15.fLo), .d (I c19.fLo), .d (I 0)]), (8, .cells b5 [.d (I x88), .d (I x110), .d (I 0)]), (9, .cells b6 [.d (I c15.fHi), .d (I c19.fHi), .d (I 0)])]) (fun _ => True) ?_ ?_
                                      · conv => whnf
                                        refine Ln.mk _ (List.length_map _) ?_
                                        conv => whnf
                                        refine Br.mk (fun hc344 => ?_) (fun hc344 => ?_)
                                        · replace hx490 := ite_t hc344 hx490
                                          obtain ⟨x127, hx491, hx490⟩ := obind hx490
                                          obtain ⟨l69, hx492, hx490⟩ := obind hx490
                                          obtain ⟨l70, hx493, hx490⟩ := obind hx490
                                          conv => whnf
                                          refine DrawG.mk (.take 0 (.take 1 (.take 2 (.take 3 (.take 4 (.take 6 (.take 7 (.take 8 (.alt 5 [8, 7, 6, 3, 1] (.alt 9 [7, 6, 3, 1] (.alt 10 [7, 6, 3, 1] (.alt 11 [] .done .nil) .nil) .nil) (.alt 9 [7, 6, 4, 3, 2, 1, 0] (.alt 5 [7, 6, 3, 1] (.alt 10 [7, 6, 3, 1] (.alt 11 [] .done .nil) .nil) .nil) .nil)))))))))) (by kernel_rfl) ?_
                                          conv => whnf
                                          refine Ln.mk _ (List.length_map _) ?_
                                          conv => whnf
                                          refine Ln.mk _ (List.length_map _) ?_
                                          conv => whnf
                                          refine Side.mk rfl ⟨_, idx_0 hx491, idx_map _ hx491, ?_⟩
                                          conv => whnf
                                          refine Both.mk ?_ ?_
                                          · conv => whnf
                                            refine Need.mk (slc_need3 _ hx492) (Eqv.mk (List.map (fun x => .int .u8 x) l69) (slc_map _ hx492) ?_)
                                            conv => whnf
                                            refine Need.mk (AV.le_refl _) ?_
                                            conv => whnf
                                            refine Side.mk rfl ⟨_, idx_0 hx491, idx_map _ hx491, ?_⟩
                                            conv => whnf
                                            refine Need.mk (AV.le_refl _) ?_
                                            conv => whnf
                                            refine Need.mk (AV.le_refl _) ?_
                                            conv => whnf
                                            refine Need.mk (AV.le_refl _) ?_
                                            conv => whnf
                                            refine Need.mk (AV.le_refl _) ?_
                                            conv => whnf
                                            refine Both.mk ?_ trivial
                                            conv => whnf
                                            intro hd229
                                            conv => whnf
                                            refine Side.mk rfl ⟨_, idx_0 hx491, idx_map _ hx491, ?_⟩
                                            conv => whnf
                                            refine Need.mk (AV.le_refl _) ?_
                                            conv => whnf
                                            refine Need.mk (AV.le_refl _) ?_
                                            conv => whnf
                                            refine Need.mk (AV.le_refl _) ?_
                                            conv => whnf
                                            refine Need.mk (AV.le_refl _) ?_
                                            conv => whnf
                                            refine Both.mk ?_ trivial
                                            conv => whnf
                                            refine Side.mk ⟨rfl, rfl⟩ ?_
                                            conv => whnf
                                            refine Side.mk rfl (Need.mk (appB_need hx493 (by decide)) (Eqv.mk (List.map (fun x => .int .u8 x) l70) (appB_map _ hx493) ?_))
                                            conv => whnf
                                            refine Side.mk rfl ⟨_, idx_0 hx491, idx_map _ hx491, ?_⟩
                                            conv => whnf
                                            refine Need.mk (AV.le_refl _) ?_
                                            conv => whnf
                                            refine Need.mk (AV.le_refl _) ?_
                                            conv => whnf
                                            refine Need.mk (AV.le_refl _) ?_
                                            conv => whnf
                                            refine Need.mk (AV.le_refl _) ?_
                                            conv => whnf
                                            refine Both.mk ?_ trivial
                                            cases hx490
                                            conv => whnf
                                            refine ⟨(), trivial, Sub.eq rfl ?_ ?_⟩
                                            · repeat ((conv => whnf); refine Need.mk rfl ?_)
                                              exact trivial
                                            · conv => whnf
                                              refine Need.mk (OLe.refl _) ?_
                                              conv => whnf
                                              refine Need.mk (OLe.refl _) ?_
                                              conv => whnf
                                              refine Need.mk (OLe.refl _) ?_
                                              exact trivial
                                          · conv => whnf
                                            refine Both.mk ?_ trivial
                                            conv => whnf
                                            intro hd231
                                            conv => whnf
                                            refine Side.mk rfl ⟨_, idx_0 hx491, idx_map _ hx491, ?_⟩
                                            conv => whnf
                                            refine Need.mk (AV.le_refl _) ?_
                                            conv => whnf
                                            refine Need.mk (AV.le_refl _) ?_
                                            conv => whnf
                                            refine Ln.mk _ (List.length_map _) ?_
                                            conv => whnf
                                            refine Need.mk (AV.le_refl _) ?_
                                            conv => whnf
                                            refine Need.mk (AV.le_refl _) ?_
                                            conv => whnf
                                            refine Ln.mk _ (List.length_map _) ?_
                                            conv => whnf
                                            refine Need.mk (AV.le_refl _) ?_
                                            conv => whnf
                                            refine Need.mk (AV.le_refl _) ?_
                                            conv => whnf
                                            refine Need.mk (AV.le_refl _) ?_
                                            conv => whnf
                                            refine Both.mk ?_ trivial
                                            conv => whnf
                                            refine Need.mk (slc_need3 _ hx492) (Eqv.mk (List.map (fun x => .int .u8 x) l69) (slc_map _ hx492) ?_)
                                            conv => whnf
                                            refine Side.mk rfl ⟨_, idx_0 hx491, idx_map _ hx491, ?_⟩
                                            conv => whnf
                                            refine Need.mk (AV.le_refl _) ?_
                                            conv => whnf
                                            refine Need.mk (AV.le_refl _) ?_
                                            conv => whnf
                                            refine Need.mk (AV.le_refl _) ?_
                                            conv => whnf
                                            refine Need.mk (AV.le_refl _) ?_
                                            conv => whnf
                                            refine Both.mk ?_ trivial
                                            conv => whnf
                                            refine Side.mk ⟨rfl, rfl⟩ ?_
                                            conv => whnf
                                            refine Side.mk rfl (Need.mk (appB_need hx493 (by decide)) (Eqv.mk (List.map (fun x => .int .u8 x) l70) (appB_map _ hx493) ?_))
                                            conv => whnf
                                            refine Side.mk rfl ⟨_, idx_0 hx491, idx_map _ hx491, ?_⟩
                                            conv => whnf
                                            refine Need.mk (AV.le_refl _) ?_
                                            conv => whnf
                                            refine Need.mk (AV.le_refl _) ?_
                                            conv => whnf
                                            refine Need.mk (AV.le_refl _) ?_
                                            conv => whnf
                                            refine Need.mk (AV.le_refl _) ?_
                                            conv => whnf
                                            refine Both.mk ?_ trivial
                                            cases hx490
                                            conv => whnf
                                            refine ⟨(), trivial, Sub.eq rfl ?_ ?_⟩
                                            · repeat ((conv => whnf); refine Need.mk rfl ?_)
                                              exact trivial
                                            · conv => whnf
                                              refine Need.mk (OLe.refl _) ?_
                                              conv => whnf
                                              refine Need.mk (OLe.refl _) ?_
                                              conv => whnf
                                              refine Need.mk (OLe.refl _) ?_
                                              exact trivial
                                        · replace hx490 := ite_f hc344 hx490
                                          cases hx490
                                          conv => whnf
                                          refine ⟨(), trivial, Sub.eq rfl ?_ ?_⟩
                                          · repeat ((conv => whnf); refine Need.mk rfl ?_)
                                            exact trivial
                                          · conv => whnf
                                            refine Need.mk (OLe.refl _) ?_
                                            conv => whnf
                                            refine Need.mk (OLe.refl _) ?_
                                            conv => whnf
                                            refine Need.mk (OLe.refl _) ?_
                                            exact trivial
                                      · rintro _ _
                                        obtain ⟨⟨v83, c23⟩, hx498, h⟩ := obind h
                                        conv => whnf
                                        refine SeqG.mk Nat (fun y => [(1, .d (.list 1 (List.map (fun x => .list 1 (List.map I x)) a2))), (2, .d (.list 1 (List.map (fun x => .int .u8 x) v82))), (3, .d (.ref (.agg [I a1.fFrames, I a1.fPins, I a1.fBalls, I a1.fTap]))), (7, .ptr 7 b4 0), (8, .ptr 8 b5 0), (9, .ptr 9 b6 0), (10, .i .i64 2), (11, .ptr 11 y 0), (12, .d (I v83))]) (fun y => [(7, .cells b4 [.d (I c15.fLo), .d (I c19.fLo), .d (I 0)]), (8, .cells b5 [.d (I x88), .d (I x110), .d (I 0)]), (9, .cells b6 [.d (I c15.fHi), .d (I c19.fHi), .d (I 0)]), (11, .cells y [.d (I c23.fLo), .d (I c23.fHi)])]) (fun _ => True) ?_ ?_
                                        · obtain ⟨x129, hx499, hx498⟩ := obind hx498
                                          obtain ⟨r172, hx500, hx498⟩ := obind hx498
                                          obtain ⟨l72, hx501, hx498⟩ := obind hx498
                                          obtain ⟨⟨ra46, rb46⟩, hx502, hx498⟩ := obind hx498
                                          conv => whnf
                                          refine DrawG.mk (.take 0 (.take 2 (.take 3 (.take 4 (.take 5 (.alt 1 [5, 4, 3, 2] (.alt 6 [4, 3, 2] (.alt 7 [4, 3, 2] (.take 8 (.take 9 (.take 10 (.alt 11 [10, 9, 8, 4, 3, 2] (.alt 12 [10] (.take 13 .done) .nil) .nil)))) (.alt 11 [4, 3, 2] (.alt 7 [4, 3, 2] (.take 8 (.take 9 (.take 10 (.alt 12 [10] (.take 13 .done) .nil)))) .nil) .nil)) (.alt 11 [5, 4, 3, 2] (.alt 6 [4, 3, 2] (.alt 7 [4, 3, 2] (.take 8 (.take 9 (.take 10 (.alt 12 [10] (.take 13 .done) .nil)))) .nil) .nil) .nil)) (.alt 11 [5, 4, 3, 2, 0] (.alt 1 [5, 4, 3, 2] (.alt 6 [4, 3, 2] (.alt 7 [4, 3, 2] (.take 8 (.take 9 (.take 10 (.alt 12 [10] (.take 13 .done) .nil)))) .nil) .nil) .nil) .nil))))))) (by kernel_rfl) ?_
                                          conv => whnf
                                          refine Side.mk rfl ⟨_, idx_0 hx499, idx_map _ hx499, ?_⟩
                                          conv => whnf
                                          refine Both.mk ?_ ?_
                                          · conv => whnf
                                            refine CallG.pure _ (law01LawC hN hx500) ?_
                                            conv => whnf
                                            refine Need.mk (AV.le_refl _) ?_
                                            conv => whnf
                                            refine Side.mk rfl ⟨_, idx_0 hx499, idx_map _ hx499, ?_⟩
                                            conv => whnf
                                            refine Need.mk (AV.le_refl _) ?_
                                            conv => whnf
                                            refine Need.mk (AV.le_refl _) ?_
                                            conv => whnf
                                            refine Need.mk (AV.le_refl _) ?_
                                            conv => whnf
                                            refine Both.mk ?_ ?_
                                            · conv => whnf
                                              refine Side.mk rfl ?_
                                              conv => whnf
                                              refine Need.mk (app_need0 hN hx501 (by decide)) (Eqv.mk (List.map I l72) (app_map0 _ hx501) ?_)
                                              conv => whnf
                                              intro hd238
                                              conv => whnf
                                              refine Side.mk rfl ⟨_, idx_0 hx499, idx_map _ hx499, ?_⟩
                                              conv => whnf
                                              refine Need.mk (AV.le_refl _) ?_
                                              conv => whnf
                                              refine Need.mk (AV.le_refl _) ?_
                                              conv => whnf
                                              refine Need.mk (AV.le_refl _) ?_
                                              conv => whnf
                                              refine Both.mk ?_ ?_
                                              · conv => whnf
                                                refine Side.mk rfl ?_
                                                conv => whnf
                                                refine CallG.pure _ (frameSpanC hN hx502) ?_
                                                conv => whnf
                                                refine Side.mk rfl ⟨_, idx_0 hx499, idx_map _ hx499, ?_⟩
                                                conv => whnf
                                                refine Need.mk (AV.le_refl _) ?_
                                                conv => whnf
                                                refine Need.mk (AV.le_refl _) ?_
                                                conv => whnf
                                                refine Need.mk (AV.le_refl _) ?_
                                                conv => whnf
                                                refine Both.mk ?_ trivial
                                                conv => whnf
                                                intro b233
                                                conv => whnf
                                                refine Need.mk (AV.le_refl _) ?_
                                                conv => whnf
                                                refine Need.mk (AV.le_refl _) ?_
                                                conv => whnf
                                                refine Need.mk (AV.le_refl _) ?_
                                                conv => whnf
                                                refine Side.mk rfl ⟨_, idx_0 hx499, idx_map _ hx499, ?_⟩
                                                conv => whnf
                                                refine Need.mk (AV.le_refl _) ?_
                                                conv => whnf
                                                refine Need.mk (AV.le_refl _) ?_
                                                conv => whnf
                                                refine Need.mk (AV.le_refl _) ?_
                                                conv => whnf
                                                refine Both.mk ?_ trivial
                                                conv => whnf
                                                refine Side.mk rfl ?_
                                                conv => whnf
                                                refine Need.mk (AV.le_refl _) ?_
                                                cases hx498
                                                conv => whnf
                                                refine ⟨b233, trivial, Sub.eq rfl ?_ ?_⟩
                                                · repeat ((conv => whnf); refine Need.mk rfl ?_)
                                                  exact trivial
                                                · conv => whnf
                                                  refine Need.mk (OLe.refl _) ?_
                                                  conv => whnf
                                                  refine Need.mk (OLe.refl _) ?_
                                                  conv => whnf
                                                  refine Need.mk (OLe.refl _) ?_
                                                  conv => whnf
                                                  refine Need.mk (OLe.refl _) ?_
                                                  exact trivial
                                              · conv => whnf
                                                refine Both.mk ?_ trivial
                                                conv => whnf
                                                intro b234
                                                conv => whnf
                                                refine Side.mk rfl ⟨_, idx_0 hx499, idx_map _ hx499, ?_⟩
                                                conv => whnf
                                                refine Need.mk (AV.le_refl _) ?_
                                                conv => whnf
                                                refine Need.mk (AV.le_refl _) ?_
                                                conv => whnf
                                                refine Need.mk (AV.le_refl _) ?_
                                                conv => whnf
                                                refine Both.mk ?_ trivial
                                                conv => whnf
                                                refine Side.mk rfl ?_
                                                conv => whnf
                                                refine CallG.pure _ (frameSpanC hN hx502) ?_
                                                conv => whnf
                                                refine Side.mk rfl ⟨_, idx_0 hx499, idx_map _ hx499, ?_⟩
                                                conv => whnf
                                                refine Need.mk (AV.le_refl _) ?_
                                                conv => whnf
                                                refine Need.mk (AV.le_refl _) ?_
                                                conv => whnf
                                                refine Need.mk (AV.le_refl _) ?_
                                                conv => whnf
                                                refine Both.mk ?_ trivial
                                                conv => whnf
                                                refine Side.mk rfl ?_
                                                conv => whnf
                                                refine Need.mk (AV.le_refl _) ?_
                                                cases hx498
                                                conv => whnf
                                                refine ⟨b234, trivial, Sub.eq rfl ?_ ?_⟩
                                                · repeat ((conv => whnf); refine Need.mk rfl ?_)
                                                  exact trivial
                                                · conv => whnf
                                                  refine Need.mk (OLe.refl _) ?_
                                                  conv => whnf
                                                  refine Need.mk (OLe.refl _) ?_
                                                  conv => whnf
                                                  refine Need.mk (OLe.refl _) ?_
                                                  conv => whnf
                                                  refine Need.mk (OLe.refl _) ?_
                                                  exact trivial
                                            · conv => whnf
                                              refine Both.mk ?_ trivial
                                              conv => whnf
                                              intro b235
                                              conv => whnf
                                              refine Need.mk (AV.le_refl _) ?_
                                              conv => whnf
                                              refine Side.mk rfl ⟨_, idx_0 hx499, idx_map _ hx499, ?_⟩
                                              conv => whnf
                                              refine Need.mk (AV.le_refl _) ?_
                                              conv => whnf
                                              refine Need.mk (AV.le_refl _) ?_
                                              conv => whnf
                                              refine Need.mk (AV.le_refl _) ?_
                                              conv => whnf
                                              refine Both.mk ?_ trivial
                                              conv => whnf
                                              refine Side.mk rfl ?_
                                              conv => whnf
                                              refine Need.mk (app_need0 hN hx501 (by decide)) (Eqv.mk (List.map I l72) (app_map0 _ hx501) ?_)
                                              conv => whnf
                                              intro hd239
                                              conv => whnf
                                              refine Side.mk rfl ⟨_, idx_0 hx499, idx_map _ hx499, ?_⟩
                                              conv => whnf
                                              refine Need.mk (AV.le_refl _) ?_
                                              conv => whnf
                                              refine Need.mk (AV.le_refl _) ?_
                                              conv => whnf
                                              refine Need.mk (AV.le_refl _) ?_
                                              conv => whnf
                                              refine Both.mk ?_ trivial
                                              conv => whnf
                                              refine Side.mk rfl ?_
                                              conv => whnf
                                              refine CallG.pure _ (frameSpanC hN hx502) ?_
                                              conv => whnf
                                              refine Side.mk rfl ⟨_, idx_0 hx499, idx_map _ hx499, ?_⟩
                                              conv => whnf
                                              refine Need.mk (AV.le_refl _) ?_
                                              conv => whnf
                                              refine Need.mk (AV.le_refl _) ?_
                                              conv => whnf
                                              refine Need.mk (AV.le_refl _) ?_
                                              conv => whnf
                                              refine Both.mk ?_ trivial
                                              conv => whnf
                                              refine Side.mk rfl ?_
                                              conv => whnf
                                              refine Need.mk (AV.le_refl _) ?_
                                              cases hx498
                                              conv => whnf
                                              refine ⟨b235, trivial, Sub.eq rfl ?_ ?_⟩
                                              · repeat ((conv => whnf); refine Need.mk rfl ?_)
                                                exact trivial
                                              · conv => whnf
                                                refine Need.mk (OLe.refl _) ?_
                                                conv => whnf
                                                refine Need.mk (OLe.refl _) ?_
                                                conv => whnf
                                                refine Need.mk (OLe.refl _) ?_
                                                conv => whnf
                                                refine Need.mk (OLe.refl _) ?_
                                                exact trivial
                                          · conv => whnf
                                            refine Both.mk ?_ trivial
                                            conv => whnf
                                            intro b236
                                            conv => whnf
                                            refine Need.mk (AV.le_refl _) ?_
                                            conv => whnf
                                            refine Side.mk rfl ⟨_, idx_0 hx499, idx_map _ hx499, ?_⟩
                                            conv => whnf
                                            refine Need.mk (AV.le_refl _) ?_
                                            conv => whnf
                                            refine Need.mk (AV.le_refl _) ?_
                                            conv => whnf
                                            refine Need.mk (AV.le_refl _) ?_
                                            conv => whnf
                                            refine Need.mk (AV.le_refl _) ?_
                                            conv => whnf
                                            refine Both.mk ?_ trivial
                                            conv => whnf
                                            refine CallG.pure _ (law01LawC hN hx500) ?_
                                            conv => whnf
                                            refine Need.mk (AV.le_refl _) ?_
                                            conv => whnf
                                            refine Side.mk rfl ⟨_, idx_0 hx499, idx_map _ hx499, ?_⟩
                                            conv => whnf
                                            refine Need.mk (AV.le_refl _) ?_
                                            conv => whnf
                                            refine Need.mk (AV.le_refl _) ?_
                                            conv => whnf
                                            refine Need.mk (AV.le_refl _) ?_
                                            conv => whnf
                                            refine Both.mk ?_ trivial
                                            conv => whnf
                                            refine Side.mk rfl ?_
                                            conv => whnf
                                            refine Need.mk (app_need0 hN hx501 (by decide)) (Eqv.mk (List.map I l72) (app_map0 _ hx501) ?_)
                                            conv => whnf
                                            intro hd240
                                            conv => whnf
                                            refine Side.mk rfl ⟨_, idx_0 hx499, idx_map _ hx499, ?_⟩
                                            conv => whnf
                                            refine Need.mk (AV.le_refl _) ?_
                                            conv => whnf
                                            refine Need.mk (AV.le_refl _) ?_
                                            conv => whnf
                                            refine Need.mk (AV.le_refl _) ?_
                                            conv => whnf
                                            refine Both.mk ?_ trivial
                                            conv => whnf
                                            refine Side.mk rfl ?_
                                            conv => whnf
                                            refine CallG.pure _ (frameSpanC hN hx502) ?_
                                            conv => whnf
                                            refine Side.mk rfl ⟨_, idx_0 hx499, idx_map _ hx499, ?_⟩
                                            conv => whnf
                                            refine Need.mk (AV.le_refl _) ?_
                                            conv => whnf
                                            refine Need.mk (AV.le_refl _) ?_
                                            conv => whnf
                                            refine Need.mk (AV.le_refl _) ?_
                                            conv => whnf
                                            refine Both.mk ?_ trivial
                                            conv => whnf
                                            refine Side.mk rfl ?_
                                            conv => whnf
                                            refine Need.mk (AV.le_refl _) ?_
                                            cases hx498
                                            conv => whnf
                                            refine ⟨b236, trivial, Sub.eq rfl ?_ ?_⟩
                                            · repeat ((conv => whnf); refine Need.mk rfl ?_)
                                              exact trivial
                                            · conv => whnf
                                              refine Need.mk (OLe.refl _) ?_
                                              conv => whnf
                                              refine Need.mk (OLe.refl _) ?_
                                              conv => whnf
                                              refine Need.mk (OLe.refl _) ?_
                                              conv => whnf
                                              refine Need.mk (OLe.refl _) ?_
                                              exact trivial
                                        · rintro bb23 _
                                          obtain ⟨⟨v84, c24⟩, hx507, h⟩ := obind h
                                          conv => whnf
                                          refine SeqG.mk Nat (fun y => [(1, .d (.list 1 (List.map (fun x => .list 1 (List.map I x)) a2))), (2, .d (.list 1 (List.map (fun x => .int .u8 x) v82))), (3, .d (.ref (.agg [I a1.fFrames, I a1.fPins, I a1.fBalls, I a1.fTap]))), (7, .ptr 7 b4 0), (8, .ptr 8 b5 0), (9, .ptr 9 b6 0), (10, .i .i64 2), (11, .ptr 11 bb23 0), (12, .d (I v83)), (13, .ptr 13 y 0), (14, .d (I v84))]) (fun y => [(7, .cells b4 [.d (I c15.fLo), .d (I c19.fLo), .d (I 0)]), (8, .cells b5 [.d (I x88), .d (I x110), .d (I 0)]), (9, .cells b6 [.d (I c15.fHi), .d (I c19.fHi), .d (I 0)]), (11, .cells bb23 [.d (I c23.fLo), .d (I c23.fHi)]), (13, .cells y [.d (.list 1 (List.map (fun x => .list 1 (List.map I x)) c24.fFrames)), .d (.list 1 (List.map I c24.fCounts)), .d (I c24.fStanding), .d (.bool c24.fDone)])]) (fun _ => True) ?_ ?_
                                          · obtain ⟨x131, hx508, hx507⟩ := obind hx507
                                            obtain ⟨r175, hx509, hx507⟩ := obind hx507
                                            obtain ⟨r176, hx510, hx507⟩ := obind hx507
                                            obtain ⟨⟨ra48, rb48⟩, hx511, hx507⟩ := obind hx507
                                            conv => whnf
                                            refine DrawG.mk (.take 0 (.take 2 (.take 3 (.take 4 (.take 5 (.take 6 (.take 7 (.alt 1 [7, 6, 5, 4, 3, 2] (.alt 8 [5, 4, 3] (.alt 9 [5, 4, 3] (.take 10 (.take 11 (.take 12 (.alt 13 [12, 11, 10, 5, 4, 3] (.alt 14 [12] (.take 15 .done) .nil) .nil)))) (.alt 13 [5, 4, 3] (.alt 9 [5, 4, 3] (.take 10 (.take 11 (.take 12 (.alt 14 [12] (.take 15 .done) .nil)))) .nil) .nil)) (.alt 13 [7, 6, 5, 4, 3, 2] (.alt 8 [5, 4, 3] (.alt 9 [5, 4, 3] (.take 10 (.take 11 (.take 12 (.alt 14 [12] (.take 15 .done) .nil)))) .nil) .nil) .nil)) (.alt 13 [7, 6, 5, 4, 3, 2, 0] (.alt 1 [7, 6, 5, 4, 3, 2] (.alt 8 [5, 4, 3] (.alt 9 [5, 4, 3] (.take 10 (.take 11 (.take 12 (.alt 14 [12] (.take 15 .done) .nil)))) .nil) .nil) .nil) .nil))))))))) (by kernel_rfl) ?_
                                            conv => whnf
                                            refine Side.mk rfl ⟨_, idx_0 hx508, idx_map _ hx508, ?_⟩
                                            conv => whnf
                                            refine Both.mk ?_ ?_
                                            · conv => whnf
                                              refine CallG.pure _ (law01LawC hN hx509) ?_
                                              conv => whnf
                                              refine Need.mk (AV.le_refl _) ?_
                                              conv => whnf
                                              refine Need.mk (AV.le_refl _) ?_
                                              conv => whnf
                                              refine Side.mk rfl ⟨_, idx_0 hx508, idx_map _ hx508, ?_⟩
                                              conv => whnf
                                              refine Need.mk (AV.le_refl _) ?_
                                              conv => whnf
                                              refine Need.mk (AV.le_refl _) ?_
                                              conv => whnf
                                              refine Need.mk (AV.le_refl _) ?_
                                              conv => whnf
                                              refine Need.mk (AV.le_refl _) ?_
                                              conv => whnf
                                              refine Both.mk ?_ ?_
                                              · conv => whnf
                                                refine CallG.pure _ (law01EndedC hN hx510) ?_
                                                conv => whnf
                                                refine Side.mk rfl ⟨_, idx_0 hx508, idx_map _ hx508, ?_⟩
                                                conv => whnf
                                                refine Need.mk (AV.le_refl _) ?_
                                                conv => whnf
                                                refine Need.mk (AV.le_refl _) ?_
                                                conv => whnf
                                                refine Need.mk (AV.le_refl _) ?_
                                                conv => whnf
                                                refine Both.mk ?_ ?_
                                                · conv => whnf
                                                  refine CallG.pure _ (frameReadC hN hx511) ?_
                                                  conv => whnf
                                                  refine Side.mk rfl ⟨_, idx_0 hx508, idx_map _ hx508, ?_⟩
                                                  conv => whnf
                                                  refine Need.mk (AV.le_refl _) ?_
                                                  conv => whnf
                                                  refine Need.mk (AV.le_refl _) ?_
                                                  conv => whnf
                                                  refine Need.mk (AV.le_refl _) ?_
                                                  conv => whnf
                                                  refine Both.mk ?_ trivial
                                                  conv => whnf
                                                  intro b243
                                                  conv => whnf
                                                  refine Need.mk (AV.le_refl _) ?_
                                                  conv => whnf
                                                  refine Need.mk (AV.le_refl _) ?_
                                                  conv => whnf
                                                  refine Need.mk (AV.le_refl _) ?_
                                                  conv => whnf
                                                  refine Side.mk rfl ⟨_, idx_0 hx508, idx_map _ hx508, ?_⟩
                                                  conv => whnf
                                                  refine Need.mk (AV.le_refl _) ?_
                                                  conv => whnf
                                                  refine Need.mk (AV.le_refl _) ?_
                                                  conv => whnf
                                                  refine Need.mk (AV.le_refl _) ?_
                                                  conv => whnf
                                                  refine Both.mk ?_ trivial
                                                  conv => whnf
                                                  refine Side.mk rfl ?_
                                                  conv => whnf
                                                  refine Need.mk (AV.le_refl _) ?_
                                                  cases hx507
                                                  conv => whnf
                                                  refine ⟨b243, trivial, Sub.eq rfl ?_ ?_⟩
                                                  · repeat ((conv => whnf); refine Need.mk rfl ?_)
                                                    exact trivial
                                                  · conv => whnf
                                                    refine Need.mk (OLe.refl _) ?_
                                                    conv => whnf
                                                    refine Need.mk (OLe.refl _) ?_
                                                    conv => whnf
                                                    refine Need.mk (OLe.refl _) ?_
                                                    conv => whnf
                                                    refine Need.mk (OLe.refl _) ?_
                                                    conv => whnf
                                                    refine Need.mk (OLe.refl _) ?_
                                                    exact trivial
                                                · conv => whnf
                                                  refine Both.mk ?_ trivial
                                                  conv => whnf
                                                  intro b244
                                                  conv => whnf
                                                  refine Side.mk rfl ⟨_, idx_0 hx508, idx_map _ hx508, ?_⟩
                                                  conv => whnf
                                                  refine Need.mk (AV.le_refl _) ?_
                                                  conv => whnf
                                                  refine Need.mk (AV.le_refl _) ?_
                                                  conv => whnf
                                                  refine Need.mk (AV.le_refl _) ?_
                                                  conv => whnf
                                                  refine Both.mk ?_ trivial
                                                  conv => whnf
                                                  refine CallG.pure _ (frameReadC hN hx511) ?_
                                                  conv => whnf
                                                  refine Side.mk rfl ⟨_, idx_0 hx508, idx_map _ hx508, ?_⟩
                                                  conv => whnf
                                                  refine Need.mk (AV.le_refl _) ?_
                                                  conv => whnf
                                                  refine Need.mk (AV.le_refl _) ?_
                                                  conv => whnf
                                                  refine Need.mk (AV.le_refl _) ?_
                                                  conv => whnf
                                                  refine Both.mk ?_ trivial
                                                  conv => whnf
                                                  refine Side.mk rfl ?_
                                                  conv => whnf
                                                  refine Need.mk (AV.le_refl _) ?_
                                                  cases hx507
                                                  conv => whnf
                                                  refine ⟨b244, trivial, Sub.eq rfl ?_ ?_⟩
                                                  · repeat ((conv => whnf); refine Need.mk rfl ?_)
                                                    exact trivial
                                                  · conv => whnf
                                                    refine Need.mk (OLe.refl _) ?_
                                                    conv => whnf
                                                    refine Need.mk (OLe.refl _) ?_
                                                    conv => whnf
                                                    refine Need.mk (OLe.refl _) ?_
                                                    conv => whnf
                                                    refine Need.mk (OLe.refl _) ?_
                                                    conv => whnf
                                                    refine Need.mk (OLe.refl _) ?_
                                                    exact trivial
                                              · conv => whnf
                                                refine Both.mk ?_ trivial
                                                conv => whnf
                                                intro b245
                                                conv => whnf
                                                refine Need.mk (AV.le_refl _) ?_
                                                conv => whnf
                                                refine Need.mk (AV.le_refl _) ?_
                                                conv => whnf
                                                refine Side.mk rfl ⟨_, idx_0 hx508, idx_map _ hx508, ?_⟩
                                                conv => whnf
                                                refine Need.mk (AV.le_refl _) ?_
                                                conv => whnf
                                                refine Need.mk (AV.le_refl _) ?_
                                                conv => whnf
                                                refine Need.mk (AV.le_refl _) ?_
                                                conv => whnf
                                                refine Need.mk (AV.le_refl _) ?_
                                                conv => whnf
                                                refine Both.mk ?_ trivial
                                                conv => whnf
                                                refine CallG.pure _ (law01EndedC hN hx510) ?_
                                                conv => whnf
                                                refine Side.mk rfl ⟨_, idx_0 hx508, idx_map _ hx508, ?_⟩
                                                conv => whnf
                                                refine Need.mk (AV.le_refl _) ?_
                                                conv => whnf
                                                refine Need.mk (AV.le_refl _) ?_
                                                conv => whnf
                                                refine Need.mk (AV.le_refl _) ?_
                                                conv => whnf
                                                refine Both.mk ?_ trivial
                                                conv => whnf
                                                refine CallG.pure _ (frameReadC hN hx511) ?_
                                                conv => whnf
                                                refine Side.mk rfl ⟨_, idx_0 hx508, idx_map _ hx508, ?_⟩
                                                conv => whnf
                                                refine Need.mk (AV.le_refl _) ?_
                                                conv => whnf
                                                refine Need.mk (AV.le_refl _) ?_
                                                conv => whnf
                                                refine Need.mk (AV.le_refl _) ?_
                                                conv => whnf
                                                refine Both.mk ?_ trivial
                                                conv => whnf
                                                refine Side.mk rfl ?_
                                                conv => whnf
                                                refine Need.mk (AV.le_refl _) ?_
                                                cases hx507
                                                conv => whnf
                                                refine ⟨b245, trivial, Sub.eq rfl ?_ ?_⟩
                                                · repeat ((conv => whnf); refine Need.mk rfl ?_)
                                                  exact trivial
                                                · conv => whnf
                                                  refine Need.mk (OLe.refl _) ?_
                                                  conv => whnf
                                                  refine Need.mk (OLe.refl _) ?_
                                                  conv => whnf
                                                  refine Need.mk (OLe.refl _) ?_
                                                  conv => whnf
                                                  refine Need.mk (OLe.refl _) ?_
                                                  conv => whnf
                                                  refine Need.mk (OLe.refl _) ?_
                                                  exact trivial
                                            · conv => whnf
                                              refine Both.mk ?_ trivial
                                              conv => whnf
                                              intro b246
                                              conv => whnf
                                              refine Need.mk (AV.le_refl _) ?_
                                              conv => whnf
                                              refine Need.mk (AV.le_refl _) ?_
                                              conv => whnf
                                              refine Side.mk rfl ⟨_, idx_0 hx508, idx_map _ hx508, ?_⟩
                                              conv => whnf
                                              refine Need.mk (AV.le_refl _) ?_
                                              conv => whnf
                                              refine Need.mk (AV.le_refl _) ?_
                                              conv => whnf
                                              refine Need.mk (AV.le_refl _) ?_
                                              conv => whnf
                                              refine Need.mk (AV.le_refl _) ?_
                                              conv => whnf
                                              refine Need.mk (AV.le_refl _) ?_
                                              conv => whnf
                                              refine Both.mk ?_ trivial
                                              conv => whnf
                                              refine CallG.pure _ (law01LawC hN hx509) ?_
                                              conv => whnf
                                              refine Need.mk (AV.le_refl _) ?_
                                              conv => whnf
                                              refine Need.mk (AV.le_refl _) ?_
                                              conv => whnf
                                              refine Side.mk rfl ⟨_, idx_0 hx508, idx_map _ hx508, ?_⟩
                                              conv => whnf
                                              refine Need.mk (AV.le_refl _) ?_
                                              conv => whnf
                                              refine Need.mk (AV.le_refl _) ?_
                                              conv => whnf
                                              refine Need.mk (AV.le_refl _) ?_
                                              conv => whnf
                                              refine Need.mk (AV.le_refl _) ?_
                                              conv => whnf
                                              refine Both.mk ?_ trivial
                                              conv => whnf
                                              refine CallG.pure _ (law01EndedC hN hx510) ?_
                                              conv => whnf
                                              refine Side.mk rfl ⟨_, idx_0 hx508, idx_map _ hx508, ?_⟩
                                              conv => whnf
                                              refine Need.mk (AV.le_refl _) ?_
                                              conv => whnf
                                              refine Need.mk (AV.le_refl _) ?_
                                              conv => whnf
                                              refine Need.mk (AV.le_refl _) ?_
                                              conv => whnf
                                              refine Both.mk ?_ trivial
                                              conv => whnf
                                              refine CallG.pure _ (frameReadC hN hx511) ?_
                                              conv => whnf
                                              refine Side.mk rfl ⟨_, idx_0 hx508, idx_map _ hx508, ?_⟩
                                              conv => whnf
                                              refine Need.mk (AV.le_refl _) ?_
                                              conv => whnf
                                              refine Need.mk (AV.le_refl _) ?_
                                              conv => whnf
                                              refine Need.mk (AV.le_refl _) ?_
                                              conv => whnf
                                              refine Both.mk ?_ trivial
                                              conv => whnf
                                              refine Side.mk rfl ?_
                                              conv => whnf
                                              refine Need.mk (AV.le_refl _) ?_
                                              cases hx507
                                              conv => whnf
                                              refine ⟨b246, trivial, Sub.eq rfl ?_ ?_⟩
                                              · repeat ((conv => whnf); refine Need.mk rfl ?_)
                                                exact trivial
                                              · conv => whnf
                                                refine Need.mk (OLe.refl _) ?_
                                                conv => whnf
                                                refine Need.mk (OLe.refl _) ?_
                                                conv => whnf
                                                refine Need.mk (OLe.refl _) ?_
                                                conv => whnf
                                                refine Need.mk (OLe.refl _) ?_
                                                conv => whnf
                                                refine Need.mk (OLe.refl _) ?_
                                                exact trivial
                                          · rintro bb24 _
                                            obtain ⟨v86, hx513, h⟩ := obind h
                                            conv => whnf
                                            refine SeqG.mk Unit (fun y => [(1, .d (.list 1 (List.map (fun x => .list 1 (List.map I x)) a2))), (2, .d (.list 1 (List.map (fun x => .int .u8 x) v82))), (3, .d (.ref (.agg [I a1.fFrames, I a1.fPins, I a1.fBalls, I a1.fTap]))), (7, .ptr 7 b4 0), (8, .ptr 8 b5 0), (9, .ptr 9 b6 0), (10, .i .i64 2), (11, .ptr 11 bb23 0), (13, .ptr 13 bb24 0), (122, .d (.bool v86))]) (fun y => [(7, .cells b4 [.d (I c15.fLo), .d (I c19.fLo), .d (I 0)]), (8, .cells b5 [.d (I x88), .d (I x110), .d (I 0)]), (9, .cells b6 [.d (I c15.fHi), .d (I c19.fHi), .d (I 0)]), (11, .cells bb23 [.d (I c23.fLo), .d (I c23.fHi)]), (13, .cells bb24 [.d (.list 1 (List.map (fun x => .list 1 (List.map I x)) c24.fFrames)), .d (.list 1 (List.map I c24.fCounts)), .d (I c24.fStanding), .d (.bool c24.fDone)])]) (fun _ => True) ?_ ?_
                                            · conv => whnf
                                              refine Br.mk (fun hc361 => ?_) (fun hc361 => ?_)
                                              · replace hx513 := ite_f hc361 hx513
                                                conv => whnf
                                                refine Br.mk (fun hc362 => ?_) (fun hc362 => ?_)
                                                · replace hx513 := ite_f hc362 hx513
                                                  conv => whnf
                                                  refine Side.mk rfl ?_
                                                  conv => whnf
                                                  refine Br.mk (fun hc363 => ?_) (fun hc363 => ?_)
                                                  · replace hx513 := ite_f hc363 hx513
                                                    conv => whnf
                                                    refine Side.mk rfl ?_
                                                    conv => whnf
                                                    refine Ln.mk _ (List.length_map _) ?_
                                                    conv => whnf
                                                    refine Br.mk (fun hc364 => ?_) (fun hc364 => ?_)
                                                    · replace hx513 := ite_f hc364 hx513
                                                      conv => whnf
                                                      refine Side.mk rfl ?_
                                                      conv => whnf
                                                      refine Br.mk (fun hc365 => ?_) (fun hc365 => ?_)
                                                      · replace hx513 := ite_f hc365 hx513
                                                        conv => whnf
                                                        refine Side.mk rfl ?_
                                                        cases hx513
                                                        conv => whnf
                                                        refine ⟨(), trivial, Sub.eq rfl ?_ ?_⟩
                                                        · repeat ((conv => whnf); refine Need.mk rfl ?_)
                                                          exact trivial
                                                        · conv => whnf
                                                          refine Need.mk (OLe.refl _) ?_
                                                          conv => whnf
                                                          refine Need.mk (OLe.refl _) ?_
                                                          conv => whnf
                                                          refine Need.mk (OLe.refl _) ?_
                                                          conv => whnf
                                                          refine Need.mk (OLe.refl _) ?_
                                                          conv => whnf
                                                          refine Need.mk (OLe.refl _) ?_
                                                          exact trivial
                                                      · replace hx513 := ite_t hc365 hx513
                                                        cases hx513
                                                        conv => whnf
                                                        refine ⟨(), trivial, Sub.eq rfl ?_ ?_⟩
                                                        · repeat ((conv => whnf); refine Need.mk rfl ?_)
                                                          exact trivial
                                                        · conv => whnf
                                                          refine Need.mk (OLe.refl _) ?_
                                                          conv => whnf
                                                          refine Need.mk (OLe.refl _) ?_
                                                          conv => whnf
                                                          refine Need.mk (OLe.refl _) ?_
                                                          conv => whnf
                                                          refine Need.mk (OLe.refl _) ?_
                                                          conv => whnf
                                                          refine Need.mk (OLe.refl _) ?_
                                                          exact trivial
                                                    · replace hx513 := ite_t hc364 hx513
                                                      cases hx513
                                                      conv => whnf
                                                      refine ⟨(), trivial, Sub.eq rfl ?_ ?_⟩
                                                      · repeat ((conv => whnf); refine Need.mk rfl ?_)
                                                        exact trivial
                                                      · conv => whnf
                                                        refine Need.mk (OLe.refl _) ?_
                                                        conv => whnf
                                                        refine Need.mk (OLe.refl _) ?_
                                                        conv => whnf
                                                        refine Need.mk (OLe.refl _) ?_
                                                        conv => whnf
                                                        refine Need.mk (OLe.refl _) ?_
                                                        conv => whnf
                                                        refine Need.mk (OLe.refl _) ?_
                                                        exact trivial
                                                  · replace hx513 := ite_t hc363 hx513
                                                    cases hx513
                                                    conv => whnf
                                                    refine ⟨(), trivial, Sub.eq rfl ?_ ?_⟩
                                                    · repeat ((conv => whnf); refine Need.mk rfl ?_)
                                                      exact trivial
                                                    · conv => whnf
                                                      refine Need.mk (OLe.refl _) ?_
                                                      conv => whnf
                                                      refine Need.mk (OLe.refl _) ?_
                                                      conv => whnf
                                                      refine Need.mk (OLe.refl _) ?_
                                                      conv => whnf
                                                      refine Need.mk (OLe.refl _) ?_
                                                      conv => whnf
                                                      refine Need.mk (OLe.refl _) ?_
                                                      exact trivial
                                                · replace hx513 := ite_t hc362 hx513
                                                  cases hx513
                                                  conv => whnf
                                                  refine ⟨(), trivial, Sub.eq rfl ?_ ?_⟩
                                                  · repeat ((conv => whnf); refine Need.mk rfl ?_)
                                                    exact trivial
                                                  · conv => whnf
                                                    refine Need.mk (OLe.refl _) ?_
                                                    conv => whnf
                                                    refine Need.mk (OLe.refl _) ?_
                                                    conv => whnf
                                                    refine Need.mk (OLe.refl _) ?_
                                                    conv => whnf
                                                    refine Need.mk (OLe.refl _) ?_
                                                    conv => whnf
                                                    refine Need.mk (OLe.refl _) ?_
                                                    exact trivial
                                              · replace hx513 := ite_t hc361 hx513
                                                cases hx513
                                                conv => whnf
                                                refine ⟨(), trivial, Sub.eq rfl ?_ ?_⟩
                                                · repeat ((conv => whnf); refine Need.mk rfl ?_)
                                                  exact trivial
                                                · conv => whnf
                                                  refine Need.mk (OLe.refl _) ?_
                                                  conv => whnf
                                                  refine Need.mk (OLe.refl _) ?_
                                                  conv => whnf
                                                  refine Need.mk (OLe.refl _) ?_
                                                  conv => whnf
                                                  refine Need.mk (OLe.refl _) ?_
                                                  conv => whnf
                                                  refine Need.mk (OLe.refl _) ?_
                                                  exact trivial
                                            · rintro _ _
                                              conv => whnf
                                              refine Br.mk (fun hc366 => ?_) (fun hc366 => ?_)
                                              · replace h := ite_t hc366 h
                                                conv => whnf
                                                cases h
                                                exact rfl
                                              · replace h := ite_f hc366 h
                                                obtain ⟨x132, hx514, h⟩ := obind h
                                                conv => whnf
                                                refine DrawG.mk (.take 0 (.take 1 (.take 2 (.take 3 (.take 4 (.take 5 (.take 6 (.take 7 (.take 8 (.take 9 (.take 10 (.take 11 (.take 12 (.take 13 (.take 14 (.alt 15 [13, 12, 11, 10, 9, 8, 7, 6, 5, 2, 1] (.take 16 (.alt 17 [13, 12, 2] (.take 18 (.alt 19 [] .done .nil)) .nil)) .nil)))))))))))))))) (by kernel_rfl) ?_
                                                conv => whnf
                                                refine Side.mk rfl ?_
                                                conv => whnf
                                                refine Side.mk rfl ?_
                                                conv => whnf
                                                refine Side.mk rfl ⟨_, idx_0 hx514, idx_map _ hx514, ?_⟩
                                                conv => whnf
                                                refine Side.mk rfl ?_
                                                conv => whnf
                                                refine Need.mk (by decide) ?_
                                                conv => whnf
                                                refine Both.mk ?_ trivial
                                                conv => whnf
                                                refine Side.mk rfl ?_
                                                conv => whnf
                                                refine Side.mk rfl ?_
                                                conv => whnf
                                                refine Need.mk (AV.le_refl _) ?_
                                                conv => whnf
                                                refine Need.mk (AV.le_refl _) ?_
                                                conv => whnf
                                                refine Need.mk (AV.le_refl _) ?_
                                                conv => whnf
                                                refine Side.mk rfl ⟨_, idx_0 hx514, idx_map _ hx514, ?_⟩
                                                conv => whnf
                                                refine Need.mk (AV.le_refl _) ?_
                                                conv => whnf
                                                refine Need.mk (AV.le_refl _) ?_
                                                conv => whnf
                                                refine Need.mk (AV.le_refl _) ?_
                                                conv => whnf
                                                refine Need.mk (AV.le_refl _) ?_
                                                conv => whnf
                                                refine Side.mk rfl ?_
                                                conv => whnf
                                                refine Need.mk (AV.le_refl _) ?_
                                                conv => whnf
                                                refine Need.mk (AV.le_refl _) ?_
                                                conv => whnf
                                                refine Need.mk (AV.le_refl _) ?_
                                                conv => whnf
                                                refine Need.mk (AV.le_refl _) ?_
                                                conv => whnf
                                                refine Need.mk (by decide) ?_
                                                conv => whnf
                                                refine Both.mk ?_ trivial
                                                conv => whnf
                                                refine Side.mk rfl ?_
                                                conv => whnf
                                                refine Side.mk rfl ?_
                                                conv => whnf
                                                refine Need.mk (AV.le_refl _) ?_
                                                conv => whnf
                                                refine Need.mk (AV.le_refl _) ?_
                                                conv => whnf
                                                refine Need.mk (AV.le_refl _) ?_
                                                conv => whnf
                                                refine Need.mk (by decide) ?_
                                                conv => whnf
                                                refine Both.mk ?_ trivial
                                                conv => whnf
                                                refine Side.mk rfl ?_
                                                conv => whnf
                                                refine Side.mk rfl ?_
                                                obtain ⟨r178, hx517, h⟩ := obind h
                                                conv => whnf
                                                refine CallG.pure _ (kingpintopHouseC hN hx517) ?_
                                                obtain ⟨⟨ra50, rb50⟩, hx518, h⟩ := obind h
                                                conv => whnf
                                                refine CallG.pure _ (rateAverageC hN hx518) ?_
                                                conv => whnf
                                                refine Side.mk rfl ?_
                                                obtain ⟨r180, hx521, h⟩ := obind h
                                                conv => whnf
                                                refine CallG.pure _ (kingpintopHouseC hN hx521) ?_
                                                obtain ⟨⟨ra52, rb52⟩, hx522, h⟩ := obind h
                                                conv => whnf
                                                refine CallG.pure _ (rateAverageC hN hx522) ?_
                                                conv => whnf
                                                refine Side.mk rfl ?_
                                                obtain ⟨r182, hx525, h⟩ := obind h
                                                conv => whnf
                                                refine CallG.pure _ (kingpintopHouseC hN hx525) ?_
                                                obtain ⟨⟨ra54, rb54⟩, hx526, h⟩ := obind h
                                                conv => whnf
                                                refine CallG.pure _ (rateAverageC hN hx526) ?_
                                                conv => whnf
                                                refine Side.mk rfl ?_
                                                obtain ⟨r184, hx529, h⟩ := obind h
                                                conv => whnf
                                                refine CallG.pure _ (kingpintopHouseC hN hx529) ?_
                                                obtain ⟨⟨ra56, rb56⟩, hx530, h⟩ := obind h
                                                conv => whnf
                                                refine CallG.pure _ (rateHandicapC hN hx530) ?_
                                                conv => whnf
                                                refine Side.mk rfl ?_
                                                obtain ⟨r186, hx533, h⟩ := obind h
                                                conv => whnf
                                                refine CallG.pure _ (kingpintopHouseC hN hx533) ?_
                                                obtain ⟨⟨ra58, rb58⟩, hx534, h⟩ := obind h
                                                conv => whnf
                                                refine CallG.pure _ (rateHandicapC hN hx534) ?_
                                                conv => whnf
                                                refine Side.mk rfl ?_
                                                obtain ⟨r188, hx537, h⟩ := obind h
                                                conv => whnf
                                                refine CallG.pure _ (kingpintopHouseC hN hx537) ?_
                                                obtain ⟨⟨ra60, rb60⟩, hx538, h⟩ := obind h
                                                conv => whnf
                                                refine CallG.pure _ (rateHandicapC hN hx538) ?_
                                                obtain ⟨v87, hx540, h⟩ := obind h
                                                conv => whnf
                                                refine SeqG.mk Unit (fun y => [(6, .d (.bool v87))]) (fun y => []) (fun _ => True) ?_ ?_
                                                · conv => whnf
                                                  refine Br.mk (fun hc377 => ?_) (fun hc377 => ?_)
                                                  · replace hx540 := ite_t hc377 hx540
                                                    conv => whnf
                                                    refine Br.mk (fun hc378 => ?_) (fun hc378 => ?_)
                                                    · replace hx540 := ite_t hc378 hx540
                                                      conv => whnf
                                                      refine Br.mk (fun hc379 => ?_) (fun hc379 => ?_)
                                                      · replace hx540 := ite_t hc379 hx540
                                                        conv => whnf
                                                        refine Br.mk (fun hc380 => ?_) (fun hc380 => ?_)
                                                        · replace hx540 := ite_t hc380 hx540
                                                          conv => whnf
                                                          refine Br.mk (fun hc381 => ?_) (fun hc381 => ?_)
                                                          · replace hx540 := ite_t hc381 hx540
                                                            conv => whnf
                                                            refine Br.mk (fun hc382 => ?_) (fun hc382 => ?_)
                                                            · replace hx540 := ite_t hc382 hx540
                                                              conv => whnf
                                                              refine Br.mk (fun hc383 => ?_) (fun hc383 => ?_)
                                                              · replace hx540 := ite_t hc383 hx540
                                                                conv => whnf
                                                                refine Br.mk (fun hc384 => ?_) (fun hc384 => ?_)
                                                                · replace hx540 := ite_t hc384 hx540
                                                                  conv => whnf
                                                                  refine Br.mk (fun hc385 => ?_) (fun hc385 => ?_)
                                                                  · replace hx540 := ite_t hc385 hx540
                                                                    conv => whnf
                                                                    refine Br.mk (fun hc386 => ?_) (fun hc386 => ?_)
                                                                    · replace hx540 := ite_t hc386 hx540
                                                                      obtain ⟨r190, hx541, hx540⟩ := obind hx540
                                                                      conv => whnf
                                                                      refine CallG.pure _ (kingpintopRatedC hN hx541) ?_
                                                                      cases hx540
                                                                      conv => whnf
                                                                      refine ⟨(), trivial, Sub.eq rfl ?_ ?_⟩
                                                                      · repeat ((conv => whnf); refine Need.mk rfl ?_)
                                                                        exact trivial
                                                                      · exact trivial
                                                                    · replace hx540 := ite_f hc386 hx540
                                                                      cases hx540
                                                                      conv => whnf
                                                                      refine ⟨(), trivial, Sub.eq rfl ?_ ?_⟩
                                                                      · repeat ((conv => whnf); refine Need.mk rfl ?_)
                                                                        exact trivial
                                                                      · exact trivial
                                                                  · replace hx540 := ite_f hc385 hx540
                                                                    cases hx540
                                                                    conv => whnf
                                                                    refine ⟨(), trivial, Sub.eq rfl ?_ ?_⟩
                                                                    · repeat ((conv => whnf); refine Need.mk rfl ?_)
                                                                      exact trivial
                                                                    · exact trivial
                                                                · replace hx540 := ite_f hc384 hx540
                                                                  cases hx540
                                                                  conv => whnf
                                                                  refine ⟨(), trivial, Sub.eq rfl ?_ ?_⟩
                                                                  · repeat ((conv => whnf); refine Need.mk rfl ?_)
                                                                    exact trivial
                                                                  · exact trivial
                                                              · replace hx540 := ite_f hc383 hx540
                                                                cases hx540
                                                                conv => whnf
                                                                refine ⟨(), trivial, Sub.eq rfl ?_ ?_⟩
                                                                · repeat ((conv => whnf); refine Need.mk rfl ?_)
                                                                  exact trivial
                                                                · exact trivial
                                                            · replace hx540 := ite_f hc382 hx540
                                                              cases hx540
                                                              conv => whnf
                                                              refine ⟨(), trivial, Sub.eq rfl ?_ ?_⟩
                                                              · repeat ((conv => whnf); refine Need.mk rfl ?_)
                                                                exact trivial
                                                              · exact trivial
                                                          · replace hx540 := ite_f hc381 hx540
                                                            cases hx540
                                                            conv => whnf
                                                            refine ⟨(), trivial, Sub.eq rfl ?_ ?_⟩
                                                            · repeat ((conv => whnf); refine Need.mk rfl ?_)
                                                              exact trivial
                                                            · exact trivial
                                                        · replace hx540 := ite_f hc380 hx540
                                                          cases hx540
                                                          conv => whnf
                                                          refine ⟨(), trivial, Sub.eq rfl ?_ ?_⟩
                                                          · repeat ((conv => whnf); refine Need.mk rfl ?_)
                                                            exact trivial
                                                          · exact trivial
                                                      · replace hx540 := ite_f hc379 hx540
                                                        cases hx540
                                                        conv => whnf
                                                        refine ⟨(), trivial, Sub.eq rfl ?_ ?_⟩
                                                        · repeat ((conv => whnf); refine Need.mk rfl ?_)
                                                          exact trivial
                                                        · exact trivial
                                                    · replace hx540 := ite_f hc378 hx540
                                                      cases hx540
                                                      conv => whnf
                                                      refine ⟨(), trivial, Sub.eq rfl ?_ ?_⟩
                                                      · repeat ((conv => whnf); refine Need.mk rfl ?_)
                                                        exact trivial
                                                      · exact trivial
                                                  · replace hx540 := ite_f hc377 hx540
                                                    cases hx540
                                                    conv => whnf
                                                    refine ⟨(), trivial, Sub.eq rfl ?_ ?_⟩
                                                    · repeat ((conv => whnf); refine Need.mk rfl ?_)
                                                      exact trivial
                                                    · exact trivial
                                                · rintro _ _
                                                  conv => whnf
                                                  cases h
                                                  exact rfl
end Go.Proofs.Ythbifolpofillaa
