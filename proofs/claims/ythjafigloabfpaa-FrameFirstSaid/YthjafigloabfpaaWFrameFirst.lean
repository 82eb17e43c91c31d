/-
  The walk of the law FrameFirst.
-/
import Derived.Test.YthjafigloabfpaaDFrameFirst
import Derived.Test.YthjafigloabfpaaWd
namespace Go.Proofs.Ythjafigloabfpaa
open Go Go.Abs Go.Kp
set_option maxRecDepth 100000
set_option maxHeartbeats 8000000
set_option linter.all false

theorem law01FrameFirstC {N : Nat} (hN : N ≤ 1073741824) {a1 : Ref01Law} {a2 : List Int} {r : Bool} (h : law01FrameFirst N a1 a2 = some r) :
    ACalls Try.prog 8 [.d (.agg [I a1.fFrames, I a1.fPins, I a1.fBalls, I a1.fTap]), .d (.list 1 (List.map I a2))] [] fun e os => e = .ret (.d (.bool r)) ∧ os = [] := by
  refine acalls_f (fresh := false) tt_ok dr_ok ⟨[2], [], [], [], [1, 6, 7, 9, 10, 11, 12, 15, 16], 0⟩ Try.func8 rfl Try.call8 rfl ?_
  unfold law01FrameFirst at h
  obtain ⟨v2, hx7, h⟩ := obind h
  conv => whnf
  refine SeqG.mk Unit (fun y => [(1, .d (.list 1 (List.map I a2))), (2, .d (.ref (.agg [I a1.fFrames, I a1.fPins, I a1.fBalls, I a1.fTap]))), (22, .d (.bool v2))]) (fun y => []) (fun _ => True) ?_ ?_
  · obtain ⟨r6, hx8, hx7⟩ := obind hx7
    conv => whnf
    refine CallG.pure _ (ref01IsLawC hN hx8) ?_
    conv => whnf
    refine Br.mk (fun hc5 => ?_) (fun hc5 => ?_)
    · replace hx7 := ite_f hc5 hx7
      conv => whnf
      refine Ln.mk _ (List.length_map _) ?_
      cases hx7
      conv => whnf
      refine ⟨(), trivial, Sub.eq rfl ?_ ?_⟩
      · repeat ((conv => whnf); refine Need.mk rfl ?_)
        exact trivial
      · exact trivial
    · replace hx7 := ite_t hc5 hx7
      cases hx7
      conv => whnf
      refine ⟨(), trivial, Sub.eq rfl ?_ ?_⟩
      · repeat ((conv => whnf); refine Need.mk rfl ?_)
        exact trivial
      · exact trivial
  · rintro _ _
    conv => whnf
    refine Br.mk (fun hc6 => ?_) (fun hc6 => ?_)
    · replace h := ite_t hc6 h
      obtain ⟨r8, hx10, h⟩ := obind h
      conv => whnf
      refine CallG.pure _ (law01WakesC hN hx10) ?_
      conv => whnf
      cases h
      exact rfl
    · replace h := ite_f hc6 h
      obtain ⟨r11, hx14, h⟩ := obind h
      conv => whnf
      refine CallG.pure _ (law01LawC hN hx14) ?_
      obtain ⟨r12, hx15, h⟩ := obind h
      conv => whnf
      refine CallG.fresh 28 (law01ListC hN hx15) ?_
      intro hd2
      obtain ⟨⟨ra2, rb2⟩, hx16, h⟩ := obind h
      conv => whnf
      refine Side.mk rfl ?_
      conv => whnf
      refine CallG.pure _ (frameBadC hN hx16) ?_
      conv => whnf
      refine Br.mk (fun hc12 => ?_) (fun hc12 => ?_)
      · replace h := ite_t hc12 h
        obtain ⟨r21, hx29, h⟩ := obind h
        conv => whnf
        refine CallG.pure _ (law01LawC hN hx29) ?_
        obtain ⟨r22, hx30, h⟩ := obind h
        conv => whnf
        refine CallG.fresh 38 (law01ListC hN hx30) ?_
        intro hd6
        obtain ⟨⟨ra6, rb6⟩, hx31, h⟩ := obind h
        conv => whnf
        refine Side.mk rfl ?_
        conv => whnf
        refine CallG.pure _ (frameReadC hN hx31) ?_
        conv => whnf
        intro b4
        conv => whnf
        refine Side.mk rfl ?_
        obtain ⟨v4, hx33, h⟩ := obind h
        conv => whnf
        refine SeqG.mk Unit (fun y => [(4, .d (.bool v4))]) (fun y => []) (fun _ => True) ?_ ?_
        · conv => whnf
          refine Br.mk (fun hc15 => ?_) (fun hc15 => ?_)
          · replace hx33 := ite_t hc15 hx33
            conv => whnf
            refine Br.mk (fun hc16 => ?_) (fun hc16 => ?_)
            · replace hx33 := ite_t hc16 hx33
              obtain ⟨r24, hx34, hx33⟩ := obind hx33
              conv => whnf
              refine CallG.pure _ (law01WakesC hN hx34) ?_
              cases hx33
              conv => whnf
              refine ⟨(), trivial, Sub.eq rfl ?_ ?_⟩
              · repeat ((conv => whnf); refine Need.mk rfl ?_)
                exact trivial
              · exact trivial
            · replace hx33 := ite_f hc16 hx33
              cases hx33
              conv => whnf
              refine ⟨(), trivial, Sub.eq rfl ?_ ?_⟩
              · repeat ((conv => whnf); refine Need.mk rfl ?_)
                exact trivial
              · exact trivial
          · replace hx33 := ite_f hc15 hx33
            cases hx33
            conv => whnf
            refine ⟨(), trivial, Sub.eq rfl ?_ ?_⟩
            · repeat ((conv => whnf); refine Need.mk rfl ?_)
              exact trivial
            · exact trivial
        · rintro _ _
          conv => whnf
          cases h
          exact rfl
      · replace h := ite_f hc12 h
        obtain ⟨v6, hx36, h⟩ := obind h
        conv => whnf
        refine SeqG.mk Unit (fun y => [(1, .d (.list 1 (List.map I a2))), (2, .d (.ref (.agg [I a1.fFrames, I a1.fPins, I a1.fBalls, I a1.fTap]))), (5, .d (I ra2)), (58, .d (.bool v6))]) (fun y => []) (fun _ => True) ?_ ?_
        · conv => whnf
          refine Br.mk (fun hc21 => ?_) (fun hc21 => ?_)
          · replace hx36 := ite_f hc21 hx36
            conv => whnf
            refine Ln.mk _ (List.length_map _) ?_
            cases hx36
            conv => whnf
            refine ⟨(), trivial, Sub.eq rfl ?_ ?_⟩
            · repeat ((conv => whnf); refine Need.mk rfl ?_)
              exact trivial
            · exact trivial
          · replace hx36 := ite_t hc21 hx36
            cases hx36
            conv => whnf
            refine ⟨(), trivial, Sub.eq rfl ?_ ?_⟩
            · repeat ((conv => whnf); refine Need.mk rfl ?_)
              exact trivial
            · exact trivial
        · rintro _ _
          conv => whnf
          refine Br.mk (fun hc22 => ?_) (fun hc22 => ?_)
          · replace h := ite_t hc22 h
            conv => whnf
            cases h
            exact rfl
          · replace h := ite_f hc22 h
            obtain ⟨⟨v7, c1⟩, hx41, h⟩ := obind h
            conv => whnf
            refine SeqG.mk Nat (fun y => [(1, .d (.list 1 (List.map I a2))), (2, .d (.ref (.agg [I a1.fFrames, I a1.fPins, I a1.fBalls, I a1.fTap]))), (5, .d (I ra2)), (9, .ptr 9 y 0), (10, .d (I v7))]) (fun y => [(9, .cells y [.d (.list 1 (List.map (fun x => .list 1 (List.map I x)) c1.fFrames)), .d (.list 1 (List.map I c1.fCounts)), .d (I c1.fStanding), .d (.bool c1.fDone)])]) (fun _ => True) ?_ ?_
            · obtain ⟨r27, hx42, hx41⟩ := obind hx41
              obtain ⟨l2, hx43, hx41⟩ := obind hx41
              obtain ⟨r28, hx44, hx41⟩ := obind hx41
              obtain ⟨⟨ra8, rb8⟩, hx45, hx41⟩ := obind hx41
              conv => whnf
              refine DrawG.mk (.take 0 (.take 2 (.take 3 (.alt 1 [3, 2] (.alt 4 [] (.alt 5 [] (.alt 6 [] (.take 7 (.take 8 (.take 9 (.alt 10 [9, 8, 7] (.alt 11 [9] (.take 12 .done) .nil) .nil)))) (.alt 10 [] (.alt 6 [] (.take 7 (.take 8 (.take 9 (.alt 11 [9] (.take 12 .done) .nil)))) .nil) .nil)) (.alt 10 [] (.alt 5 [] (.alt 6 [] (.take 7 (.take 8 (.take 9 (.alt 11 [9] (.take 12 .done) .nil)))) .nil) .nil) .nil)) (.alt 10 [3, 2] (.alt 4 [] (.alt 5 [] (.alt 6 [] (.take 7 (.take 8 (.take 9 (.alt 11 [9] (.take 12 .done) .nil)))) .nil) .nil) .nil) .nil)) (.alt 4 [0] (.alt 1 [] (.alt 5 [] (.alt 6 [] (.take 7 (.take 8 (.take 9 (.alt 10 [9, 8, 7] (.alt 11 [9] (.take 12 .done) .nil) .nil)))) (.alt 10 [] (.alt 6 [] (.take 7 (.take 8 (.take 9 (.alt 11 [9] (.take 12 .done) .nil)))) .nil) .nil)) (.alt 10 [] (.alt 5 [] (.alt 6 [] (.take 7 (.take 8 (.take 9 (.alt 11 [9] (.take 12 .done) .nil)))) .nil) .nil) .nil)) (.alt 10 [0] (.alt 1 [] (.alt 5 [] (.alt 6 [] (.take 7 (.take 8 (.take 9 (.alt 11 [9] (.take 12 .done) .nil)))) .nil) .nil) .nil) .nil)) (.alt 10 [3, 2, 0] (.alt 1 [3, 2] (.alt 4 [] (.alt 5 [] (.alt 6 [] (.take 7 (.take 8 (.take 9 (.alt 11 [9] (.take 12 .done) .nil)))) .nil) .nil) .nil) (.alt 4 [0] (.alt 1 [] (.alt 5 [] (.alt 6 [] (.take 7 (.take 8 (.take 9 (.alt 11 [9] (.take 12 .done) .nil)))) .nil) .nil) .nil) .nil)) .nil)))))) (by kernel_rfl) ?_
              conv => whnf
              refine Both.mk ?_ ?_
              · conv => whnf
                refine CallG.pure _ (law01LawC hN hx42) ?_
                conv => whnf
                refine Need.mk (AV.le_refl _) ?_
                conv => whnf
                refine Need.mk (AV.le_refl _) ?_
                conv => whnf
                refine Both.mk ?_ ?_
                · conv => whnf
                  refine Need.mk (slc_need _ hx43) (Eqv.mk (List.map I l2) (slc_map _ hx43) ?_)
                  conv => whnf
                  refine Both.mk ?_ ?_
                  · conv => whnf
                    refine CallG.fresh 65 (law01ListC hN hx44) ?_
                    intro hd17
                    conv => whnf
                    refine Both.mk ?_ ?_
                    · conv => whnf
                      refine Side.mk rfl ?_
                      conv => whnf
                      refine CallG.pure _ (frameReadC hN hx45) ?_
                      conv => whnf
                      refine Both.mk ?_ trivial
                      conv => whnf
                      intro b16
                      conv => whnf
                      refine Need.mk (AV.le_refl _) ?_
                      conv => whnf
                      refine Need.mk (AV.le_refl _) ?_
                      conv => whnf
                      refine Need.mk (AV.le_refl _) ?_
                      conv => whnf
                      refine Both.mk ?_ trivial
                      conv => whnf
                      refine Side.mk rfl ?_
                      conv => whnf
                      refine Need.mk (AV.le_refl _) ?_
                      cases hx41
                      conv => whnf
                      refine ⟨b16, trivial, Sub.eq rfl ?_ ?_⟩
                      · repeat ((conv => whnf); refine Need.mk rfl ?_)
                        exact trivial
                      · conv => whnf
                        refine Need.mk (OLe.refl _) ?_
                        exact trivial
                    · conv => whnf
                      refine Both.mk ?_ trivial
                      conv => whnf
                      intro b17
                      conv => whnf
                      refine Both.mk ?_ trivial
                      conv => whnf
                      refine Side.mk rfl ?_
                      conv => whnf
                      refine CallG.pure _ (frameReadC hN hx45) ?_
                      conv => whnf
                      refine Both.mk ?_ trivial
                      conv => whnf
                      refine Side.mk rfl ?_
                      conv => whnf
                      refine Need.mk (AV.le_refl _) ?_
                      cases hx41
                      conv => whnf
                      refine ⟨b17, trivial, Sub.eq rfl ?_ ?_⟩
                      · repeat ((conv => whnf); refine Need.mk rfl ?_)
                        exact trivial
                      · conv => whnf
                        refine Need.mk (OLe.refl _) ?_
                        exact trivial
                  · conv => whnf
                    refine Both.mk ?_ trivial
                    conv => whnf
                    intro b18
                    conv => whnf
                    refine Both.mk ?_ trivial
                    conv => whnf
                    refine CallG.fresh 65 (law01ListC hN hx44) ?_
                    intro hd18
                    conv => whnf
                    refine Both.mk ?_ trivial
                    conv => whnf
                    refine Side.mk rfl ?_
                    conv => whnf
                    refine CallG.pure _ (frameReadC hN hx45) ?_
                    conv => whnf
                    refine Both.mk ?_ trivial
                    conv => whnf
                    refine Side.mk rfl ?_
                    conv => whnf
                    refine Need.mk (AV.le_refl _) ?_
                    cases hx41
                    conv => whnf
                    refine ⟨b18, trivial, Sub.eq rfl ?_ ?_⟩
                    · repeat ((conv => whnf); refine Need.mk rfl ?_)
                      exact trivial
                    · conv => whnf
                      refine Need.mk (OLe.refl _) ?_
                      exact trivial
                · conv => whnf
                  refine Both.mk ?_ trivial
                  conv => whnf
                  intro b19
                  conv => whnf
                  refine Need.mk (AV.le_refl _) ?_
                  conv => whnf
                  refine Need.mk (AV.le_refl _) ?_
                  conv => whnf
                  refine Both.mk ?_ trivial
                  conv => whnf
                  refine Need.mk (slc_need _ hx43) (Eqv.mk (List.map I l2) (slc_map _ hx43) ?_)
                  conv => whnf
                  refine Both.mk ?_ trivial
                  conv => whnf
                  refine CallG.fresh 65 (law01ListC hN hx44) ?_
                  intro hd19
                  conv => whnf
                  refine Both.mk ?_ trivial
                  conv => whnf
                  refine Side.mk rfl ?_
                  conv => whnf
                  refine CallG.pure _ (frameReadC hN hx45) ?_
                  conv => whnf
                  refine Both.mk ?_ trivial
                  conv => whnf
                  refine Side.mk rfl ?_
                  conv => whnf
                  refine Need.mk (AV.le_refl _) ?_
                  cases hx41
                  conv => whnf
                  refine ⟨b19, trivial, Sub.eq rfl ?_ ?_⟩
                  · repeat ((conv => whnf); refine Need.mk rfl ?_)
                    exact trivial
                  · conv => whnf
                    refine Need.mk (OLe.refl _) ?_
                    exact trivial
              · conv => whnf
                refine Both.mk ?_ ?_
                · conv => whnf
                  refine Need.mk (slc_need _ hx43) (Eqv.mk (List.map I l2) (slc_map _ hx43) ?_)
                  conv => whnf
                  refine Need.mk (AV.le_refl _) ?_
                  conv => whnf
                  refine Both.mk ?_ ?_
                  · conv => whnf
                    refine CallG.pure _ (law01LawC hN hx42) ?_
                    conv => whnf
                    refine Both.mk ?_ ?_
                    · conv => whnf
                      refine CallG.fresh 65 (law01ListC hN hx44) ?_
                      intro hd20
                      conv => whnf
                      refine Both.mk ?_ ?_
                      · conv => whnf
                        refine Side.mk rfl ?_
                        conv => whnf
                        refine CallG.pure _ (frameReadC hN hx45) ?_
                        conv => whnf
                        refine Both.mk ?_ trivial
                        conv => whnf
                        intro b20
                        conv => whnf
                        refine Need.mk (AV.le_refl _) ?_
                        conv => whnf
                        refine Need.mk (AV.le_refl _) ?_
                        conv => whnf
                        refine Need.mk (AV.le_refl _) ?_
                        conv => whnf
                        refine Both.mk ?_ trivial
                        conv => whnf
                        refine Side.mk rfl ?_
                        conv => whnf
                        refine Need.mk (AV.le_refl _) ?_
                        cases hx41
                        conv => whnf
                        refine ⟨b20, trivial, Sub.eq rfl ?_ ?_⟩
                        · repeat ((conv => whnf); refine Need.mk rfl ?_)
                          exact trivial
                        · conv => whnf
                          refine Need.mk (OLe.refl _) ?_
                          exact trivial
                      · conv => whnf
                        refine Both.mk ?_ trivial
                        conv => whnf
                        intro b21
                        conv => whnf
                        refine Both.mk ?_ trivial
                        conv => whnf
                        refine Side.mk rfl ?_
                        conv => whnf
                        refine CallG.pure _ (frameReadC hN hx45) ?_
                        conv => whnf
                        refine Both.mk ?_ trivial
                        conv => whnf
                        refine Side.mk rfl ?_
                        conv => whnf
                        refine Need.mk (AV.le_refl _) ?_
                        cases hx41
                        conv => whnf
                        refine ⟨b21, trivial, Sub.eq rfl ?_ ?_⟩
                        · repeat ((conv => whnf); refine Need.mk rfl ?_)
                          exact trivial
                        · conv => whnf
                          refine Need.mk (OLe.refl _) ?_
                          exact trivial
                    · conv => whnf
                      refine Both.mk ?_ trivial
                      conv => whnf
                      intro b22
                      conv => whnf
                      refine Both.mk ?_ trivial
                      conv => whnf
                      refine CallG.fresh 65 (law01ListC hN hx44) ?_
                      intro hd21
                      conv => whnf
                      refine Both.mk ?_ trivial
                      conv => whnf
                      refine Side.mk rfl ?_
                      conv => whnf
                      refine CallG.pure _ (frameReadC hN hx45) ?_
                      conv => whnf
                      refine Both.mk ?_ trivial
                      conv => whnf
                      refine Side.mk rfl ?_
                      conv => whnf
                      refine Need.mk (AV.le_refl _) ?_
                      cases hx41
                      conv => whnf
                      refine ⟨b22, trivial, Sub.eq rfl ?_ ?_⟩
                      · repeat ((conv => whnf); refine Need.mk rfl ?_)
                        exact trivial
                      · conv => whnf
                        refine Need.mk (OLe.refl _) ?_
                        exact trivial
                  · conv => whnf
                    refine Both.mk ?_ trivial
                    conv => whnf
                    intro b23
                    conv => whnf
                    refine Need.mk (AV.le_refl _) ?_
                    conv => whnf
                    refine Both.mk ?_ trivial
                    conv => whnf
                    refine CallG.pure _ (law01LawC hN hx42) ?_
                    conv => whnf
                    refine Both.mk ?_ trivial
                    conv => whnf
                    refine CallG.fresh 65 (law01ListC hN hx44) ?_
                    intro hd22
                    conv => whnf
                    refine Both.mk ?_ trivial
                    conv => whnf
                    refine Side.mk rfl ?_
                    conv => whnf
                    refine CallG.pure _ (frameReadC hN hx45) ?_
                    conv => whnf
                    refine Both.mk ?_ trivial
                    conv => whnf
                    refine Side.mk rfl ?_
                    conv => whnf
                    refine Need.mk (AV.le_refl _) ?_
                    cases hx41
                    conv => whnf
                    refine ⟨b23, trivial, Sub.eq rfl ?_ ?_⟩
                    · repeat ((conv => whnf); refine Need.mk rfl ?_)
                      exact trivial
                    · conv => whnf
                      refine Need.mk (OLe.refl _) ?_
                      exact trivial
                · conv => whnf
                  refine Both.mk ?_ trivial
                  conv => whnf
                  intro b24
                  conv => whnf
                  refine Need.mk (AV.le_refl _) ?_
                  conv => whnf
                  refine Need.mk (AV.le_refl _) ?_
                  conv => whnf
                  refine Need.mk (AV.le_refl _) ?_
                  conv => whnf
                  refine Both.mk ?_ ?_
                  · conv => whnf
                    refine CallG.pure _ (law01LawC hN hx42) ?_
                    conv => whnf
                    refine Need.mk (AV.le_refl _) ?_
                    conv => whnf
                    refine Need.mk (AV.le_refl _) ?_
                    conv => whnf
                    refine Both.mk ?_ trivial
                    conv => whnf
                    refine Need.mk (slc_need _ hx43) (Eqv.mk (List.map I l2) (slc_map _ hx43) ?_)
                    conv => whnf
                    refine Both.mk ?_ trivial
                    conv => whnf
                    refine CallG.fresh 65 (law01ListC hN hx44) ?_
                    intro hd23
                    conv => whnf
                    refine Both.mk ?_ trivial
                    conv => whnf
                    refine Side.mk rfl ?_
                    conv => whnf
                    refine CallG.pure _ (frameReadC hN hx45) ?_
                    conv => whnf
                    refine Both.mk ?_ trivial
                    conv => whnf
                    refine Side.mk rfl ?_
                    conv => whnf
                    refine Need.mk (AV.le_refl _) ?_
                    cases hx41
                    conv => whnf
                    refine ⟨b24, trivial, Sub.eq rfl ?_ ?_⟩
                    · repeat ((conv => whnf); refine Need.mk rfl ?_)
                      exact trivial
                    · conv => whnf
                      refine Need.mk (OLe.refl _) ?_
                      exact trivial
                  · conv => whnf
                    refine Both.mk ?_ trivial
                    conv => whnf
                    refine Need.mk (slc_need _ hx43) (Eqv.mk (List.map I l2) (slc_map _ hx43) ?_)
                    conv => whnf
                    refine Need.mk (AV.le_refl _) ?_
                    conv => whnf
                    refine Both.mk ?_ trivial
                    conv => whnf
                    refine CallG.pure _ (law01LawC hN hx42) ?_
                    conv => whnf
                    refine Both.mk ?_ trivial
                    conv => whnf
                    refine CallG.fresh 65 (law01ListC hN hx44) ?_
                    intro hd24
                    conv => whnf
                    refine Both.mk ?_ trivial
                    conv => whnf
                    refine Side.mk rfl ?_
                    conv => whnf
                    refine CallG.pure _ (frameReadC hN hx45) ?_
                    conv => whnf
                    refine Both.mk ?_ trivial
                    conv => whnf
                    refine Side.mk rfl ?_
                    conv => whnf
                    refine Need.mk (AV.le_refl _) ?_
                    cases hx41
                    conv => whnf
                    refine ⟨b24, trivial, Sub.eq rfl ?_ ?_⟩
                    · repeat ((conv => whnf); refine Need.mk rfl ?_)
                      exact trivial
                    · conv => whnf
                      refine Need.mk (OLe.refl _) ?_
                      exact trivial
            · rintro bb1 _
              obtain ⟨v8, hx50, h⟩ := obind h
              conv => whnf
              refine SeqG.mk Unit (fun y => [(1, .d (.list 1 (List.map I a2))), (2, .d (.ref (.agg [I a1.fFrames, I a1.fPins, I a1.fBalls, I a1.fTap]))), (5, .d (I ra2)), (9, .ptr 9 bb1 0), (10, .d (I v7)), (12, .d (I v8))]) (fun y => [(9, .cells bb1 [.d (.list 1 (List.map (fun x => .list 1 (List.map I x)) c1.fFrames)), .d (.list 1 (List.map I c1.fCounts)), .d (I c1.fStanding), .d (.bool c1.fDone)])]) (fun _ => True) ?_ ?_
              · obtain ⟨r31, hx51, hx50⟩ := obind hx50
                obtain ⟨l4, hx52, hx50⟩ := obind hx50
                obtain ⟨r32, hx53, hx50⟩ := obind hx50
                obtain ⟨⟨ra10, rb10⟩, hx54, hx50⟩ := obind hx50
                conv => whnf
                refine DrawG.mk (.take 0 (.take 2 (.take 3 (.take 4 (.alt 1 [4, 3, 2] (.alt 5 [3] (.alt 6 [3] (.alt 7 [3] (.take 8 (.take 9 (.take 10 (.alt 11 [10, 9, 8, 3] (.alt 12 [10] (.take 13 .done) .nil) .nil)))) (.alt 11 [3] (.alt 7 [3] (.take 8 (.take 9 (.take 10 (.alt 12 [10] (.take 13 .done) .nil)))) .nil) .nil)) (.alt 11 [3] (.alt 6 [3] (.alt 7 [3] (.take 8 (.take 9 (.take 10 (.alt 12 [10] (.take 13 .done) .nil)))) .nil) .nil) .nil)) (.alt 11 [4, 3, 2] (.alt 5 [3] (.alt 6 [3] (.alt 7 [3] (.take 8 (.take 9 (.take 10 (.alt 12 [10] (.take 13 .done) .nil)))) .nil) .nil) .nil) .nil)) (.alt 5 [3, 0] (.alt 1 [3] (.alt 6 [3] (.alt 7 [3] (.take 8 (.take 9 (.take 10 (.alt 11 [10, 9, 8, 3] (.alt 12 [10] (.take 13 .done) .nil) .nil)))) (.alt 11 [3] (.alt 7 [3] (.take 8 (.take 9 (.take 10 (.alt 12 [10] (.take 13 .done) .nil)))) .nil) .nil)) (.alt 11 [3] (.alt 6 [3] (.alt 7 [3] (.take 8 (.take 9 (.take 10 (.alt 12 [10] (.take 13 .done) .nil)))) .nil) .nil) .nil)) (.alt 11 [3, 0] (.alt 1 [3] (.alt 6 [3] (.alt 7 [3] (.take 8 (.take 9 (.take 10 (.alt 12 [10] (.take 13 .done) .nil)))) .nil) .nil) .nil) .nil)) (.alt 11 [4, 3, 2, 0] (.alt 1 [4, 3, 2] (.alt 5 [3] (.alt 6 [3] (.alt 7 [3] (.take 8 (.take 9 (.take 10 (.alt 12 [10] (.take 13 .done) .nil)))) .nil) .nil) .nil) (.alt 5 [3, 0] (.alt 1 [3] (.alt 6 [3] (.alt 7 [3] (.take 8 (.take 9 (.take 10 (.alt 12 [10] (.take 13 .done) .nil)))) .nil) .nil) .nil) .nil)) .nil))))))) (by kernel_rfl) ?_
                conv => whnf
                refine Both.mk ?_ ?_
                · conv => whnf
                  refine CallG.pure _ (law01LawC hN hx51) ?_
                  conv => whnf
                  refine Need.mk (AV.le_refl _) ?_
                  conv => whnf
                  refine Need.mk (AV.le_refl _) ?_
                  conv => whnf
                  refine Need.mk (AV.le_refl _) ?_
                  conv => whnf
                  refine Both.mk ?_ ?_
                  · conv => whnf
                    refine Need.mk (slc_need _ hx52) (Eqv.mk (List.map I l4) (slc_map _ hx52) ?_)
                    conv => whnf
                    refine Need.mk (AV.le_refl _) ?_
                    conv => whnf
                    refine Both.mk ?_ ?_
                    · conv => whnf
                      refine CallG.fresh 76 (law01ListC hN hx53) ?_
                      intro hd35
                      conv => whnf
                      refine Need.mk (AV.le_refl _) ?_
                      conv => whnf
                      refine Both.mk ?_ ?_
                      · conv => whnf
                        refine Side.mk rfl ?_
                        conv => whnf
                        refine CallG.pure _ (frameReadC hN hx54) ?_
                        conv => whnf
                        refine Need.mk (AV.le_refl _) ?_
                        conv => whnf
                        refine Both.mk ?_ trivial
                        conv => whnf
                        intro b36
                        conv => whnf
                        refine Need.mk (AV.le_refl _) ?_
                        conv => whnf
                        refine Need.mk (AV.le_refl _) ?_
                        conv => whnf
                        refine Need.mk (AV.le_refl _) ?_
                        conv => whnf
                        refine Need.mk (AV.le_refl _) ?_
                        conv => whnf
                        refine Both.mk ?_ trivial
                        conv => whnf
                        refine Side.mk rfl ?_
                        conv => whnf
                        refine Need.mk (AV.le_refl _) ?_
                        cases hx50
                        conv => whnf
                        refine ⟨(), trivial, Sub.eq rfl ?_ ?_⟩
                        · repeat ((conv => whnf); refine Need.mk rfl ?_)
                          exact trivial
                        · conv => whnf
                          refine Need.mk (OLe.refl _) ?_
                          exact trivial
                      · conv => whnf
                        refine Both.mk ?_ trivial
                        conv => whnf
                        intro b37
                        conv => whnf
                        refine Need.mk (AV.le_refl _) ?_
                        conv => whnf
                        refine Both.mk ?_ trivial
                        conv => whnf
                        refine Side.mk rfl ?_
                        conv => whnf
                        refine CallG.pure _ (frameReadC hN hx54) ?_
                        conv => whnf
                        refine Need.mk (AV.le_refl _) ?_
                        conv => whnf
                        refine Both.mk ?_ trivial
                        conv => whnf
                        refine Side.mk rfl ?_
                        conv => whnf
                        refine Need.mk (AV.le_refl _) ?_
                        cases hx50
                        conv => whnf
                        refine ⟨(), trivial, Sub.eq rfl ?_ ?_⟩
                        · repeat ((conv => whnf); refine Need.mk rfl ?_)
                          exact trivial
                        · conv => whnf
                          refine Need.mk (OLe.refl _) ?_
                          exact trivial
                    · conv => whnf
                      refine Both.mk ?_ trivial
                      conv => whnf
                      intro b38
                      conv => whnf
                      refine Need.mk (AV.le_refl _) ?_
                      conv => whnf
                      refine Both.mk ?_ trivial
                      conv => whnf
                      refine CallG.fresh 76 (law01ListC hN hx53) ?_
                      intro hd36
                      conv => whnf
                      refine Need.mk (AV.le_refl _) ?_
                      conv => whnf
                      refine Both.mk ?_ trivial
                      conv => whnf
                      refine Side.mk rfl ?_
                      conv => whnf
                      refine CallG.pure _ (frameReadC hN hx54) ?_
                      conv => whnf
                      refine Need.mk (AV.le_refl _) ?_
                      conv => whnf
                      refine Both.mk ?_ trivial
                      conv => whnf
                      refine Side.mk rfl ?_
                      conv => whnf
                      refine Need.mk (AV.le_refl _) ?_
                      cases hx50
                      conv => whnf
                      refine ⟨(), trivial, Sub.eq rfl ?_ ?_⟩
                      · repeat ((conv => whnf); refine Need.mk rfl ?_)
                        exact trivial
                      · conv => whnf
                        refine Need.mk (OLe.refl _) ?_
                        exact trivial
                  · conv => whnf
                    refine Both.mk ?_ trivial
                    conv => whnf
                    intro b39
                    conv => whnf
                    refine Need.mk (AV.le_refl _) ?_
                    conv => whnf
                    refine Need.mk (AV.le_refl _) ?_
                    conv => whnf
                    refine Need.mk (AV.le_refl _) ?_
                    conv => whnf
                    refine Both.mk ?_ trivial
                    conv => whnf
                    refine Need.mk (slc_need _ hx52) (Eqv.mk (List.map I l4) (slc_map _ hx52) ?_)
                    conv => whnf
                    refine Need.mk (AV.le_refl _) ?_
                    conv => whnf
                    refine Both.mk ?_ trivial
                    conv => whnf
                    refine CallG.fresh 76 (law01ListC hN hx53) ?_
                    intro hd37
                    conv => whnf
                    refine Need.mk (AV.le_refl _) ?_
                    conv => whnf
                    refine Both.mk ?_ trivial
                    conv => whnf
                    refine Side.mk rfl ?_
                    conv => whnf
                    refine CallG.pure _ (frameReadC hN hx54) ?_
                    conv => whnf
                    refine Need.mk (AV.le_refl _) ?_
                    conv => whnf
                    refine Both.mk ?_ trivial
                    conv => whnf
                    refine Side.mk rfl ?_
                    conv => whnf
                    refine Need.mk (AV.le_refl _) ?_
                    cases hx50
                    conv => whnf
                    refine ⟨(), trivial, Sub.eq rfl ?_ ?_⟩
                    · repeat ((conv => whnf); refine Need.mk rfl ?_)
                      exact trivial
                    · conv => whnf
                      refine Need.mk (OLe.refl _) ?_
                      exact trivial
                · conv => whnf
                  refine Both.mk ?_ ?_
                  · conv => whnf
                    refine Need.mk (slc_need _ hx52) (Eqv.mk (List.map I l4) (slc_map _ hx52) ?_)
                    conv => whnf
                    refine Need.mk (AV.le_refl _) ?_
                    conv => whnf
                    refine Need.mk (AV.le_refl _) ?_
                    conv => whnf
                    refine Both.mk ?_ ?_
                    · conv => whnf
                      refine CallG.pure _ (law01LawC hN hx51) ?_
                      conv => whnf
                      refine Need.mk (AV.le_refl _) ?_
                      conv => whnf
                      refine Both.mk ?_ ?_
                      · conv => whnf
                        refine CallG.fresh 76 (law01ListC hN hx53) ?_
                        intro hd38
                        conv => whnf
                        refine Need.mk (AV.le_refl _) ?_
                        conv => whnf
                        refine Both.mk ?_ ?_
                        · conv => whnf
                          refine Side.mk rfl ?_
                          conv => whnf
                          refine CallG.pure _ (frameReadC hN hx54) ?_
                          conv => whnf
                          refine Need.mk (AV.le_refl _) ?_
                          conv => whnf
                          refine Both.mk ?_ trivial
                          conv => whnf
                          intro b40
                          conv => whnf
                          refine Need.mk (AV.le_refl _) ?_
                          conv => whnf
                          refine Need.mk (AV.le_refl _) ?_
                          conv => whnf
                          refine Need.mk (AV.le_refl _) ?_
                          conv => whnf
                          refine Need.mk (AV.le_refl _) ?_
                          conv => whnf
                          refine Both.mk ?_ trivial
                          conv => whnf
                          refine Side.mk rfl ?_
                          conv => whnf
                          refine Need.mk (AV.le_refl _) ?_
                          cases hx50
                          conv => whnf
                          refine ⟨(), trivial, Sub.eq rfl ?_ ?_⟩
                          · repeat ((conv => whnf); refine Need.mk rfl ?_)
                            exact trivial
                          · conv => whnf
                            refine Need.mk (OLe.refl _) ?_
                            exact trivial
                        · conv => whnf
                          refine Both.mk ?_ trivial
                          conv => whnf
                          intro b41
                          conv => whnf
                          refine Need.mk (AV.le_refl _) ?_
                          conv => whnf
                          refine Both.mk ?_ trivial
                          conv => whnf
                          refine Side.mk rfl ?_
                          conv => whnf
                          refine CallG.pure _ (frameReadC hN hx54) ?_
                          conv => whnf
                          refine Need.mk (AV.le_refl _) ?_
                          conv => whnf
                          refine Both.mk ?_ trivial
                          conv => whnf
                          refine Side.mk rfl ?_
                          conv => whnf
                          refine Need.mk (AV.le_refl _) ?_
                          cases hx50
                          conv => whnf
                          refine ⟨(), trivial, Sub.eq rfl ?_ ?_⟩
                          · repeat ((conv => whnf); refine Need.mk rfl ?_)
                            exact trivial
                          · conv => whnf
                            refine Need.mk (OLe.refl _) ?_
                            exact trivial
                      · conv => whnf
                        refine Both.mk ?_ trivial
                        conv => whnf
                        intro b42
                        conv => whnf
                        refine Need.mk (AV.le_refl _) ?_
                        conv => whnf
                        refine Both.mk ?_ trivial
                        conv => whnf
                        refine CallG.fresh 76 (law01ListC hN hx53) ?_
                        intro hd39
                        conv => whnf
                        refine Need.mk (AV.le_refl _) ?_
                        conv => whnf
                        refine Both.mk ?_ trivial
                        conv => whnf
                        refine Side.mk rfl ?_
                        conv => whnf
                        refine CallG.pure _ (frameReadC hN hx54) ?_
                        conv => whnf
                        refine Need.mk (AV.le_refl _) ?_
                        conv => whnf
                        refine Both.mk ?_ trivial
                        conv => whnf
                        refine Side.mk rfl ?_
                        conv => whnf
                        refine Need.mk (AV.le_refl _) ?_
                        cases hx50
                        conv => whnf
                        refine ⟨(), trivial, Sub.eq rfl ?_ ?_⟩
                        · repeat ((conv => whnf); refine Need.mk rfl ?_)
                          exact trivial
                        · conv => whnf
                          refine Need.mk (OLe.refl _) ?_
                          exact trivial
                    · conv => whnf
                      refine Both.mk ?_ trivial
                      conv => whnf
                      intro b43
                      conv => whnf
                      refine Need.mk (AV.le_refl _) ?_
                      conv => whnf
                      refine Need.mk (AV.le_refl _) ?_
                      conv => whnf
                      refine Both.mk ?_ trivial
                      conv => whnf
                      refine CallG.pure _ (law01LawC hN hx51) ?_
                      conv => whnf
                      refine Need.mk (AV.le_refl _) ?_
                      conv => whnf
                      refine Both.mk ?_ trivial
                      conv => whnf
                      refine CallG.fresh 76 (law01ListC hN hx53) ?_
                      intro hd40
                      conv => whnf
                      refine Need.mk (AV.le_refl _) ?_
                      conv => whnf
                      refine Both.mk ?_ trivial
                      conv => whnf
                      refine Side.mk rfl ?_
                      conv => whnf
                      refine CallG.pure _ (frameReadC hN hx54) ?_
                      conv => whnf
                      refine Need.mk (AV.le_refl _) ?_
                      conv => whnf
                      refine Both.mk ?_ trivial
                      conv => whnf
                      refine Side.mk rfl ?_
                      conv => whnf
                      refine Need.mk (AV.le_refl _) ?_
                      cases hx50
                      conv => whnf
                      refine ⟨(), trivial, Sub.eq rfl ?_ ?_⟩
                      · repeat ((conv => whnf); refine Need.mk rfl ?_)
                        exact trivial
                      · conv => whnf
                        refine Need.mk (OLe.refl _) ?_
                        exact trivial
                  · conv => whnf
                    refine Both.mk ?_ trivial
                    conv => whnf
                    intro b44
                    conv => whnf
                    refine Need.mk (AV.le_refl _) ?_
                    conv => whnf
                    refine Need.mk (AV.le_refl _) ?_
                    conv => whnf
                    refine Need.mk (AV.le_refl _) ?_
                    conv => whnf
                    refine Need.mk (AV.le_refl _) ?_
                    conv => whnf
                    refine Both.mk ?_ ?_
                    · conv => whnf
                      refine CallG.pure _ (law01LawC hN hx51) ?_
                      conv => whnf
                      refine Need.mk (AV.le_refl _) ?_
                      conv => whnf
                      refine Need.mk (AV.le_refl _) ?_
                      conv => whnf
                      refine Need.mk (AV.le_refl _) ?_
                      conv => whnf
                      refine Both.mk ?_ trivial
                      conv => whnf
                      refine Need.mk (slc_need _ hx52) (Eqv.mk (List.map I l4) (slc_map _ hx52) ?_)
                      conv => whnf
                      refine Need.mk (AV.le_refl _) ?_
                      conv => whnf
                      refine Both.mk ?_ trivial
                      conv => whnf
                      refine CallG.fresh 76 (law01ListC hN hx53) ?_
                      intro hd41
                      conv => whnf
                      refine Need.mk (AV.le_refl _) ?_
                      conv => whnf
                      refine Both.mk ?_ trivial
                      conv => whnf
                      refine Side.mk rfl ?_
                      conv => whnf
                      refine CallG.pure _ (frameReadC hN hx54) ?_
                      conv => whnf
                      refine Need.mk (AV.le_refl _) ?_
                      conv => whnf
                      refine Both.mk ?_ trivial
                      conv => whnf
                      refine Side.mk rfl ?_
                      conv => whnf
                      refine Need.mk (AV.le_refl _) ?_
                      cases hx50
                      conv => whnf
                      refine ⟨(), trivial, Sub.eq rfl ?_ ?_⟩
                      · repeat ((conv => whnf); refine Need.mk rfl ?_)
                        exact trivial
                      · conv => whnf
                        refine Need.mk (OLe.refl _) ?_
                        exact trivial
                    · conv => whnf
                      refine Both.mk ?_ trivial
                      conv => whnf
                      refine Need.mk (slc_need _ hx52) (Eqv.mk (List.map I l4) (slc_map _ hx52) ?_)
                      conv => whnf
                      refine Need.mk (AV.le_refl _) ?_
                      conv => whnf
                      refine Need.mk (AV.le_refl _) ?_
                      conv => whnf
                      refine Both.mk ?_ trivial
                      conv => whnf
                      refine CallG.pure _ (law01LawC hN hx51) ?_
                      conv => whnf
                      refine Need.mk (AV.le_refl _) ?_
                      conv => whnf
                      refine Both.mk ?_ trivial
                      conv => whnf
                      refine CallG.fresh 76 (law01ListC hN hx53) ?_
                      intro hd42
                      conv => whnf
                      refine Need.mk (AV.le_refl _) ?_
                      conv => whnf
                      refine Both.mk ?_ trivial
                      conv => whnf
                      refine Side.mk rfl ?_
                      conv => whnf
                      refine CallG.pure _ (frameReadC hN hx54) ?_
                      conv => whnf
                      refine Need.mk (AV.le_refl _) ?_
                      conv => whnf
                      refine Both.mk ?_ trivial
                      conv => whnf
                      refine Side.mk rfl ?_
                      conv => whnf
                      refine Need.mk (AV.le_refl _) ?_
                      cases hx50
                      conv => whnf
                      refine ⟨(), trivial, Sub.eq rfl ?_ ?_⟩
                      · repeat ((conv => whnf); refine Need.mk rfl ?_)
                        exact trivial
                      · conv => whnf
                        refine Need.mk (OLe.refl _) ?_
                        exact trivial
              · rintro _ _
                obtain ⟨⟨v9, c2⟩, hx60, h⟩ := obind h
                conv => whnf
                refine SeqG.mk Nat (fun y => [(1, .d (.list 1 (List.map I a2))), (5, .d (I ra2)), (9, .ptr 9 bb1 0), (10, .d (I v7)), (12, .d (I v8)), (13, .ptr 13 y 0), (14, .d (I v9))]) (fun y => [(9, .cells bb1 [.d (.list 1 (List.map (fun x => .list 1 (List.map I x)) c1.fFrames)), .d (.list 1 (List.map I c1.fCounts)), .d (I c1.fStanding), .d (.bool c1.fDone)]), (13, .cells y [.d (.list 1 (List.map (fun x => .list 1 (List.map I x)) c2.fFrames)), .d (.list 1 (List.map I c2.fCounts)), .d (I c2.fStanding), .d (.bool c2.fDone)])]) (fun _ => True) ?_ ?_
                · obtain ⟨r35, hx61, hx60⟩ := obind hx60
                  obtain ⟨l7, hx62, hx60⟩ := obind hx60
                  obtain ⟨r36, hx63, hx60⟩ := obind hx60
                  obtain ⟨l8, hx64, hx60⟩ := obind hx60
                  obtain ⟨⟨ra12, rb12⟩, hx65, hx60⟩ := obind hx60
                  conv => whnf
                  refine DrawG.mk (.take 0 (.take 2 (.take 3 (.alt 1 [3, 2] (.alt 4 [] (.alt 5 [] (.alt 6 [] (.alt 7 [] (.alt 8 [] (.take 9 (.take 10 (.take 11 (.alt 12 [11, 10, 9] (.alt 13 [11] (.take 14 .done) .nil) .nil)))) (.alt 12 [] (.alt 8 [] (.take 9 (.take 10 (.take 11 (.alt 13 [11] (.take 14 .done) .nil)))) .nil) .nil)) (.alt 12 [] (.alt 7 [] (.alt 8 [] (.take 9 (.take 10 (.take 11 (.alt 13 [11] (.take 14 .done) .nil)))) .nil) .nil) .nil)) (.alt 12 [] (.alt 6 [] (.alt 7 [] (.alt 8 [] (.take 9 (.take 10 (.take 11 (.alt 13 [11] (.take 14 .done) .nil)))) .nil) .nil) .nil) .nil)) (.alt 6 [] (.alt 5 [] (.alt 7 [] (.alt 8 [] (.take 9 (.take 10 (.take 11 (.alt 12 [11, 10, 9] (.alt 13 [11] (.take 14 .done) .nil) .nil)))) (.alt 12 [] (.alt 8 [] (.take 9 (.take 10 (.take 11 (.alt 13 [11] (.take 14 .done) .nil)))) .nil) .nil)) (.alt 12 [] (.alt 7 [] (.alt 8 [] (.take 9 (.take 10 (.take 11 (.alt 13 [11] (.take 14 .done) .nil)))) .nil) .nil) .nil)) (.alt 12 [] (.alt 5 [] (.alt 7 [] (.alt 8 [] (.take 9 (.take 10 (.take 11 (.alt 13 [11] (.take 14 .done) .nil)))) .nil) .nil) .nil) .nil)) (.alt 12 [] (.alt 5 [] (.alt 6 [] (.alt 7 [] (.alt 8 [] (.take 9 (.take 10 (.take 11 (.alt 13 [11] (.take 14 .done) .nil)))) .nil) .nil) .nil) (.alt 6 [] (.alt 5 [] (.alt 7 [] (.alt 8 [] (.take 9 (.take 10 (.take 11 (.alt 13 [11] (.take 14 .done) .nil)))) .nil) .nil) .nil) .nil)) .nil))) (.alt 6 [3, 2] (.alt 4 [] (.alt 5 [] (.alt 7 [] (.alt 8 [] (.take 9 (.take 10 (.take 11 (.alt 12 [11, 10, 9] (.alt 13 [11] (.take 14 .done) .nil) .nil)))) (.alt 12 [] (.alt 8 [] (.take 9 (.take 10 (.take 11 (.alt 13 [11] (.take 14 .done) .nil)))) .nil) .nil)) (.alt 12 [] (.alt 7 [] (.alt 8 [] (.take 9 (.take 10 (.take 11 (.alt 13 [11] (.take 14 .done) .nil)))) .nil) .nil) .nil)) (.alt 12 [] (.alt 5 [] (.alt 7 [] (.alt 8 [] (.take 9 (.take 10 (.take 11 (.alt 13 [11] (.take 14 .done) .nil)))) .nil) .nil) .nil) .nil)) (.alt 12 [3, 2] (.alt 4 [] (.alt 5 [] (.alt 7 [] (.alt 8 [] (.take 9 (.take 10 (.take 11 (.alt 13 [11] (.take 14 .done) .nil)))) .nil) .nil) .nil) .nil) .nil)) (.alt 12 [3, 2] (.alt 4 [] (.alt 5 [] (.alt 6 [] (.alt 7 [] (.alt 8 [] (.take 9 (.take 10 (.take 11 (.alt 13 [11] (.take 14 .done) .nil)))) .nil) .nil) .nil) (.alt 6 [] (.alt 5 [] (.alt 7 [] (.alt 8 [] (.take 9 (.take 10 (.take 11 (.alt 13 [11] (.take 14 .done) .nil)))) .nil) .nil) .nil) .nil)) (.alt 6 [3, 2] (.alt 4 [] (.alt 5 [] (.alt 7 [] (.alt 8 [] (.take 9 (.take 10 (.take 11 (.alt 13 [11] (.take 14 .done) .nil)))) .nil) .nil) .nil) .nil) .nil)) .nil))) (.alt 4 [0] (.alt 1 [] (.alt 5 [] (.alt 6 [] (.alt 7 [] (.alt 8 [] (.take 9 (.take 10 (.take 11 (.alt 12 [11, 10, 9] (.alt 13 [11] (.take 14 .done) .nil) .nil)))) (.alt 12 [] (.alt 8 [] (.take 9 (.take 10 (.take 11 (.alt 13 [11] (.take 14 .done) .nil)))) .nil) .nil)) (.alt 12 [] (.alt 7 [] (.alt 8 [] (.take 9 (.take 10 (.take 11 (.alt 13 [11] (.take 14 .done) .nil)))) .nil) .nil) .nil)) (.alt 12 [] (.alt 6 [] (.alt 7 [] (.alt 8 [] (.take 9 (.take 10 (.take 11 (.alt 13 [11] (.take 14 .done) .nil)))) .nil) .nil) .nil) .nil)) (.alt 6 [] (.alt 5 [] (.alt 7 [] (.alt 8 [] (.take 9 (.take 10 (.take 11 (.alt 12 [11, 10, 9] (.alt 13 [11] (.take 14 .done) .nil) .nil)))) (.alt 12 [] (.alt 8 [] (.take 9 (.take 10 (.take 11 (.alt 13 [11] (.take 14 .done) .nil)))) .nil) .nil)) (.alt 12 [] (.alt 7 [] (.alt 8 [] (.take 9 (.take 10 (.take 11 (.alt 13 [11] (.take 14 .done) .nil)))) .nil) .nil) .nil)) (.alt 12 [] (.alt 5 [] (.alt 7 [] (.alt 8 [] (.take 9 (.take 10 (.take 11 (.alt 13 [11] (.take 14 .done) .nil)))) .nil) .nil) .nil) .nil)) (.alt 12 [] (.alt 5 [] (.alt 6 [] (.alt 7 [] (.alt 8 [] (.take 9 (.take 10 (.take 11 (.alt 13 [11] (.take 14 .done) .nil)))) .nil) .nil) .nil) (.alt 6 [] (.alt 5 [] (.alt 7 [] (.alt 8 [] (.take 9 (.take 10 (.take 11 (.alt 13 [11] (.take 14 .done) .nil)))) .nil) .nil) .nil) .nil)) .nil))) (.alt 6 [0] (.alt 1 [] (.alt 5 [] (.alt 7 [] (.alt 8 [] (.take 9 (.take 10 (.take 11 (.alt 12 [11, 10, 9] (.alt 13 [11] (.take 14 .done) .nil) .nil)))) (.alt 12 [] (.alt 8 [] (.take 9 (.take 10 (.take 11 (.alt 13 [11] (.take 14 .done) .nil)))) .nil) .nil)) (.alt 12 [] (.alt 7 [] (.alt 8 [] (.take 9 (.take 10 (.take 11 (.alt 13 [11] (.take 14 .done) .nil)))) .nil) .nil) .nil)) (.alt 12 [] (.alt 5 [] (.alt 7 [] (.alt 8 [] (.take 9 (.take 10 (.take 11 (.alt 13 [11] (.take 14 .done) .nil)))) .nil) .nil) .nil) .nil)) (.alt 12 [0] (.alt 1 [] (.alt 5 [] (.alt 7 [] (.alt 8 [] (.take 9 (.take 10 (.take 11 (.alt 13 [11] (.take 14 .done) .nil)))) .nil) .nil) .nil) .nil) .nil)) (.alt 12 [0] (.alt 1 [] (.alt 5 [] (.alt 6 [] (.alt 7 [] (.alt 8 [] (.take 9 (.take 10 (.take 11 (.alt 13 [11] (.take 14 .done) .nil)))) .nil) .nil) .nil) (.alt 6 [] (.alt 5 [] (.alt 7 [] (.alt 8 [] (.take 9 (.take 10 (.take 11 (.alt 13 [11] (.take 14 .done) .nil)))) .nil) .nil) .nil) .nil)) (.alt 6 [0] (.alt 1 [] (.alt 5 [] (.alt 7 [] (.alt 8 [] (.take 9 (.take 10 (.take 11 (.alt 13 [11] (.take 14 .done) .nil)))) .nil) .nil) .nil) .nil) .nil)) .nil))) (.alt 6 [3, 2, 0] (.alt 1 [3, 2] (.alt 4 [] (.alt 5 [] (.alt 7 [] (.alt 8 [] (.take 9 (.take 10 (.take 11 (.alt 12 [11, 10, 9] (.alt 13 [11] (.take 14 .done) .nil) .nil)))) (.alt 12 [] (.alt 8 [] (.take 9 (.take 10 (.take 11 (.alt 13 [11] (.take 14 .done) .nil)))) .nil) .nil)) (.alt 12 [] (.alt 7 [] (.alt 8 [] (.take 9 (.take 10 (.take 11 (.alt 13 [11] (.take 14 .done) .nil)))) .nil) .nil) .nil)) (.alt 12 [] (.alt 5 [] (.alt 7 [] (.alt 8 [] (.take 9 (.take 10 (.take 11 (.alt 13 [11] (.take 14 .done) .nil)))) .nil) .nil) .nil) .nil)) (.alt 12 [3, 2] (.alt 4 [] (.alt 5 [] (.alt 7 [] (.alt 8 [] (.take 9 (.take 10 (.take 11 (.alt 13 [11] (.take 14 .done) .nil)))) .nil) .nil) .nil) .nil) .nil)) (.alt 4 [0] (.alt 1 [] (.alt 5 [] (.alt 7 [] (.alt 8 [] (.take 9 (.take 10 (.take 11 (.alt 12 [11, 10, 9] (.alt 13 [11] (.take 14 .done) .nil) .nil)))) (.alt 12 [] (.alt 8 [] (.take 9 (.take 10 (.take 11 (.alt 13 [11] (.take 14 .done) .nil)))) .nil) .nil)) (.alt 12 [] (.alt 7 [] (.alt 8 [] (.take 9 (.take 10 (.take 11 (.alt 13 [11] (.take 14 .done) .nil)))) .nil) .nil) .nil)) (.alt 12 [] (.alt 5 [] (.alt 7 [] (.alt 8 [] (.take 9 (.take 10 (.take 11 (.alt 13 [11] (.take 14 .done) .nil)))) .nil) .nil) .nil) .nil)) (.alt 12 [0] (.alt 1 [] (.alt 5 [] (.alt 7 [] (.alt 8 [] (.take 9 (.take 10 (.take 11 (.alt 13 [11] (.take 14 .done) .nil)))) .nil) .nil) .nil) .nil) .nil)) (.alt 12 [3, 2, 0] (.alt 1 [3, 2] (.alt 4 [] (.alt 5 [] (.alt 7 [] (.alt 8 [] (.take 9 (.take 10 (.take 11 (.alt 13 [11] (.take 14 .done) .nil)))) .nil) .nil) .nil) .nil) (.alt 4 [0] (.alt 1 [] (.alt 5 [] (.alt 7 [] (.alt 8 [] (.take 9 (.take 10 (.take 11 (.alt 13 [11] (.take 14 .done) .nil)))) .nil) .nil) .nil) .nil) .nil)) .nil))) (.alt 12 [3, 2, 0] (.alt 1 [3, 2] (.alt 4 [] (.alt 5 [] (.alt 6 [] (.alt 7 [] (.alt 8 [] (.take 9 (.take 10 (.take 11 (.alt 13 [11] (.take 14 .done) .nil)))) .nil) .nil) .nil) (.alt 6 [] (.alt 5 [] (.alt 7 [] (.alt 8 [] (.take 9 (.take 10 (.take 11 (.alt 13 [11] (.take 14 .done) .nil)))) .nil) .nil) .nil) .nil)) (.alt 6 [3, 2] (.alt 4 [] (.alt 5 [] (.alt 7 [] (.alt 8 [] (.take 9 (.take 10 (.take 11 (.alt 13 [11] (.take 14 .done) .nil)))) .nil) .nil) .nil) .nil) .nil)) (.alt 4 [0] (.alt 1 [] (.alt 5 [] (.alt 6 [] (.alt 7 [] (.alt 8 [] (.take 9 (.take 10 (.take 11 (.alt 13 [11] (.take 14 .done) .nil)))) .nil) .nil) .nil) (.alt 6 [] (.alt 5 [] (.alt 7 [] (.alt 8 [] (.take 9 (.take 10 (.take 11 (.alt 13 [11] (.take 14 .done) .nil)))) .nil) .nil) .nil) .nil)) (.alt 6 [0] (.alt 1 [] (.alt 5 [] (.alt 7 [] (.alt 8 [] (.take 9 (.take 10 (.take 11 (.alt 13 [11] (.take 14 .done) .nil)))) .nil) .nil) .nil) .nil) .nil)) (.alt 6 [3, 2, 0] (.alt 1 [3, 2] (.alt 4 [] (.alt 5 [] (.alt 7 [] (.alt 8 [] (.take 9 (.take 10 (.take 11 (.alt 13 [11] (.take 14 .done) .nil)))) .nil) .nil) .nil) .nil) (.alt 4 [0] (.alt 1 [] (.alt 5 [] (.alt 7 [] (.alt 8 [] (.take 9 (.take 10 (.take 11 (.alt 13 [11] (.take 14 .done) .nil)))) .nil) .nil) .nil) .nil) .nil)) .nil))) .nil))))))) (by kernel_rfl) ?_
                  conv => whnf
                  refine Both.mk ?_ ?_
                  · conv => whnf
                    refine CallG.pure _ (law01LawC hN hx61) ?_
                    conv => whnf
                    refine Need.mk (AV.le_refl _) ?_
                    conv => whnf
                    refine Need.mk (AV.le_refl _) ?_
                    conv => whnf
                    refine Both.mk ?_ ?_
                    · conv => whnf
                      refine Need.mk (slc_need _ hx62) (Eqv.mk (List.map I l7) (slc_map _ hx62) ?_)
                      conv => whnf
                      refine Both.mk ?_ ?_
                      · conv => whnf
                        refine CallG.fresh 86 (law01ListC hN hx63) ?_
                        intro hd161
                        conv => whnf
                        refine Both.mk ?_ ?_
                        · conv => whnf
                          intro hd162
                          conv => whnf
                          refine Both.mk ?_ ?_
                          · conv => whnf
                            refine Side.mk ⟨rfl, rfl⟩ ?_
                            conv => whnf
                            refine Side.mk ⟨rfl, rfl, rfl⟩ (Need.mk (app_need hN hx64 (by decide)) (Eqv.mk (List.map I l8) (app_map _ hx64) ?_))
                            conv => whnf
                            intro hd163
                            conv => whnf
                            refine Both.mk ?_ ?_
                            · conv => whnf
                              refine Side.mk rfl ?_
                              conv => whnf
                              refine CallG.pure _ (frameReadC hN hx65) ?_
                              conv => whnf
                              refine Both.mk ?_ trivial
                              conv => whnf
                              intro b89
                              conv => whnf
                              refine Need.mk (AV.le_refl _) ?_
                              conv => whnf
                              refine Need.mk (AV.le_refl _) ?_
                              conv => whnf
                              refine Need.mk (AV.le_refl _) ?_
                              conv => whnf
                              refine Both.mk ?_ trivial
                              conv => whnf
                              refine Side.mk rfl ?_
                              conv => whnf
                              refine Need.mk (AV.le_refl _) ?_
                              cases hx60
                              conv => whnf
                              refine ⟨b89, trivial, Sub.eq rfl ?_ ?_⟩
                              · repeat ((conv => whnf); refine Need.mk rfl ?_)
                                exact trivial
                              · conv => whnf
                                refine Need.mk (OLe.refl _) ?_
                                conv => whnf
                                refine Need.mk (OLe.refl _) ?_
                                exact trivial
                            · conv => whnf
                              refine Both.mk ?_ trivial
                              conv => whnf
                              intro b90
                              conv => whnf
                              refine Both.mk ?_ trivial
                              conv => whnf
                              refine Side.mk rfl ?_
                              conv => whnf
                              refine CallG.pure _ (frameReadC hN hx65) ?_
                              conv => whnf
                              refine Both.mk ?_ trivial
                              conv => whnf
                              refine Side.mk rfl ?_
                              conv => whnf
                              refine Need.mk (AV.le_refl _) ?_
                              cases hx60
                              conv => whnf
                              refine ⟨b90, trivial, Sub.eq rfl ?_ ?_⟩
                              · repeat ((conv => whnf); refine Need.mk rfl ?_)
                                exact trivial
                              · conv => whnf
                                refine Need.mk (OLe.refl _) ?_
                                conv => whnf
                                refine Need.mk (OLe.refl _) ?_
                                exact trivial
                          · conv => whnf
                            refine Both.mk ?_ trivial
                            conv => whnf
                            intro b91
                            conv => whnf
                            refine Both.mk ?_ trivial
                            conv => whnf
                            refine Side.mk ⟨rfl, rfl⟩ ?_
                            conv => whnf
                            refine Side.mk ⟨rfl, rfl, rfl⟩ (Need.mk (app_need hN hx64 (by decide)) (Eqv.mk (List.map I l8) (app_map _ hx64) ?_))
                            conv => whnf
                            intro hd164
                            conv => whnf
                            refine Both.mk ?_ trivial
                            conv => whnf
                            refine Side.mk rfl ?_
                            conv => whnf
                            refine CallG.pure _ (frameReadC hN hx65) ?_
                            conv => whnf
                            refine Both.mk ?_ trivial
                            conv => whnf
                            refine Side.mk rfl ?_
                            conv => whnf
                            refine Need.mk (AV.le_refl _) ?_
                            cases hx60
                            conv => whnf
                            refine ⟨b91, trivial, Sub.eq rfl ?_ ?_⟩
                            · repeat ((conv => whnf); refine Need.mk rfl ?_)
                              exact trivial
                            · conv => whnf
                              refine Need.mk (OLe.refl _) ?_
                              conv => whnf
                              refine Need.mk (OLe.refl _) ?_
                              exact trivial
                        · conv => whnf
                          refine Both.mk ?_ trivial
                          conv => whnf
                          intro b92
                          conv => whnf
                          refine Both.mk ?_ trivial
                          conv => whnf
                          intro hd165
                          conv => whnf
                          refine Both.mk ?_ trivial
                          conv => whnf
                          refine Side.mk ⟨rfl, rfl⟩ ?_
                          conv => whnf
                          refine Side.mk ⟨rfl, rfl, rfl⟩ (Need.mk (app_need hN hx64 (by decide)) (Eqv.mk (List.map I l8) (app_map _ hx64) ?_))
                          conv => whnf
                          intro hd166
                          conv => whnf
                          refine Both.mk ?_ trivial
                          conv => whnf
                          refine Side.mk rfl ?_
                          conv => whnf
                          refine CallG.pure _ (frameReadC hN hx65) ?_
                          conv => whnf
                          refine Both.mk ?_ trivial
                          conv => whnf
                          refine Side.mk rfl ?_
                          conv => whnf
                          refine Need.mk (AV.le_refl _) ?_
                          cases hx60
                          conv => whnf
                          refine ⟨b92, trivial, Sub.eq rfl ?_ ?_⟩
                          · repeat ((conv => whnf); refine Need.mk rfl ?_)
                            exact trivial
                          · conv => whnf
                            refine Need.mk (OLe.refl _) ?_
                            conv => whnf
                            refine Need.mk (OLe.refl _) ?_
                            exact trivial
                      · conv => whnf
                        refine Both.mk ?_ ?_
                        · conv => whnf
                          intro hd167
                          conv => whnf
                          refine Both.mk ?_ ?_
                          · conv => whnf
                            refine CallG.fresh 86 (law01ListC hN hx63) ?_
                            intro hd168
                            conv => whnf
                            refine Both.mk ?_ ?_
                            · conv => whnf
                              refine Side.mk ⟨rfl, rfl⟩ ?_
                              conv => whnf
                              refine Side.mk ⟨rfl, rfl, rfl⟩ (Need.mk (app_need hN hx64 (by decide)) (Eqv.mk (List.map I l8) (app_map _ hx64) ?_))
                              conv => whnf
                              intro hd169
                              conv => whnf
                              refine Both.mk ?_ ?_
                              · conv => whnf
                                refine Side.mk rfl ?_
                                conv => whnf
                                refine CallG.pure _ (frameReadC hN hx65) ?_
                                conv => whnf
                                refine Both.mk ?_ trivial
                                conv => whnf
                                intro b93
                                conv => whnf
                                refine Need.mk (AV.le_refl _) ?_
                                conv => whnf
                                refine Need.mk (AV.le_refl _) ?_
                                conv => whnf
                                refine Need.mk (AV.le_refl _) ?_
                                conv => whnf
                                refine Both.mk ?_ trivial
                                conv => whnf
                                refine Side.mk rfl ?_
                                conv => whnf
                                refine Need.mk (AV.le_refl _) ?_
                                cases hx60
                                conv => whnf
                                refine ⟨b93, trivial, Sub.eq rfl ?_ ?_⟩
                                · repeat ((conv => whnf); refine Need.mk rfl ?_)
                                  exact trivial
                                · conv => whnf
                                  refine Need.mk (OLe.refl _) ?_
                                  conv => whnf
                                  refine Need.mk (OLe.refl _) ?_
                                  exact trivial
                              · conv => whnf
                                refine Both.mk ?_ trivial
                                conv => whnf
                                intro b94
                                conv => whnf
                                refine Both.mk ?_ trivial
                                conv => whnf
                                refine Side.mk rfl ?_
                                conv => whnf
                                refine CallG.pure _ (frameReadC hN hx65) ?_
                                conv => whnf
                                refine Both.mk ?_ trivial
                                conv => whnf
                                refine Side.mk rfl ?_
                                conv => whnf
                                refine Need.mk (AV.le_refl _) ?_
                                cases hx60
                                conv => whnf
                                refine ⟨b94, trivial, Sub.eq rfl ?_ ?_⟩
                                · repeat ((conv => whnf); refine Need.mk rfl ?_)
                                  exact trivial
                                · conv => whnf
                                  refine Need.mk (OLe.refl _) ?_
                                  conv => whnf
                                  refine Need.mk (OLe.refl _) ?_
                                  exact trivial
                            · conv => whnf
                              refine Both.mk ?_ trivial
                              conv => whnf
                              intro b95
                              conv => whnf
                              refine Both.mk ?_ trivial
                              conv => whnf
                              refine Side.mk ⟨rfl, rfl⟩ ?_
                              conv => whnf
                              refine Side.mk ⟨rfl, rfl, rfl⟩ (Need.mk (app_need hN hx64 (by decide)) (Eqv.mk (List.map I l8) (app_map _ hx64) ?_))
                              conv => whnf
                              intro hd170
                              conv => whnf
                              refine Both.mk ?_ trivial
                              conv => whnf
                              refine Side.mk rfl ?_
                              conv => whnf
                              refine CallG.pure _ (frameReadC hN hx65) ?_
                              conv => whnf
                              refine Both.mk ?_ trivial
                              conv => whnf
                              refine Side.mk rfl ?_
                              conv => whnf
                              refine Need.mk (AV.le_refl _) ?_
                              cases hx60
                              conv => whnf
                              refine ⟨b95, trivial, Sub.eq rfl ?_ ?_⟩
                              · repeat ((conv => whnf); refine Need.mk rfl ?_)
                                exact trivial
                              · conv => whnf
                                refine Need.mk (OLe.refl _) ?_
                                conv => whnf
                                refine Need.mk (OLe.refl _) ?_
                                exact trivial
                          · conv => whnf
                            refine Both.mk ?_ trivial
                            conv => whnf
                            intro b96
                            conv => whnf
                            refine Both.mk ?_ trivial
                            conv => whnf
                            refine CallG.fresh 86 (law01ListC hN hx63) ?_
                            intro hd171
                            conv => whnf
                            refine Both.mk ?_ trivial
                            conv => whnf
                            refine Side.mk ⟨rfl, rfl⟩ ?_
                            conv => whnf
                            refine Side.mk ⟨rfl, rfl, rfl⟩ (Need.mk (app_need hN hx64 (by decide)) (Eqv.mk (List.map I l8) (app_map _ hx64) ?_))
                            conv => whnf
                            intro hd172
                            conv => whnf
                            refine Both.mk ?_ trivial
                            conv => whnf
                            refine Side.mk rfl ?_
                            conv => whnf
                            refine CallG.pure _ (frameReadC hN hx65) ?_
                            conv => whnf
                            refine Both.mk ?_ trivial
                            conv => whnf
                            refine Side.mk rfl ?_
                            conv => whnf
                            refine Need.mk (AV.le_refl _) ?_
                            cases hx60
                            conv => whnf
                            refine ⟨b96, trivial, Sub.eq rfl ?_ ?_⟩
                            · repeat ((conv => whnf); refine Need.mk rfl ?_)
                              exact trivial
                            · conv => whnf
                              refine Need.mk (OLe.refl _) ?_
                              conv => whnf
                              refine Need.mk (OLe.refl _) ?_
                              exact trivial
                        · conv => whnf
                          refine Both.mk ?_ trivial
                          conv => whnf
                          intro b97
                          conv => whnf
                          refine Both.mk ?_ ?_
                          · conv => whnf
                            refine CallG.fresh 86 (law01ListC hN hx63) ?_
                            intro hd173
                            conv => whnf
                            refine Both.mk ?_ trivial
                            conv => whnf
                            intro hd174
                            conv => whnf
                            refine Both.mk ?_ trivial
                            conv => whnf
                            refine Side.mk ⟨rfl, rfl⟩ ?_
                            conv => whnf
                            refine Side.mk ⟨rfl, rfl, rfl⟩ (Need.mk (app_need hN hx64 (by decide)) (Eqv.mk (List.map I l8) (app_map _ hx64) ?_))
                            conv => whnf
                            intro hd175
                            conv => whnf
                            refine Both.mk ?_ trivial
                            conv => whnf
                            refine Side.mk rfl ?_
                            conv => whnf
                            refine CallG.pure _ (frameReadC hN hx65) ?_
                            conv => whnf
                            refine Both.mk ?_ trivial
                            conv => whnf
                            refine Side.mk rfl ?_
                            conv => whnf
                            refine Need.mk (AV.le_refl _) ?_
                            cases hx60
                            conv => whnf
                            refine ⟨b97, trivial, Sub.eq rfl ?_ ?_⟩
                            · repeat ((conv => whnf); refine Need.mk rfl ?_)
                              exact trivial
                            · conv => whnf
                              refine Need.mk (OLe.refl _) ?_
                              conv => whnf
                              refine Need.mk (OLe.refl _) ?_
                              exact trivial
                          · conv => whnf
                            refine Both.mk ?_ trivial
                            conv => whnf
                            intro hd176
                            conv => whnf
                            refine Both.mk ?_ trivial
                            conv => whnf
                            refine CallG.fresh 86 (law01ListC hN hx63) ?_
                            intro hd177
                            conv => whnf
                            refine Both.mk ?_ trivial
                            conv => whnf
                            refine Side.mk ⟨rfl, rfl⟩ ?_
                            conv => whnf
                            refine Side.mk ⟨rfl, rfl, rfl⟩ (Need.mk (app_need hN hx64 (by decide)) (Eqv.mk (List.map I l8) (app_map _ hx64) ?_))
                            conv => whnf
                            intro hd178
                            conv => whnf
                            refine Both.mk ?_ trivial
                            conv => whnf
                            refine Side.mk rfl ?_
                            conv => whnf
                            refine CallG.pure _ (frameReadC hN hx65) ?_
                            conv => whnf
                            refine Both.mk ?_ trivial
                            conv => whnf
                            refine Side.mk rfl ?_
                            conv => whnf
                            refine Need.mk (AV.le_refl _) ?_
                            cases hx60
                            conv => whnf
                            refine ⟨b97, trivial, Sub.eq rfl ?_ ?_⟩
                            · repeat ((conv => whnf); refine Need.mk rfl ?_)
                              exact trivial
                            · conv => whnf
                              refine Need.mk (OLe.refl _) ?_
                              conv => whnf
                              refine Need.mk (OLe.refl _) ?_
                              exact trivial
                    · conv => whnf
                      refine Both.mk ?_ ?_
                      · conv => whnf
                        intro hd179
                        conv => whnf
                        refine Need.mk (AV.le_refl _) ?_
                        conv => whnf
                        refine Need.mk (AV.le_refl _) ?_
                        conv => whnf
                        refine Both.mk ?_ ?_
                        · conv => whnf
                          refine Need.mk (slc_need _ hx62) (Eqv.mk (List.map I l7) (slc_map _ hx62) ?_)
                          conv => whnf
                          refine Both.mk ?_ ?_
                          · conv => whnf
                            refine CallG.fresh 86 (law01ListC hN hx63) ?_
                            intro hd180
                            conv => whnf
                            refine Both.mk ?_ ?_
                            · conv => whnf
                              refine Side.mk ⟨rfl, rfl⟩ ?_
                              conv => whnf
                              refine Side.mk ⟨rfl, rfl, rfl⟩ (Need.mk (app_need hN hx64 (by decide)) (Eqv.mk (List.map I l8) (app_map _ hx64) ?_))
                              conv => whnf
                              intro hd181
                              conv => whnf
                              refine Both.mk ?_ ?_
                              · conv => whnf
                                refine Side.mk rfl ?_
                                conv => whnf
                                refine CallG.pure _ (frameReadC hN hx65) ?_
                                conv => whnf
                                refine Both.mk ?_ trivial
                                conv => whnf
                                intro b98
                                conv => whnf
                                refine Need.mk (AV.le_refl _) ?_
                                conv => whnf
                                refine Need.mk (AV.le_refl _) ?_
                                conv => whnf
                                refine Need.mk (AV.le_refl _) ?_
                                conv => whnf
                                refine Both.mk ?_ trivial
                                conv => whnf
                                refine Side.mk rfl ?_
                                conv => whnf
                                refine Need.mk (AV.le_refl _) ?_
                                cases hx60
                                conv => whnf
                                refine ⟨b98, trivial, Sub.eq rfl ?_ ?_⟩
                                · repeat ((conv => whnf); refine Need.mk rfl ?_)
                                  exact trivial
                                · conv => whnf
                                  refine Need.mk (OLe.refl _) ?_
                                  conv => whnf
                                  refine Need.mk (OLe.refl _) ?_
                                  exact trivial
                              · conv => whnf
                                refine Both.mk ?_ trivial
                                conv => whnf
                                intro b99
                                conv => whnf
                                refine Both.mk ?_ trivial
                                conv => whnf
                                refine Side.mk rfl ?_
                                conv => whnf
                                refine CallG.pure _ (frameReadC hN hx65) ?_
                                conv => whnf
                                refine Both.mk ?_ trivial
                                conv => whnf
                                refine Side.mk rfl ?_
                                conv => whnf
                                refine Need.mk (AV.le_refl _) ?_
                                cases hx60
                                conv => whnf
                                refine ⟨b99, trivial, Sub.eq rfl ?_ ?_⟩
                                · repeat ((conv => whnf); refine Need.mk rfl ?_)
                                  exact trivial
                                · conv => whnf
                                  refine Need.mk (OLe.refl _) ?_
                                  conv => whnf
                                  refine Need.mk (OLe.refl _) ?_
                                  exact trivial
                            · conv => whnf
                              refine Both.mk ?_ trivial
                              conv => whnf
                              intro b100
                              conv => whnf
                              refine Both.mk ?_ trivial
                              conv => whnf
                              refine Side.mk ⟨rfl, rfl⟩ ?_
                              conv => whnf
                              refine Side.mk ⟨rfl, rfl, rfl⟩ (Need.mk (app_need hN hx64 (by decide)) (Eqv.mk (List.map I l8) (app_map _ hx64) ?_))
                              conv => whnf
                              intro hd182
                              conv => whnf
                              refine Both.mk ?_ trivial
                              conv => whnf
                              refine Side.mk rfl ?_
                              conv => whnf
                              refine CallG.pure _ (frameReadC hN hx65) ?_
                              conv => whnf
                              refine Both.mk ?_ trivial
                              conv => whnf
                              refine Side.mk rfl ?_
                              conv => whnf
                              refine Need.mk (AV.le_refl _) ?_
                              cases hx60
                              conv => whnf
                              refine ⟨b100, trivial, Sub.eq rfl ?_ ?_⟩
                              · repeat ((conv => whnf); refine Need.mk rfl ?_)
                                exact trivial
                              · conv => whnf
                                refine Need.mk (OLe.refl _) ?_
                                conv => whnf
                                refine Need.mk (OLe.refl _) ?_
                                exact trivial
                          · conv => whnf
                            refine Both.mk ?_ trivial
                            conv => whnf
                            intro b101
                            conv => whnf
                            refine Both.mk ?_ trivial
                            conv => whnf
                            refine CallG.fresh 86 (law01ListC hN hx63) ?_
                            intro hd183
                            conv => whnf
                            refine Both.mk ?_ trivial
                            conv => whnf
                            refine Side.mk ⟨rfl, rfl⟩ ?_
                            conv => whnf
                            refine Side.mk ⟨rfl, rfl, rfl⟩ (Need.mk (app_need hN hx64 (by decide)) (Eqv.mk (List.map I l8) (app_map _ hx64) ?_))
                            conv => whnf
                            intro hd184
                            conv => whnf
                            refine Both.mk ?_ trivial
                            conv => whnf
                            refine Side.mk rfl ?_
                            conv => whnf
                            refine CallG.pure _ (frameReadC hN hx65) ?_
                            conv => whnf
                            refine Both.mk ?_ trivial
                            conv => whnf
                            refine Side.mk rfl ?_
                            conv => whnf
                            refine Need.mk (AV.le_refl _) ?_
                            cases hx60
                            conv => whnf
                            refine ⟨b101, trivial, Sub.eq rfl ?_ ?_⟩
                            · repeat ((conv => whnf); refine Need.mk rfl ?_)
                              exact trivial
                            · conv => whnf
                              refine Need.mk (OLe.refl _) ?_
                              conv => whnf
                              refine Need.mk (OLe.refl _) ?_
                              exact trivial
                        · conv => whnf
                          refine Both.mk ?_ trivial
                          conv => whnf
                          intro b102
                          conv => whnf
                          refine Need.mk (AV.le_refl _) ?_
                          conv => whnf
                          refine Need.mk (AV.le_refl _) ?_
                          conv => whnf
                          refine Both.mk ?_ trivial
                          conv => whnf
                          refine Need.mk (slc_need _ hx62) (Eqv.mk (List.map I l7) (slc_map _ hx62) ?_)
                          conv => whnf
                          refine Both.mk ?_ trivial
                          conv => whnf
                          refine CallG.fresh 86 (law01ListC hN hx63) ?_
                          intro hd185
                          conv => whnf
                          refine Both.mk ?_ trivial
                          conv => whnf
                          refine Side.mk ⟨rfl, rfl⟩ ?_
                          conv => whnf
                          refine Side.mk ⟨rfl, rfl, rfl⟩ (Need.mk (app_need hN hx64 (by decide)) (Eqv.mk (List.map I l8) (app_map _ hx64) ?_))
                          conv => whnf
                          intro hd186
                          conv => whnf
                          refine Both.mk ?_ trivial
                          conv => whnf
                          refine Side.mk rfl ?_
                          conv => whnf
                          refine CallG.pure _ (frameReadC hN hx65) ?_
                          conv => whnf
                          refine Both.mk ?_ trivial
                          conv => whnf
                          refine Side.mk rfl ?_
                          conv => whnf
                          refine Need.mk (AV.le_refl _) ?_
                          cases hx60
                          conv => whnf
                          refine ⟨b102, trivial, Sub.eq rfl ?_ ?_⟩
                          · repeat ((conv => whnf); refine Need.mk rfl ?_)
                            exact trivial
                          · conv => whnf
                            refine Need.mk (OLe.refl _) ?_
                            conv => whnf
                            refine Need.mk (OLe.refl _) ?_
                            exact trivial
                      · conv => whnf
                        refine Both.mk ?_ trivial
                        conv => whnf
                        intro b103
                        conv => whnf
                        refine Need.mk (AV.le_refl _) ?_
                        conv => whnf
                        refine Need.mk (AV.le_refl _) ?_
                        conv => whnf
                        refine Both.mk ?_ ?_
                        · conv => whnf
                          refine Need.mk (slc_need _ hx62) (Eqv.mk (List.map I l7) (slc_map _ hx62) ?_)
                          conv => whnf
                          refine Both.mk ?_ ?_
                          · conv => whnf
                            refine CallG.fresh 86 (law01ListC hN hx63) ?_
                            intro hd187
                            conv => whnf
                            refine Both.mk ?_ trivial
                            conv => whnf
                            intro hd188
                            conv => whnf
                            refine Both.mk ?_ trivial
                            conv => whnf
                            refine Side.mk ⟨rfl, rfl⟩ ?_
                            conv => whnf
                            refine Side.mk ⟨rfl, rfl, rfl⟩ (Need.mk (app_need hN hx64 (by decide)) (Eqv.mk (List.map I l8) (app_map _ hx64) ?_))
                            conv => whnf
                            intro hd189
                            conv => whnf
                            refine Both.mk ?_ trivial
                            conv => whnf
                            refine Side.mk rfl ?_
                            conv => whnf
                            refine CallG.pure _ (frameReadC hN hx65) ?_
                            conv => whnf
                            refine Both.mk ?_ trivial
                            conv => whnf
                            refine Side.mk rfl ?_
                            conv => whnf
                            refine Need.mk (AV.le_refl _) ?_
                            cases hx60
                            conv => whnf
                            refine ⟨b103, trivial, Sub.eq rfl ?_ ?_⟩
                            · repeat ((conv => whnf); refine Need.mk rfl ?_)
                              exact trivial
                            · conv => whnf
                              refine Need.mk (OLe.refl _) ?_
                              conv => whnf
                              refine Need.mk (OLe.refl _) ?_
                              exact trivial
                          · conv => whnf
                            refine Both.mk ?_ trivial
                            conv => whnf
                            intro hd190
                            conv => whnf
                            refine Both.mk ?_ trivial
                            conv => whnf
                            refine CallG.fresh 86 (law01ListC hN hx63) ?_
                            intro hd191
                            conv => whnf
                            refine Both.mk ?_ trivial
                            conv => whnf
                            refine Side.mk ⟨rfl, rfl⟩ ?_
                            conv => whnf
                            refine Side.mk ⟨rfl, rfl, rfl⟩ (Need.mk (app_need hN hx64 (by decide)) (Eqv.mk (List.map I l8) (app_map _ hx64) ?_))
                            conv => whnf
                            intro hd192
                            conv => whnf
                            refine Both.mk ?_ trivial
                            conv => whnf
                            refine Side.mk rfl ?_
                            conv => whnf
                            refine CallG.pure _ (frameReadC hN hx65) ?_
                            conv => whnf
                            refine Both.mk ?_ trivial
                            conv => whnf
                            refine Side.mk rfl ?_
                            conv => whnf
                            refine Need.mk (AV.le_refl _) ?_
                            cases hx60
                            conv => whnf
                            refine ⟨b103, trivial, Sub.eq rfl ?_ ?_⟩
                            · repeat ((conv => whnf); refine Need.mk rfl ?_)
                              exact trivial
                            · conv => whnf
                              refine Need.mk (OLe.refl _) ?_
                              conv => whnf
                              refine Need.mk (OLe.refl _) ?_
                              exact trivial
                        · conv => whnf
                          refine Both.mk ?_ trivial
                          conv => whnf
                          intro hd193
                          conv => whnf
                          refine Need.mk (AV.le_refl _) ?_
                          conv => whnf
                          refine Need.mk (AV.le_refl _) ?_
                          conv => whnf
                          refine Both.mk ?_ trivial
                          conv => whnf
                          refine Need.mk (slc_need _ hx62) (Eqv.mk (List.map I l7) (slc_map _ hx62) ?_)
                          conv => whnf
                          refine Both.mk ?_ trivial
                          conv => whnf
                          refine CallG.fresh 86 (law01ListC hN hx63) ?_
                          intro hd194
                          conv => whnf
                          refine Both.mk ?_ trivial
                          conv => whnf
                          refine Side.mk ⟨rfl, rfl⟩ ?_
                          conv => whnf
                          refine Side.mk ⟨rfl, rfl, rfl⟩ (Need.mk (app_need hN hx64 (by decide)) (Eqv.mk (List.map I l8) (app_map _ hx64) ?_))
                          conv => whnf
                          intro hd195
                          conv => whnf
                          refine Both.mk ?_ trivial
                          conv => whnf
                          refine Side.mk rfl ?_
                          conv => whnf
                          refine CallG.pure _ (frameReadC hN hx65) ?_
                          conv => whnf
                          refine Both.mk ?_ trivial
                          conv => whnf
                          refine Side.mk rfl ?_
                          conv => whnf
                          refine Need.mk (AV.le_refl _) ?_
                          cases hx60
                          conv => whnf
                          refine ⟨b103, trivial, Sub.eq rfl ?_ ?_⟩
                          · repeat ((conv => whnf); refine Need.mk rfl ?_)
                            exact trivial
                          · conv => whnf
                            refine Need.mk (OLe.refl _) ?_
                            conv => whnf
                            refine Need.mk (OLe.refl _) ?_
                            exact trivial
                  · conv => whnf
                    refine Both.mk ?_ ?_
                    · conv => whnf
                      refine Need.mk (slc_need _ hx62) (Eqv.mk (List.map I l7) (slc_map _ hx62) ?_)
                      conv => whnf
                      refine Need.mk (AV.le_refl _) ?_
                      conv => whnf
                      refine Both.mk ?_ ?_
                      · conv => whnf
                        refine CallG.pure _ (law01LawC hN hx61) ?_
                        conv => whnf
                        refine Both.mk ?_ ?_
                        · conv => whnf
                          refine CallG.fresh 86 (law01ListC hN hx63) ?_
                          intro hd196
                          conv => whnf
                          refine Both.mk ?_ ?_
                          · conv => whnf
                            intro hd197
                            conv => whnf
                            refine Both.mk ?_ ?_
                            · conv => whnf
                              refine Side.mk ⟨rfl, rfl⟩ ?_
                              conv => whnf
                              refine Side.mk ⟨rfl, rfl, rfl⟩ (Need.mk (app_need hN hx64 (by decide)) (Eqv.mk (List.map I l8) (app_map _ hx64) ?_))
                              conv => whnf
                              intro hd198
                              conv => whnf
                              refine Both.mk ?_ ?_
                              · conv => whnf
                                refine Side.mk rfl ?_
                                conv => whnf
                                refine CallG.pure _ (frameReadC hN hx65) ?_
                                conv => whnf
                                refine Both.mk ?_ trivial
                                conv => whnf
                                intro b104
                                conv => whnf
                                refine Need.mk (AV.le_refl _) ?_
                                conv => whnf
                                refine Need.mk (AV.le_refl _) ?_
                                conv => whnf
                                refine Need.mk (AV.le_refl _) ?_
                                conv => whnf
                                refine Both.mk ?_ trivial
                                conv => whnf
                                refine Side.mk rfl ?_
                                conv => whnf
                                refine Need.mk (AV.le_refl _) ?_
                                cases hx60
                                conv => whnf
                                refine ⟨b104, trivial, Sub.eq rfl ?_ ?_⟩
                                · repeat ((conv => whnf); refine Need.mk rfl ?_)
                                  exact trivial
                                · conv => whnf
                                  refine Need.mk (OLe.refl _) ?_
                                  conv => whnf
                                  refine Need.mk (OLe.refl _) ?_
                                  exact trivial
                              · conv => whnf
                                refine Both.mk ?_ trivial
                                conv => whnf
                                intro b105
                                conv => whnf
                                refine Both.mk ?_ trivial
                                conv => whnf
                                refine Side.mk rfl ?_
                                conv => whnf
                                refine CallG.pure _ (frameReadC hN hx65) ?_
                                conv => whnf
                                refine Both.mk ?_ trivial
                                conv => whnf
                                refine Side.mk rfl ?_
                                conv => whnf
                                refine Need.mk (AV.le_refl _) ?_
                                cases hx60
                                conv => whnf
                                refine ⟨b105, trivial, Sub.eq rfl ?_ ?_⟩
                                · repeat ((conv => whnf); refine Need.mk rfl ?_)
                                  exact trivial
                                · conv => whnf
                                  refine Need.mk (OLe.refl _) ?_
                                  conv => whnf
                                  refine Need.mk (OLe.refl _) ?_
                                  exact trivial
                            · conv => whnf
                              refine Both.mk ?_ trivial
                              conv => whnf
                              intro b106
                              conv => whnf
                              refine Both.mk ?_ trivial
                              conv => whnf
                              refine Side.mk ⟨rfl, rfl⟩ ?_
                              conv => whnf
                              refine Side.mk ⟨rfl, rfl, rfl⟩ (Need.mk (app_need hN hx64 (by decide)) (Eqv.mk (List.map I l8) (app_map _ hx64) ?_))
                              conv => whnf
                              intro hd199
                              conv => whnf
                              refine Both.mk ?_ trivial
                              conv => whnf
                              refine Side.mk rfl ?_
                              conv => whnf
                              refine CallG.pure _ (frameReadC hN hx65) ?_
                              conv => whnf
                              refine Both.mk ?_ trivial
                              conv => whnf
                              refine Side.mk rfl ?_
                              conv => whnf
                              refine Need.mk (AV.le_refl _) ?_
                              cases hx60
                              conv => whnf
                              refine ⟨b106, trivial, Sub.eq rfl ?_ ?_⟩
                              · repeat ((conv => whnf); refine Need.mk rfl ?_)
                                exact trivial
                              · conv => whnf
                                refine Need.mk (OLe.refl _) ?_
                                conv => whnf
                                refine Need.mk (OLe.refl _) ?_
                                exact trivial
                          · conv => whnf
                            refine Both.mk ?_ trivial
                            conv => whnf
                            intro b107
                            conv => whnf
                            refine Both.mk ?_ trivial
                            conv => whnf
                            intro hd200
                            conv => whnf
                            refine Both.mk ?_ trivial
                            conv => whnf
                            refine Side.mk ⟨rfl, rfl⟩ ?_
                            conv => whnf
                            refine Side.mk ⟨rfl, rfl, rfl⟩ (Need.mk (app_need hN hx64 (by decide)) (Eqv.mk (List.map I l8) (app_map _ hx64) ?_))
                            conv => whnf
                            intro hd201
                            conv => whnf
                            refine Both.mk ?_ trivial
                            conv => whnf
                            refine Side.mk rfl ?_
                            conv => whnf
                            refine CallG.pure _ (frameReadC hN hx65) ?_
                            conv => whnf
                            refine Both.mk ?_ trivial
                            conv => whnf
                            refine Side.mk rfl ?_
                            conv => whnf
                            refine Need.mk (AV.le_refl _) ?_
                            cases hx60
                            conv => whnf
                            refine ⟨b107, trivial, Sub.eq rfl ?_ ?_⟩
                            · repeat ((conv => whnf); refine Need.mk rfl ?_)
                              exact trivial
                            · conv => whnf
                              refine Need.mk (OLe.refl _) ?_
                              conv => whnf
                              refine Need.mk (OLe.refl _) ?_
                              exact trivial
                        · conv => whnf
                          refine Both.mk ?_ ?_
                          · conv => whnf
                            intro hd202
                            conv => whnf
                            refine Both.mk ?_ ?_
                            · conv => whnf
                              refine CallG.fresh 86 (law01ListC hN hx63) ?_
                              intro hd203
                              conv => whnf
                              refine Both.mk ?_ ?_
                              · conv => whnf
                                refine Side.mk ⟨rfl, rfl⟩ ?_
                                conv => whnf
                                refine Side.mk ⟨rfl, rfl, rfl⟩ (Need.mk (app_need hN hx64 (by decide)) (Eqv.mk (List.map I l8) (app_map _ hx64) ?_))
                                conv => whnf
                                intro hd204
                                conv => whnf
                                refine Both.mk ?_ ?_
                                · conv => whnf
                                  refine Side.mk rfl ?_
                                  conv => whnf
                                  refine CallG.pure _ (frameReadC hN hx65) ?_
                                  conv => whnf
                                  refine Both.mk ?_ trivial
                                  conv => whnf
                                  intro b108
                                  conv => whnf
                                  refine Need.mk (AV.le_refl _) ?_
                                  conv => whnf
                                  refine Need.mk (AV.le_refl _) ?_
                                  conv => whnf
                                  refine Need.mk (AV.le_refl _) ?_
                                  conv => whnf
                                  refine Both.mk ?_ trivial
                                  conv => whnf
                                  refine Side.mk rfl ?_
                                  conv => whnf
                                  refine Need.mk (AV.le_refl _) ?_
                                  cases hx60
                                  conv => whnf
                                  refine ⟨b108, trivial, Sub.eq rfl ?_ ?_⟩
                                  · repeat ((conv => whnf); refine Need.mk rfl ?_)
                                    exact trivial
                                  · conv => whnf
                                    refine Need.mk (OLe.refl _) ?_
                                    conv => whnf
                                    refine Need.mk (OLe.refl _) ?_
                                    exact trivial
                                · conv => whnf
                                  refine Both.mk ?_ trivial
                                  conv => whnf
                                  intro b109
                                  conv => whnf
                                  refine Both.mk ?_ trivial
                                  conv => whnf
                                  refine Side.mk rfl ?_
                                  conv => whnf
                                  refine CallG.pure _ (frameReadC hN hx65) ?_
                                  conv => whnf
                                  refine Both.mk ?_ trivial
                                  conv => whnf
                                  refine Side.mk rfl ?_
                                  conv => whnf
                                  refine Need.mk (AV.le_refl _) ?_
                                  cases hx60
                                  conv => whnf
                                  refine ⟨b109, trivial, Sub.eq rfl ?_ ?_⟩
                                  · repeat ((conv => whnf); refine Need.mk rfl ?_)
                                    exact trivial
                                  · conv => whnf
                                    refine Need.mk (OLe.refl _) ?_
                                    conv => whnf
                                    refine Need.mk (OLe.refl _) ?_
                                    exact trivial
                              · conv => whnf
                                refine Both.mk ?_ trivial
                                conv => whnf
                                intro b110
                                conv => whnf
                                refine Both.mk ?_ trivial
                                conv => whnf
                                refine Side.mk ⟨rfl, rfl⟩ ?_
                                conv => whnf
                                refine Side.mk ⟨rfl, rfl, rfl⟩ (Need.mk (app_need hN hx64 (by decide)) (Eqv.mk (List.map I l8) (app_map _ hx64) ?_))
                                conv => whnf
                                intro hd205
                                conv => whnf
                                refine Both.mk ?_ trivial
                                conv => whnf
                                refine Side.mk rfl ?_
                                conv => whnf
                                refine CallG.pure _ (frameReadC hN hx65) ?_
                                conv => whnf
                                refine Both.mk ?_ trivial
                                conv => whnf
                                refine Side.mk rfl ?_
                                conv => whnf
                                refine Need.mk (AV.le_refl _) ?_
                                cases hx60
                                conv => whnf
                                refine ⟨b110, trivial, Sub.eq rfl ?_ ?_⟩
                                · repeat ((conv => whnf); refine Need.mk rfl ?_)
                                  exact trivial
                                · conv => whnf
                                  refine Need.mk (OLe.refl _) ?_
                                  conv => whnf
                                  refine Need.mk (OLe.refl _) ?_
                                  exact trivial
                            · conv => whnf
                              refine Both.mk ?_ trivial
                              conv => whnf
                              intro b111
                              conv => whnf
                              refine Both.mk ?_ trivial
                              conv => whnf
                              refine CallG.fresh 86 (law01ListC hN hx63) ?_
                              intro hd206
                              conv => whnf
                              refine Both.mk ?_ trivial
                              conv => whnf
                              refine Side.mk ⟨rfl, rfl⟩ ?_
                              conv => whnf
                              refine Side.mk ⟨rfl, rfl, rfl⟩ (Need.mk (app_need hN hx64 (by decide)) (Eqv.mk (List.map I l8) (app_map _ hx64) ?_))
                              conv => whnf
                              intro hd207
                              conv => whnf
                              refine Both.mk ?_ trivial
                              conv => whnf
                              refine Side.mk rfl ?_
                              conv => whnf
                              refine CallG.pure _ (frameReadC hN hx65) ?_
                              conv => whnf
                              refine Both.mk ?_ trivial
                              conv => whnf
                              refine Side.mk rfl ?_
                              conv => whnf
                              refine Need.mk (AV.le_refl _) ?_
                              cases hx60
                              conv => whnf
                              refine ⟨b111, trivial, Sub.eq rfl ?_ ?_⟩
                              · repeat ((conv => whnf); refine Need.mk rfl ?_)
                                exact trivial
                              · conv => whnf
                                refine Need.mk (OLe.refl _) ?_
                                conv => whnf
                                refine Need.mk (OLe.refl _) ?_
                                exact trivial
                          · conv => whnf
                            refine Both.mk ?_ trivial
                            conv => whnf
                            intro b112
                            conv => whnf
                            refine Both.mk ?_ ?_
                            · conv => whnf
                              refine CallG.fresh 86 (law01ListC hN hx63) ?_
                              intro hd208
                              conv => whnf
                              refine Both.mk ?_ trivial
                              conv => whnf
                              intro hd209
                              conv => whnf
                              refine Both.mk ?_ trivial
                              conv => whnf
                              refine Side.mk ⟨rfl, rfl⟩ ?_
                              conv => whnf
                              refine Side.mk ⟨rfl, rfl, rfl⟩ (Need.mk (app_need hN hx64 (by decide)) (Eqv.mk (List.map I l8) (app_map _ hx64) ?_))
                              conv => whnf
                              intro hd210
                              conv => whnf
                              refine Both.mk ?_ trivial
                              conv => whnf
                              refine Side.mk rfl ?_
                              conv => whnf
                              refine CallG.pure _ (frameReadC hN hx65) ?_
                              conv => whnf
                              refine Both.mk ?_ trivial
                              conv => whnf
                              refine Side.mk rfl ?_
                              conv => whnf
                              refine Need.mk (AV.le_refl _) ?_
                              cases hx60
                              conv => whnf
                              refine ⟨b112, trivial, Sub.eq rfl ?_ ?_⟩
                              · repeat ((conv => whnf); refine Need.mk rfl ?_)
                                exact trivial
                              · conv => whnf
                                refine Need.mk (OLe.refl _) ?_
                                conv => whnf
                                refine Need.mk (OLe.refl _) ?_
                                exact trivial
                            · conv => whnf
                              refine Both.mk ?_ trivial
                              conv => whnf
                              intro hd211
                              conv => whnf
                              refine Both.mk ?_ trivial
                              conv => whnf
                              refine CallG.fresh 86 (law01ListC hN hx63) ?_
                              intro hd212
                              conv => whnf
                              refine Both.mk ?_ trivial
                              conv => whnf
                              refine Side.mk ⟨rfl, rfl⟩ ?_
                              conv => whnf
                              refine Side.mk ⟨rfl, rfl, rfl⟩ (Need.mk (app_need hN hx64 (by decide)) (Eqv.mk (List.map I l8) (app_map _ hx64) ?_))
                              conv => whnf
                              intro hd213
                              conv => whnf
                              refine Both.mk ?_ trivial
                              conv => whnf
                              refine Side.mk rfl ?_
                              conv => whnf
                              refine CallG.pure _ (frameReadC hN hx65) ?_
                              conv => whnf
                              refine Both.mk ?_ trivial
                              conv => whnf
                              refine Side.mk rfl ?_
                              conv => whnf
                              refine Need.mk (AV.le_refl _) ?_
                              cases hx60
                              conv => whnf
                              refine ⟨b112, trivial, Sub.eq rfl ?_ ?_⟩
                              · repeat ((conv => whnf); refine Need.mk rfl ?_)
                                exact trivial
                              · conv => whnf
                                refine Need.mk (OLe.refl _) ?_
                                conv => whnf
                                refine Need.mk (OLe.refl _) ?_
                                exact trivial
                      · conv => whnf
                        refine Both.mk ?_ ?_
                        · conv => whnf
                          intro hd214
                          conv => whnf
                          refine Need.mk (AV.le_refl _) ?_
                          conv => whnf
                          refine Both.mk ?_ ?_
                          · conv => whnf
                            refine CallG.pure _ (law01LawC hN hx61) ?_
                            conv => whnf
                            refine Both.mk ?_ ?_
                            · conv => whnf
                              refine CallG.fresh 86 (law01ListC hN hx63) ?_
                              intro hd215
                              conv => whnf
                              refine Both.mk ?_ ?_
                              · conv => whnf
                                refine Side.mk ⟨rfl, rfl⟩ ?_
                                conv => whnf
                                refine Side.mk ⟨rfl, rfl, rfl⟩ (Need.mk (app_need hN hx64 (by decide)) (Eqv.mk (List.map I l8) (app_map _ hx64) ?_))
                                conv => whnf
                                intro hd216
                                conv => whnf
                                refine Both.mk ?_ ?_
                                · conv => whnf
                                  refine Side.mk rfl ?_
                                  conv => whnf
                                  refine CallG.pure _ (frameReadC hN hx65) ?_
                                  conv => whnf
                                  refine Both.mk ?_ trivial
                                  conv => whnf
                                  intro b113
                                  conv => whnf
                                  refine Need.mk (AV.le_refl _) ?_
                                  conv => whnf
                                  refine Need.mk (AV.le_refl _) ?_
                                  conv => whnf
                                  refine Need.mk (AV.le_refl _) ?_
                                  conv => whnf
                                  refine Both.mk ?_ trivial
                                  conv => whnf
                                  refine Side.mk rfl ?_
                                  conv => whnf
                                  refine Need.mk (AV.le_refl _) ?_
                                  cases hx60
                                  conv => whnf
                                  refine ⟨b113, trivial, Sub.eq rfl ?_ ?_⟩
                                  · repeat ((conv => whnf); refine Need.mk rfl ?_)
                                    exact trivial
                                  · conv => whnf
                                    refine Need.mk (OLe.refl _) ?_
                                    conv => whnf
                                    refine Need.mk (OLe.refl _) ?_
                                    exact trivial
                                · conv => whnf
                                  refine Both.mk ?_ trivial
                                  conv => whnf
                                  intro b114
                                  conv => whnf
                                  refine Both.mk ?_ trivial
                                  conv => whnf
                                  refine Side.mk rfl ?_
                                  conv => whnf
                                  refine CallG.pure _ (frameReadC hN hx65) ?_
                                  conv => whnf
                                  refine Both.mk ?_ trivial
                                  conv => whnf
                                  refine Side.mk rfl ?_
                                  conv => whnf
                                  refine Need.mk (AV.le_refl _) ?_
                                  cases hx60
                                  conv => whnf
                                  refine ⟨b114, trivial, Sub.eq rfl ?_ ?_⟩
                                  · repeat ((conv => whnf); refine Need.mk rfl ?_)
                                    exact trivial
                                  · conv => whnf
                                    refine Need.mk (OLe.refl _) ?_
                                    conv => whnf
                                    refine Need.mk (OLe.refl _) ?_
                                    exact trivial
                              · conv => whnf
                                refine Both.mk ?_ trivial
                                conv => whnf
                                intro b115
                                conv => whnf
                                refine Both.mk ?_ trivial
                                conv => whnf
                                refine Side.mk ⟨rfl, rfl⟩ ?_
                                conv => whnf
                                refine Side.mk ⟨rfl, rfl, rfl⟩ (Need.mk (app_need hN hx64 (by decide)) (Eqv.mk (List.map I l8) (app_map _ hx64) ?_))
                                conv => whnf
                                intro hd217
                                conv => whnf
                                refine Both.mk ?_ trivial
                                conv => whnf
                                refine Side.mk rfl ?_
                                conv => whnf
                                refine CallG.pure _ (frameReadC hN hx65) ?_
                                conv => whnf
                                refine Both.mk ?_ trivial
                                conv => whnf
                                refine Side.mk rfl ?_
                                conv => whnf
                                refine Need.mk (AV.le_refl _) ?_
                                cases hx60
                                conv => whnf
                                refine ⟨b115, trivial, Sub.eq rfl ?_ ?_⟩
                                · repeat ((conv => whnf); refine Need.mk rfl ?_)
                                  exact trivial
                                · conv => whnf
                                  refine Need.mk (OLe.refl _) ?_
                                  conv => whnf
                                  refine Need.mk (OLe.refl _) ?_
                                  exact trivial
                            · conv => whnf
                              refine Both.mk ?_ trivial
                              conv => whnf
                              intro b116
                              conv => whnf
                              refine Both.mk ?_ trivial
                              conv => whnf
                              refine CallG.fresh 86 (law01ListC hN hx63) ?_
                              intro hd218
                              conv => whnf
                              refine Both.mk ?_ trivial
                              conv => whnf
                              refine Side.mk ⟨rfl, rfl⟩ ?_
                              conv => whnf
                              refine Side.mk ⟨rfl, rfl, rfl⟩ (Need.mk (app_need hN hx64 (by decide)) (Eqv.mk (List.map I l8) (app_map _ hx64) ?_))
                              conv => whnf
                              intro hd219
                              conv => whnf
                              refine Both.mk ?_ trivial
                              conv => whnf
                              refine Side.mk rfl ?_
                              conv => whnf
                              refine CallG.pure _ (frameReadC hN hx65) ?_
                              conv => whnf
                              refine Both.mk ?_ trivial
                              conv => whnf
                              refine Side.mk rfl ?_
                              conv => whnf
                              refine Need.mk (AV.le_refl _) ?_
                              cases hx60
                              conv => whnf
                              refine ⟨b116, trivial, Sub.eq rfl ?_ ?_⟩
                              · repeat ((conv => whnf); refine Need.mk rfl ?_)
                                exact trivial
                              · conv => whnf
                                refine Need.mk (OLe.refl _) ?_
                                conv => whnf
                                refine Need.mk (OLe.refl _) ?_
                                exact trivial
                          · conv => whnf
                            refine Both.mk ?_ trivial
                            conv => whnf
                            intro b117
                            conv => whnf
                            refine Need.mk (AV.le_refl _) ?_
                            conv => whnf
                            refine Both.mk ?_ trivial
                            conv => whnf
                            refine CallG.pure _ (law01LawC hN hx61) ?_
                            conv => whnf
                            refine Both.mk ?_ trivial
                            conv => whnf
                            refine CallG.fresh 86 (law01ListC hN hx63) ?_
                            intro hd220
                            conv => whnf
                            refine Both.mk ?_ trivial
                            conv => whnf
                            refine Side.mk ⟨rfl, rfl⟩ ?_
                            conv => whnf
                            refine Side.mk ⟨rfl, rfl, rfl⟩ (Need.mk (app_need hN hx64 (by decide)) (Eqv.mk (List.map I l8) (app_map _ hx64) ?_))
                            conv => whnf
                            intro hd221
                            conv => whnf
                            refine Both.mk ?_ trivial
                            conv => whnf
                            refine Side.mk rfl ?_
                            conv => whnf
                            refine CallG.pure _ (frameReadC hN hx65) ?_
                            conv => whnf
                            refine Both.mk ?_ trivial
                            conv => whnf
                            refine Side.mk rfl ?_
                            conv => whnf
                            refine Need.mk (AV.le_refl _) ?_
                            cases hx60
                            conv => whnf
                            refine ⟨b117, trivial, Sub.eq rfl ?_ ?_⟩
                            · repeat ((conv => whnf); refine Need.mk rfl ?_)
                              exact trivial
                            · conv => whnf
                              refine Need.mk (OLe.refl _) ?_
                              conv => whnf
                              refine Need.mk (OLe.refl _) ?_
                              exact trivial
                        · conv => whnf
                          refine Both.mk ?_ trivial
                          conv => whnf
                          intro b118
                          conv => whnf
                          refine Need.mk (AV.le_refl _) ?_
                          conv => whnf
                          refine Both.mk ?_ ?_
                          · conv => whnf
                            refine CallG.pure _ (law01LawC hN hx61) ?_
                            conv => whnf
                            refine Both.mk ?_ ?_
                            · conv => whnf
                              refine CallG.fresh 86 (law01ListC hN hx63) ?_
                              intro hd222
                              conv => whnf
                              refine Both.mk ?_ trivial
                              conv => whnf
                              intro hd223
                              conv => whnf
                              refine Both.mk ?_ trivial
                              conv => whnf
                              refine Side.mk ⟨rfl, rfl⟩ ?_
                              conv => whnf
                              refine Side.mk ⟨rfl, rfl, rfl⟩ (Need.mk (app_need hN hx64 (by decide)) (Eqv.mk (List.map I l8) (app_map _ hx64) ?_))
                              conv => whnf
                              intro hd224
                              conv => whnf
                              refine Both.mk ?_ trivial
                              conv => whnf
                              refine Side.mk rfl ?_
                              conv => whnf
                              refine CallG.pure _ (frameReadC hN hx65) ?_
                              conv => whnf
                              refine Both.mk ?_ trivial
                              conv => whnf
                              refine Side.mk rfl ?_
                              conv => whnf
                              refine Need.mk (AV.le_refl _) ?_
                              cases hx60
                              conv => whnf
                              refine ⟨b118, trivial, Sub.eq rfl ?_ ?_⟩
                              · repeat ((conv => whnf); refine Need.mk rfl ?_)
                                exact trivial
                              · conv => whnf
                                refine Need.mk (OLe.refl _) ?_
                                conv => whnf
                                refine Need.mk (OLe.refl _) ?_
                                exact trivial
                            · conv => whnf
                              refine Both.mk ?_ trivial
                              conv => whnf
                              intro hd225
                              conv => whnf
                              refine Both.mk ?_ trivial
                              conv => whnf
                              refine CallG.fresh 86 (law01ListC hN hx63) ?_
                              intro hd226
                              conv => whnf
                              refine Both.mk ?_ trivial
                              conv => whnf
                              refine Side.mk ⟨rfl, rfl⟩ ?_
                              conv => whnf
                              refine Side.mk ⟨rfl, rfl, rfl⟩ (Need.mk (app_need hN hx64 (by decide)) (Eqv.mk (List.map I l8) (app_map _ hx64) ?_))
                              conv => whnf
                              intro hd227
                              conv => whnf
                              refine Both.mk ?_ trivial
                              conv => whnf
                              refine Side.mk rfl ?_
                              conv => whnf
                              refine CallG.pure _ (frameReadC hN hx65) ?_
                              conv => whnf
                              refine Both.mk ?_ trivial
                              conv => whnf
                              refine Side.mk rfl ?_
                              conv => whnf
                              refine Need.mk (AV.le_refl _) ?_
                              cases hx60
                              conv => whnf
                              refine ⟨b118, trivial, Sub.eq rfl ?_ ?_⟩
                              · repeat ((conv => whnf); refine Need.mk rfl ?_)
                                exact trivial
                              · conv => whnf
                                refine Need.mk (OLe.refl _) ?_
                                conv => whnf
                                refine Need.mk (OLe.refl _) ?_
                                exact trivial
                          · conv => whnf
                            refine Both.mk ?_ trivial
                            conv => whnf
                            intro hd228
                            conv => whnf
                            refine Need.mk (AV.le_refl _) ?_
                            conv => whnf
                            refine Both.mk ?_ trivial
                            conv => whnf
                            refine CallG.pure _ (law01LawC hN hx61) ?_
                            conv => whnf
                            refine Both.mk ?_ trivial
                            conv => whnf
                            refine CallG.fresh 86 (law01ListC hN hx63) ?_
                            intro hd229
                            conv => whnf
                            refine Both.mk ?_ trivial
                            conv => whnf
                            refine Side.mk ⟨rfl, rfl⟩ ?_
                            conv => whnf
                            refine Side.mk ⟨rfl, rfl, rfl⟩ (Need.mk (app_need hN hx64 (by decide)) (Eqv.mk (List.map I l8) (app_map _ hx64) ?_))
                            conv => whnf
                            intro hd230
                            conv => whnf
                            refine Both.mk ?_ trivial
                            conv => whnf
                            refine Side.mk rfl ?_
                            conv => whnf
                            refine CallG.pure _ (frameReadC hN hx65) ?_
                            conv => whnf
                            refine Both.mk ?_ trivial
                            conv => whnf
                            refine Side.mk rfl ?_
                            conv => whnf
                            refine Need.mk (AV.le_refl _) ?_
                            cases hx60
                            conv => whnf
                            refine ⟨b118, trivial, Sub.eq rfl ?_ ?_⟩
                            · repeat ((conv => whnf); refine Need.mk rfl ?_)
                              exact trivial
                            · conv => whnf
                              refine Need.mk (OLe.refl _) ?_
                              conv => whnf
                              refine Need.mk (OLe.refl _) ?_
                              exact trivial
                    · conv => whnf
                      refine Both.mk ?_ ?_
                      · conv => whnf
                        intro hd231
                        conv => whnf
                        refine Need.mk (AV.le_refl _) ?_
                        conv => whnf
                        refine Need.mk (AV.le_refl _) ?_
                        conv => whnf
                        refine Need.mk (AV.le_refl _) ?_
                        conv => whnf
                        refine Both.mk ?_ ?_
                        · conv => whnf
                          refine CallG.pure _ (law01LawC hN hx61) ?_
                          conv => whnf
                          refine Need.mk (AV.le_refl _) ?_
                          conv => whnf
                          refine Need.mk (AV.le_refl _) ?_
                          conv => whnf
                          refine Both.mk ?_ ?_
                          · conv => whnf
                            refine Need.mk (slc_need _ hx62) (Eqv.mk (List.map I l7) (slc_map _ hx62) ?_)
                            conv => whnf
                            refine Both.mk ?_ ?_
                            · conv => whnf
                              refine CallG.fresh 86 (law01ListC hN hx63) ?_
                              intro hd232
                              conv => whnf
                              refine Both.mk ?_ ?_
                              · conv => whnf
                                refine Side.mk ⟨rfl, rfl⟩ ?_
                                conv => whnf
                                refine Side.mk ⟨rfl, rfl, rfl⟩ (Need.mk (app_need hN hx64 (by decide)) (Eqv.mk (List.map I l8) (app_map _ hx64) ?_))
                                conv => whnf
                                intro hd233
                                conv => whnf
                                refine Both.mk ?_ ?_
                                · conv => whnf
                                  refine Side.mk rfl ?_
                                  conv => whnf
                                  refine CallG.pure _ (frameReadC hN hx65) ?_
                                  conv => whnf
                                  refine Both.mk ?_ trivial
                                  conv => whnf
                                  intro b119
                                  conv => whnf
                                  refine Need.mk (AV.le_refl _) ?_
                                  conv => whnf
                                  refine Need.mk (AV.le_refl _) ?_
                                  conv => whnf
                                  refine Need.mk (AV.le_refl _) ?_
                                  conv => whnf
                                  refine Both.mk ?_ trivial
                                  conv => whnf
                                  refine Side.mk rfl ?_
                                  conv => whnf
                                  refine Need.mk (AV.le_refl _) ?_
                                  cases hx60
                                  conv => whnf
                                  refine ⟨b119, trivial, Sub.eq rfl ?_ ?_⟩
                                  · repeat ((conv => whnf); refine Need.mk rfl ?_)
                                    exact trivial
                                  · conv => whnf
                                    refine Need.mk (OLe.refl _) ?_
                                    conv => whnf
                                    refine Need.mk (OLe.refl _) ?_
                                    exact trivial
                                · conv => whnf
                                  refine Both.mk ?_ trivial
                                  conv => whnf
                                  intro b120
                                  conv => whnf
                                  refine Both.mk ?_ trivial
                                  conv => whnf
                                  refine Side.mk rfl ?_
                                  conv => whnf
                                  refine CallG.pure _ (frameReadC hN hx65) ?_
                                  conv => whnf
                                  refine Both.mk ?_ trivial
                                  conv => whnf
                                  refine Side.mk rfl ?_
                                  conv => whnf
                                  refine Need.mk (AV.le_refl _) ?_
                                  cases hx60
                                  conv => whnf
                                  refine ⟨b120, trivial, Sub.eq rfl ?_ ?_⟩
                                  · repeat ((conv => whnf); refine Need.mk rfl ?_)
                                    exact trivial
                                  · conv => whnf
                                    refine Need.mk (OLe.refl _) ?_
                                    conv => whnf
                                    refine Need.mk (OLe.refl _) ?_
                                    exact trivial
                              · conv => whnf
                                refine Both.mk ?_ trivial
                                conv => whnf
                                intro b121
                                conv => whnf
                                refine Both.mk ?_ trivial
                                conv => whnf
                                refine Side.mk ⟨rfl, rfl⟩ ?_
                                conv => whnf
                                refine Side.mk ⟨rfl, rfl, rfl⟩ (Need.mk (app_need hN hx64 (by decide)) (Eqv.mk (List.map I l8) (app_map _ hx64) ?_))
                                conv => whnf
                                intro hd234
                                conv => whnf
                                refine Both.mk ?_ trivial
                                conv => whnf
                                refine Side.mk rfl ?_
                                conv => whnf
                                refine CallG.pure _ (frameReadC hN hx65) ?_
                                conv => whnf
                                refine Both.mk ?_ trivial
                                conv => whnf
                                refine Side.mk rfl ?_
                                conv => whnf
                                refine Need.mk (AV.le_refl _) ?_
                                cases hx60
                                conv => whnf
                                refine ⟨b121, trivial, Sub.eq rfl ?_ ?_⟩
                                · repeat ((conv => whnf); refine Need.mk rfl ?_)
                                  exact trivial
                                · conv => whnf
                                  refine Need.mk (OLe.refl _) ?_
                                  conv => whnf
                                  refine Need.mk (OLe.refl _) ?_
                                  exact trivial
                            · conv => whnf
                              refine Both.mk ?_ trivial
                              conv => whnf
                              intro b122
                              conv => whnf
                              refine Both.mk ?_ trivial
                              conv => whnf
                              refine CallG.fresh 86 (law01ListC hN hx63) ?_
                              intro hd235
                              conv => whnf
                              refine Both.mk ?_ trivial
                              conv => whnf
                              refine Side.mk ⟨rfl, rfl⟩ ?_
                              conv => whnf
                              refine Side.mk ⟨rfl, rfl, rfl⟩ (Need.mk (app_need hN hx64 (by decide)) (Eqv.mk (List.map I l8) (app_map _ hx64) ?_))
                              conv => whnf
                              intro hd236
                              conv => whnf
                              refine Both.mk ?_ trivial
                              conv => whnf
                              refine Side.mk rfl ?_
                              conv => whnf
                              refine CallG.pure _ (frameReadC hN hx65) ?_
                              conv => whnf
                              refine Both.mk ?_ trivial
                              conv => whnf
                              refine Side.mk rfl ?_
                              conv => whnf
                              refine Need.mk (AV.le_refl _) ?_
                              cases hx60
                              conv => whnf
                              refine ⟨b122, trivial, Sub.eq rfl ?_ ?_⟩
                              · repeat ((conv => whnf); refine Need.mk rfl ?_)
                                exact trivial
                              · conv => whnf
                                refine Need.mk (OLe.refl _) ?_
                                conv => whnf
                                refine Need.mk (OLe.refl _) ?_
                                exact trivial
                          · conv => whnf
                            refine Both.mk ?_ trivial
                            conv => whnf
                            intro b123
                            conv => whnf
                            refine Need.mk (AV.le_refl _) ?_
                            conv => whnf
                            refine Need.mk (AV.le_refl _) ?_
                            conv => whnf
                            refine Both.mk ?_ trivial
                            conv => whnf
                            refine Need.mk (slc_need _ hx62) (Eqv.mk (List.map I l7) (slc_map _ hx62) ?_)
                            conv => whnf
                            refine Both.mk ?_ trivial
                            conv => whnf
                            refine CallG.fresh 86 (law01ListC hN hx63) ?_
                            intro hd237
                            conv => whnf
                            refine Both.mk ?_ trivial
                            conv => whnf
                            refine Side.mk ⟨rfl, rfl⟩ ?_
                            conv => whnf
                            refine Side.mk ⟨rfl, rfl, rfl⟩ (Need.mk (app_need hN hx64 (by decide)) (Eqv.mk (List.map I l8) (app_map _ hx64) ?_))
                            conv => whnf
                            intro hd238
                            conv => whnf
                            refine Both.mk ?_ trivial
                            conv => whnf
                            refine Side.mk rfl ?_
                            conv => whnf
                            refine CallG.pure _ (frameReadC hN hx65) ?_
                            conv => whnf
                            refine Both.mk ?_ trivial
                            conv => whnf
                            refine Side.mk rfl ?_
                            conv => whnf
                            refine Need.mk (AV.le_refl _) ?_
                            cases hx60
                            conv => whnf
                            refine ⟨b123, trivial, Sub.eq rfl ?_ ?_⟩
                            · repeat ((conv => whnf); refine Need.mk rfl ?_)
                              exact trivial
                            · conv => whnf
                              refine Need.mk (OLe.refl _) ?_
                              conv => whnf
                              refine Need.mk (OLe.refl _) ?_
                              exact trivial
                        · conv => whnf
                          refine Both.mk ?_ ?_
                          · conv => whnf
                            refine Need.mk (slc_need _ hx62) (Eqv.mk (List.map I l7) (slc_map _ hx62) ?_)
                            conv => whnf
                            refine Need.mk (AV.le_refl _) ?_
                            conv => whnf
                            refine Both.mk ?_ ?_
                            · conv => whnf
                              refine CallG.pure _ (law01LawC hN hx61) ?_
                              conv => whnf
                              refine Both.mk ?_ ?_
                              · conv => whnf
                                refine CallG.fresh 86 (law01ListC hN hx63) ?_
                                intro hd239
                                conv => whnf
                                refine Both.mk ?_ ?_
                                · conv => whnf
                                  refine Side.mk ⟨rfl, rfl⟩ ?_
                                  conv => whnf
                                  refine Side.mk ⟨rfl, rfl, rfl⟩ (Need.mk (app_need hN hx64 (by decide)) (Eqv.mk (List.map I l8) (app_map _ hx64) ?_))
                                  conv => whnf
                                  intro hd240
                                  conv => whnf
                                  refine Both.mk ?_ ?_
                                  · conv => whnf
                                    refine Side.mk rfl ?_
                                    conv => whnf
                                    refine CallG.pure _ (frameReadC hN hx65) ?_
                                    conv => whnf
                                    refine Both.mk ?_ trivial
                                    conv => whnf
                                    intro b124
                                    conv => whnf
                                    refine Need.mk (AV.le_refl _) ?_
                                    conv => whnf
                                    refine Need.mk (AV.le_refl _) ?_
                                    conv => whnf
                                    refine Need.mk (AV.le_refl _) ?_
                                    conv => whnf
                                    refine Both.mk ?_ trivial
                                    conv => whnf
                                    refine Side.mk rfl ?_
                                    conv => whnf
                                    refine Need.mk (AV.le_refl _) ?_
                                    cases hx60
                                    conv => whnf
                                    refine ⟨b124, trivial, Sub.eq rfl ?_ ?_⟩
                                    · repeat ((conv => whnf); refine Need.mk rfl ?_)
                                      exact trivial
                                    · conv => whnf
                                      refine Need.mk (OLe.refl _) ?_
                                      conv => whnf
                                      refine Need.mk (OLe.refl _) ?_
                                      exact trivial
                                  · conv => whnf
                                    refine Both.mk ?_ trivial
                                    conv => whnf
                                    intro b125
                                    conv => whnf
                                    refine Both.mk ?_ trivial
                                    conv => whnf
                                    refine Side.mk rfl ?_
                                    conv => whnf
                                    refine CallG.pure _ (frameReadC hN hx65) ?_
                                    conv => whnf
                                    refine Both.mk ?_ trivial
                                    conv => whnf
                                    refine Side.mk rfl ?_
                                    conv => whnf
                                    refine Need.mk (AV.le_refl _) ?_
                                    cases hx60
                                    conv => whnf
                                    refine ⟨b125, trivial, Sub.eq rfl ?_ ?_⟩
                                    · repeat ((conv => whnf); refine Need.mk rfl ?_)
                                      exact trivial
                                    · conv => whnf
                                      refine Need.mk (OLe.refl _) ?_
                                      conv => whnf
                                      refine Need.mk (OLe.refl _) ?_
                                      exact trivial
                                · conv => whnf
                                  refine Both.mk ?_ trivial
                                  conv => whnf
                                  intro b126
                                  conv => whnf
                                  refine Both.mk ?_ trivial
                                  conv => whnf
                                  refine Side.mk ⟨rfl, rfl⟩ ?_
                                  conv => whnf
                                  refine Side.mk ⟨rfl, rfl, rfl⟩ (Need.mk (app_need hN hx64 (by decide)) (Eqv.mk (List.map I l8) (app_map _ hx64) ?_))
                                  conv => whnf
                                  intro hd241
                                  conv => whnf
                                  refine Both.mk ?_ trivial
                                  conv => whnf
                                  refine Side.mk rfl ?_
                                  conv => whnf
                                  refine CallG.pure _ (frameReadC hN hx65) ?_
                                  conv => whnf
                                  refine Both.mk ?_ trivial
                                  conv => whnf
                                  refine Side.mk rfl ?_
                                  conv => whnf
                                  refine Need.mk (AV.le_refl _) ?_
                                  cases hx60
                                  conv => whnf
                                  refine ⟨b126, trivial, Sub.eq rfl ?_ ?_⟩
                                  · repeat ((conv => whnf); refine Need.mk rfl ?_)
                                    exact trivial
                                  · conv => whnf
                                    refine Need.mk (OLe.refl _) ?_
                                    conv => whnf
                                    refine Need.mk (OLe.refl _) ?_
                                    exact trivial
                              · conv => whnf
                                refine Both.mk ?_ trivial
                                conv => whnf
                                intro b127
                                conv => whnf
                                refine Both.mk ?_ trivial
                                conv => whnf
                                refine CallG.fresh 86 (law01ListC hN hx63) ?_
                                intro hd242
                                conv => whnf
                                refine Both.mk ?_ trivial
                                conv => whnf
                                refine Side.mk ⟨rfl, rfl⟩ ?_
                                conv => whnf
                                refine Side.mk ⟨rfl, rfl, rfl⟩ (Need.mk (app_need hN hx64 (by decide)) (Eqv.mk (List.map I l8) (app_map _ hx64) ?_))
                                conv => whnf
                                intro hd243
                                conv => whnf
                                refine Both.mk ?_ trivial
                                conv => whnf
                                refine Side.mk rfl ?_
                                conv => whnf
                                refine CallG.pure _ (frameReadC hN hx65) ?_
                                conv => whnf
                                refine Both.mk ?_ trivial
                                conv => whnf
                                refine Side.mk rfl ?_
                                conv => whnf
                                refine Need.mk (AV.le_refl _) ?_
                                cases hx60
                                conv => whnf
                                refine ⟨b127, trivial, Sub.eq rfl ?_ ?_⟩
                                · repeat ((conv => whnf); refine Need.mk rfl ?_)
                                  exact trivial
                                · conv => whnf
                                  refine Need.mk (OLe.refl _) ?_
                                  conv => whnf
                                  refine Need.mk (OLe.refl _) ?_
                                  exact trivial
                            · conv => whnf
                              refine Both.mk ?_ trivial
                              conv => whnf
                              intro b128
                              conv => whnf
                              refine Need.mk (AV.le_refl _) ?_
                              conv => whnf
                              refine Both.mk ?_ trivial
                              conv => whnf
                              refine CallG.pure _ (law01LawC hN hx61) ?_
                              conv => whnf
                              refine Both.mk ?_ trivial
                              conv => whnf
                              refine CallG.fresh 86 (law01ListC hN hx63) ?_
                              intro hd244
                              conv => whnf
                              refine Both.mk ?_ trivial
                              conv => whnf
                              refine Side.mk ⟨rfl, rfl⟩ ?_
                              conv => whnf
                              refine Side.mk ⟨rfl, rfl, rfl⟩ (Need.mk (app_need hN hx64 (by decide)) (Eqv.mk (List.map I l8) (app_map _ hx64) ?_))
                              conv => whnf
                              intro hd245
                              conv => whnf
                              refine Both.mk ?_ trivial
                              conv => whnf
                              refine Side.mk rfl ?_
                              conv => whnf
                              refine CallG.pure _ (frameReadC hN hx65) ?_
                              conv => whnf
                              refine Both.mk ?_ trivial
                              conv => whnf
                              refine Side.mk rfl ?_
                              conv => whnf
                              refine Need.mk (AV.le_refl _) ?_
                              cases hx60
                              conv => whnf
                              refine ⟨b128, trivial, Sub.eq rfl ?_ ?_⟩
                              · repeat ((conv => whnf); refine Need.mk rfl ?_)
                                exact trivial
                              · conv => whnf
                                refine Need.mk (OLe.refl _) ?_
                                conv => whnf
                                refine Need.mk (OLe.refl _) ?_
                                exact trivial
                          · conv => whnf
                            refine Both.mk ?_ trivial
                            conv => whnf
                            intro b129
                            conv => whnf
                            refine Need.mk (AV.le_refl _) ?_
                            conv => whnf
                            refine Need.mk (AV.le_refl _) ?_
                            conv => whnf
                            refine Need.mk (AV.le_refl _) ?_
                            conv => whnf
                            refine Both.mk ?_ ?_
                            · conv => whnf
                              refine CallG.pure _ (law01LawC hN hx61) ?_
                              conv => whnf
                              refine Need.mk (AV.le_refl _) ?_
                              conv => whnf
                              refine Need.mk (AV.le_refl _) ?_
                              conv => whnf
                              refine Both.mk ?_ trivial
                              conv => whnf
                              refine Need.mk (slc_need _ hx62) (Eqv.mk (List.map I l7) (slc_map _ hx62) ?_)
                              conv => whnf
                              refine Both.mk ?_ trivial
                              conv => whnf
                              refine CallG.fresh 86 (law01ListC hN hx63) ?_
                              intro hd246
                              conv => whnf
                              refine Both.mk ?_ trivial
                              conv => whnf
                              refine Side.mk ⟨rfl, rfl⟩ ?_
                              conv => whnf
                              refine Side.mk ⟨rfl, rfl, rfl⟩ (Need.mk (app_need hN hx64 (by decide)) (Eqv.mk (List.map I l8) (app_map _ hx64) ?_))
                              conv => whnf
                              intro hd247
                              conv => whnf
                              refine Both.mk ?_ trivial
                              conv => whnf
                              refine Side.mk rfl ?_
                              conv => whnf
                              refine CallG.pure _ (frameReadC hN hx65) ?_
                              conv => whnf
                              refine Both.mk ?_ trivial
                              conv => whnf
                              refine Side.mk rfl ?_
                              conv => whnf
                              refine Need.mk (AV.le_refl _) ?_
                              cases hx60
                              conv => whnf
                              refine ⟨b129, trivial, Sub.eq rfl ?_ ?_⟩
                              · repeat ((conv => whnf); refine Need.mk rfl ?_)
                                exact trivial
                              · conv => whnf
                                refine Need.mk (OLe.refl _) ?_
                                conv => whnf
                                refine Need.mk (OLe.refl _) ?_
                                exact trivial
                            · conv => whnf
                              refine Both.mk ?_ trivial
                              conv => whnf
                              refine Need.mk (slc_need _ hx62) (Eqv.mk (List.map I l7) (slc_map _ hx62) ?_)
                              conv => whnf
                              refine Need.mk (AV.le_refl _) ?_
                              conv => whnf
                              refine Both.mk ?_ trivial
                              conv => whnf
                              refine CallG.pure _ (law01LawC hN hx61) ?_
                              conv => whnf
                              refine Both.mk ?_ trivial
                              conv => whnf
                              refine CallG.fresh 86 (law01ListC hN hx63) ?_
                              intro hd248
                              conv => whnf
                              refine Both.mk ?_ trivial
                              conv => whnf
                              refine Side.mk ⟨rfl, rfl⟩ ?_
                              conv => whnf
                              refine Side.mk ⟨rfl, rfl, rfl⟩ (Need.mk (app_need hN hx64 (by decide)) (Eqv.mk (List.map I l8) (app_map _ hx64) ?_))
                              conv => whnf
                              intro hd249
                              conv => whnf
                              refine Both.mk ?_ trivial
                              conv => whnf
                              refine Side.mk rfl ?_
                              conv => whnf
                              refine CallG.pure _ (frameReadC hN hx65) ?_
                              conv => whnf
                              refine Both.mk ?_ trivial
                              conv => whnf
                              refine Side.mk rfl ?_
                              conv => whnf
                              refine Need.mk (AV.le_refl _) ?_
                              cases hx60
                              conv => whnf
                              refine ⟨b129, trivial, Sub.eq rfl ?_ ?_⟩
                              · repeat ((conv => whnf); refine Need.mk rfl ?_)
                                exact trivial
                              · conv => whnf
                                refine Need.mk (OLe.refl _) ?_
                                conv => whnf
                                refine Need.mk (OLe.refl _) ?_
                                exact trivial
                      · conv => whnf
                        refine Both.mk ?_ trivial
                        conv => whnf
                        intro b130
                        conv => whnf
                        refine Need.mk (AV.le_refl _) ?_
                        conv => whnf
                        refine Need.mk (AV.le_refl _) ?_
                        conv => whnf
                        refine Need.mk (AV.le_refl _) ?_
                        conv => whnf
                        refine Both.mk ?_ ?_
                        · conv => whnf
                          refine CallG.pure _ (law01LawC hN hx61) ?_
                          conv => whnf
                          refine Need.mk (AV.le_refl _) ?_
                          conv => whnf
                          refine Need.mk (AV.le_refl _) ?_
                          conv => whnf
                          refine Both.mk ?_ ?_
                          · conv => whnf
                            refine Need.mk (slc_need _ hx62) (Eqv.mk (List.map I l7) (slc_map _ hx62) ?_)
                            conv => whnf
                            refine Both.mk ?_ ?_
                            · conv => whnf
                              refine CallG.fresh 86 (law01ListC hN hx63) ?_
                              intro hd250
                              conv => whnf
                              refine Both.mk ?_ trivial
                              conv => whnf
                              intro hd251
                              conv => whnf
                              refine Both.mk ?_ trivial
                              conv => whnf
                              refine Side.mk ⟨rfl, rfl⟩ ?_
                              conv => whnf
                              refine Side.mk ⟨rfl, rfl, rfl⟩ (Need.mk (app_need hN hx64 (by decide)) (Eqv.mk (List.map I l8) (app_map _ hx64) ?_))
                              conv => whnf
                              intro hd252
                              conv => whnf
                              refine Both.mk ?_ trivial
                              conv => whnf
                              refine Side.mk rfl ?_
                              conv => whnf
                              refine CallG.pure _ (frameReadC hN hx65) ?_
                              conv => whnf
                              refine Both.mk ?_ trivial
                              conv => whnf
                              refine Side.mk rfl ?_
                              conv => whnf
                              refine Need.mk (AV.le_refl _) ?_
                              cases hx60
                              conv => whnf
                              refine ⟨b130, trivial, Sub.eq rfl ?_ ?_⟩
                              · repeat ((conv => whnf); refine Need.mk rfl ?_)
                                exact trivial
                              · conv => whnf
                                refine Need.mk (OLe.refl _) ?_
                                conv => whnf
                                refine Need.mk (OLe.refl _) ?_
                                exact trivial
                            · conv => whnf
                              refine Both.mk ?_ trivial
                              conv => whnf
                              intro hd253
                              conv => whnf
                              refine Both.mk ?_ trivial
                              conv => whnf
                              refine CallG.fresh 86 (law01ListC hN hx63) ?_
                              intro hd254
                              conv => whnf
                              refine Both.mk ?_ trivial
                              conv => whnf
                              refine Side.mk ⟨rfl, rfl⟩ ?_
                              conv => whnf
                              refine Side.mk ⟨rfl, rfl, rfl⟩ (Need.mk (app_need hN hx64 (by decide)) (Eqv.mk (List.map I l8) (app_map _ hx64) ?_))
                              conv => whnf
                              intro hd255
                              conv => whnf
                              refine Both.mk ?_ trivial
                              conv => whnf
                              refine Side.mk rfl ?_
                              conv => whnf
                              refine CallG.pure _ (frameReadC hN hx65) ?_
                              conv => whnf
                              refine Both.mk ?_ trivial
                              conv => whnf
                              refine Side.mk rfl ?_
                              conv => whnf
                              refine Need.mk (AV.le_refl _) ?_
                              cases hx60
                              conv => whnf
                              refine ⟨b130, trivial, Sub.eq rfl ?_ ?_⟩
                              · repeat ((conv => whnf); refine Need.mk rfl ?_)
                                exact trivial
                              · conv => whnf
                                refine Need.mk (OLe.refl _) ?_
                                conv => whnf
                                refine Need.mk (OLe.refl _) ?_
                                exact trivial
                          · conv => whnf
                            refine Both.mk ?_ trivial
                            conv => whnf
                            intro hd256
                            conv => whnf
                            refine Need.mk (AV.le_refl _) ?_
                            conv => whnf
                            refine Need.mk (AV.le_refl _) ?_
                            conv => whnf
                            refine Both.mk ?_ trivial
                            conv => whnf
                            refine Need.mk (slc_need _ hx62) (Eqv.mk (List.map I l7) (slc_map _ hx62) ?_)
                            conv => whnf
                            refine Both.mk ?_ trivial
                            conv => whnf
                            refine CallG.fresh 86 (law01ListC hN hx63) ?_
                            intro hd257
                            conv => whnf
                            refine Both.mk ?_ trivial
                            conv => whnf
                            refine Side.mk ⟨rfl, rfl⟩ ?_
                            conv => whnf
                            refine Side.mk ⟨rfl, rfl, rfl⟩ (Need.mk (app_need hN hx64 (by decide)) (Eqv.mk (List.map I l8) (app_map _ hx64) ?_))
                            conv => whnf
                            intro hd258
                            conv => whnf
                            refine Both.mk ?_ trivial
                            conv => whnf
                            refine Side.mk rfl ?_
                            conv => whnf
                            refine CallG.pure _ (frameReadC hN hx65) ?_
                            conv => whnf
                            refine Both.mk ?_ trivial
                            conv => whnf
                            refine Side.mk rfl ?_
                            conv => whnf
                            refine Need.mk (AV.le_refl _) ?_
                            cases hx60
                            conv => whnf
                            refine ⟨b130, trivial, Sub.eq rfl ?_ ?_⟩
                            · repeat ((conv => whnf); refine Need.mk rfl ?_)
                              exact trivial
                            · conv => whnf
                              refine Need.mk (OLe.refl _) ?_
                              conv => whnf
                              refine Need.mk (OLe.refl _) ?_
                              exact trivial
                        · conv => whnf
                          refine Both.mk ?_ ?_
                          · conv => whnf
                            refine Need.mk (slc_need _ hx62) (Eqv.mk (List.map I l7) (slc_map _ hx62) ?_)
                            conv => whnf
                            refine Need.mk (AV.le_refl _) ?_
                            conv => whnf
                            refine Both.mk ?_ ?_
                            · conv => whnf
                              refine CallG.pure _ (law01LawC hN hx61) ?_
                              conv => whnf
                              refine Both.mk ?_ ?_
                              · conv => whnf
                                refine CallG.fresh 86 (law01ListC hN hx63) ?_
                                intro hd259
                                conv => whnf
                                refine Both.mk ?_ trivial
                                conv => whnf
                                intro hd260
                                conv => whnf
                                refine Both.mk ?_ trivial
                                conv => whnf
                                refine Side.mk ⟨rfl, rfl⟩ ?_
                                conv => whnf
                                refine Side.mk ⟨rfl, rfl, rfl⟩ (Need.mk (app_need hN hx64 (by decide)) (Eqv.mk (List.map I l8) (app_map _ hx64) ?_))
                                conv => whnf
                                intro hd261
                                conv => whnf
                                refine Both.mk ?_ trivial
                                conv => whnf
                                refine Side.mk rfl ?_
                                conv => whnf
                                refine CallG.pure _ (frameReadC hN hx65) ?_
                                conv => whnf
                                refine Both.mk ?_ trivial
                                conv => whnf
                                refine Side.mk rfl ?_
                                conv => whnf
                                refine Need.mk (AV.le_refl _) ?_
                                cases hx60
                                conv => whnf
                                refine ⟨b130, trivial, Sub.eq rfl ?_ ?_⟩
                                · repeat ((conv => whnf); refine Need.mk rfl ?_)
                                  exact trivial
                                · conv => whnf
                                  refine Need.mk (OLe.refl _) ?_
                                  conv => whnf
                                  refine Need.mk (OLe.refl _) ?_
                                  exact trivial
                              · conv => whnf
                                refine Both.mk ?_ trivial
                                conv => whnf
                                intro hd262
                                conv => whnf
                                refine Both.mk ?_ trivial
                                conv => whnf
                                refine CallG.fresh 86 (law01ListC hN hx63) ?_
                                intro hd263
                                conv => whnf
                                refine Both.mk ?_ trivial
                                conv => whnf
                                refine Side.mk ⟨rfl, rfl⟩ ?_
                                conv => whnf
                                refine Side.mk ⟨rfl, rfl, rfl⟩ (Need.mk (app_need hN hx64 (by decide)) (Eqv.mk (List.map I l8) (app_map _ hx64) ?_))
                                conv => whnf
                                intro hd264
                                conv => whnf
                                refine Both.mk ?_ trivial
                                conv => whnf
                                refine Side.mk rfl ?_
                                conv => whnf
                                refine CallG.pure _ (frameReadC hN hx65) ?_
                                conv => whnf
                                refine Both.mk ?_ trivial
                                conv => whnf
                                refine Side.mk rfl ?_
                                conv => whnf
                                refine Need.mk (AV.le_refl _) ?_
                                cases hx60
                                conv => whnf
                                refine ⟨b130, trivial, Sub.eq rfl ?_ ?_⟩
                                · repeat ((conv => whnf); refine Need.mk rfl ?_)
                                  exact trivial
                                · conv => whnf
                                  refine Need.mk (OLe.refl _) ?_
                                  conv => whnf
                                  refine Need.mk (OLe.refl _) ?_
                                  exact trivial
                            · conv => whnf
                              refine Both.mk ?_ trivial
                              conv => whnf
                              intro hd265
                              conv => whnf
                              refine Need.mk (AV.le_refl _) ?_
                              conv => whnf
                              refine Both.mk ?_ trivial
                              conv => whnf
                              refine CallG.pure _ (law01LawC hN hx61) ?_
                              conv => whnf
                              refine Both.mk ?_ trivial
                              conv => whnf
                              refine CallG.fresh 86 (law01ListC hN hx63) ?_
                              intro hd266
                              conv => whnf
                              refine Both.mk ?_ trivial
                              conv => whnf
                              refine Side.mk ⟨rfl, rfl⟩ ?_
                              conv => whnf
                              refine Side.mk ⟨rfl, rfl, rfl⟩ (Need.mk (app_need hN hx64 (by decide)) (Eqv.mk (List.map I l8) (app_map _ hx64) ?_))
                              conv => whnf
                              intro hd267
                              conv => whnf
                              refine Both.mk ?_ trivial
                              conv => whnf
                              refine Side.mk rfl ?_
                              conv => whnf
                              refine CallG.pure _ (frameReadC hN hx65) ?_
                              conv => whnf
                              refine Both.mk ?_ trivial
                              conv => whnf
                              refine Side.mk rfl ?_
                              conv => whnf
                              refine Need.mk (AV.le_refl _) ?_
                              cases hx60
                              conv => whnf
                              refine ⟨b130, trivial, Sub.eq rfl ?_ ?_⟩
                              · repeat ((conv => whnf); refine Need.mk rfl ?_)
                                exact trivial
                              · conv => whnf
                                refine Need.mk (OLe.refl _) ?_
                                conv => whnf
                                refine Need.mk (OLe.refl _) ?_
                                exact trivial
                          · conv => whnf
                            refine Both.mk ?_ trivial
                            conv => whnf
                            intro hd268
                            conv => whnf
                            refine Need.mk (AV.le_refl _) ?_
                            conv => whnf
                            refine Need.mk (AV.le_refl _) ?_
                            conv => whnf
                            refine Need.mk (AV.le_refl _) ?_
                            conv => whnf
                            refine Both.mk ?_ ?_
                            · conv => whnf
                              refine CallG.pure _ (law01LawC hN hx61) ?_
                              conv => whnf
                              refine Need.mk (AV.le_refl _) ?_
                              conv => whnf
                              refine Need.mk (AV.le_refl _) ?_
                              conv => whnf
                              refine Both.mk ?_ trivial
                              conv => whnf
                              refine Need.mk (slc_need _ hx62) (Eqv.mk (List.map I l7) (slc_map _ hx62) ?_)
                              conv => whnf
                              refine Both.mk ?_ trivial
                              conv => whnf
                              refine CallG.fresh 86 (law01ListC hN hx63) ?_
                              intro hd269
                              conv => whnf
                              refine Both.mk ?_ trivial
                              conv => whnf
                              refine Side.mk ⟨rfl, rfl⟩ ?_
                              conv => whnf
                              refine Side.mk ⟨rfl, rfl, rfl⟩ (Need.mk (app_need hN hx64 (by decide)) (Eqv.mk (List.map I l8) (app_map _ hx64) ?_))
                              conv => whnf
                              intro hd270
                              conv => whnf
                              refine Both.mk ?_ trivial
                              conv => whnf
                              refine Side.mk rfl ?_
                              conv => whnf
                              refine CallG.pure _ (frameReadC hN hx65) ?_
                              conv => whnf
                              refine Both.mk ?_ trivial
                              conv => whnf
                              refine Side.mk rfl ?_
                              conv => whnf
                              refine Need.mk (AV.le_refl _) ?_
                              cases hx60
                              conv => whnf
                              refine ⟨b130, trivial, Sub.eq rfl ?_ ?_⟩
                              · repeat ((conv => whnf); refine Need.mk rfl ?_)
                                exact trivial
                              · conv => whnf
                                refine Need.mk (OLe.refl _) ?_
                                conv => whnf
                                refine Need.mk (OLe.refl _) ?_
                                exact trivial
                            · conv => whnf
                              refine Both.mk ?_ trivial
                              conv => whnf
                              refine Need.mk (slc_need _ hx62) (Eqv.mk (List.map I l7) (slc_map _ hx62) ?_)
                              conv => whnf
                              refine Need.mk (AV.le_refl _) ?_
                              conv => whnf
                              refine Both.mk ?_ trivial
                              conv => whnf
                              refine CallG.pure _ (law01LawC hN hx61) ?_
                              conv => whnf
                              refine Both.mk ?_ trivial
                              conv => whnf
                              refine CallG.fresh 86 (law01ListC hN hx63) ?_
                              intro hd271
                              conv => whnf
                              refine Both.mk ?_ trivial
                              conv => whnf
                              refine Side.mk ⟨rfl, rfl⟩ ?_
                              conv => whnf
                              refine Side.mk ⟨rfl, rfl, rfl⟩ (Need.mk (app_need hN hx64 (by decide)) (Eqv.mk (List.map I l8) (app_map _ hx64) ?_))
                              conv => whnf
                              intro hd272
                              conv => whnf
                              refine Both.mk ?_ trivial
                              conv => whnf
                              refine Side.mk rfl ?_
                              conv => whnf
                              refine CallG.pure _ (frameReadC hN hx65) ?_
                              conv => whnf
                              refine Both.mk ?_ trivial
                              conv => whnf
                              refine Side.mk rfl ?_
                              conv => whnf
                              refine Need.mk (AV.le_refl _) ?_
                              cases hx60
                              conv => whnf
                              refine ⟨b130, trivial, Sub.eq rfl ?_ ?_⟩
                              · repeat ((conv => whnf); refine Need.mk rfl ?_)
                                exact trivial
                              · conv => whnf
                                refine Need.mk (OLe.refl _) ?_
                                conv => whnf
                                refine Need.mk (OLe.refl _) ?_
                                exact trivial
                · rintro bb2 _
                  obtain ⟨v11, hx67, h⟩ := obind h
                  conv => whnf
                  refine SeqG.mk Unit (fun y => [(1, .d (.list 1 (List.map I a2))), (5, .d (I ra2)), (9, .ptr 9 bb1 0), (13, .ptr 13 bb2 0), (14, .d (I v9)), (97, .d (.bool v11))]) (fun y => [(9, .cells bb1 [.d (.list 1 (List.map (fun x => .list 1 (List.map I x)) c1.fFrames)), .d (.list 1 (List.map I c1.fCounts)), .d (I c1.fStanding), .d (.bool c1.fDone)]), (13, .cells bb2 [.d (.list 1 (List.map (fun x => .list 1 (List.map I x)) c2.fFrames)), .d (.list 1 (List.map I c2.fCounts)), .d (I c2.fStanding), .d (.bool c2.fDone)])]) (fun _ => True) ?_ ?_
                  · conv => whnf
                    refine Br.mk (fun hc27 => ?_) (fun hc27 => ?_)
                    · replace hx67 := ite_f hc27 hx67
                      cases hx67
                      conv => whnf
                      refine ⟨(), trivial, Sub.eq rfl ?_ ?_⟩
                      · repeat ((conv => whnf); refine Need.mk rfl ?_)
                        exact trivial
                      · conv => whnf
                        refine Need.mk (OLe.refl _) ?_
                        conv => whnf
                        refine Need.mk (OLe.refl _) ?_
                        exact trivial
                    · replace hx67 := ite_t hc27 hx67
                      cases hx67
                      conv => whnf
                      refine ⟨(), trivial, Sub.eq rfl ?_ ?_⟩
                      · repeat ((conv => whnf); refine Need.mk rfl ?_)
                        exact trivial
                      · conv => whnf
                        refine Need.mk (OLe.refl _) ?_
                        conv => whnf
                        refine Need.mk (OLe.refl _) ?_
                        exact trivial
                  · rintro _ _
                    conv => whnf
                    refine Br.mk (fun hc28 => ?_) (fun hc28 => ?_)
                    · replace h := ite_t hc28 h
                      conv => whnf
                      cases h
                      exact rfl
                    · replace h := ite_f hc28 h
                      conv => whnf
                      refine Side.mk rfl ?_
                      conv => whnf
                      refine Br.mk (fun hc32 => ?_) (fun hc32 => ?_)
                      · replace h := ite_t hc32 h
                        obtain ⟨v13, hx72, h⟩ := obind h
                        conv => whnf
                        refine SeqG.mk Unit (fun y => [(4, .d (.bool v13))]) (fun y => []) (fun _ => True) ?_ ?_
                        · conv => whnf
                          refine Br.mk (fun hc34 => ?_) (fun hc34 => ?_)
                          · replace hx72 := ite_t hc34 hx72
                            obtain ⟨r40, hx73, hx72⟩ := obind hx72
                            conv => whnf
                            refine CallG.pure _ (law01WakesC hN hx73) ?_
                            cases hx72
                            conv => whnf
                            refine ⟨(), trivial, Sub.eq rfl ?_ ?_⟩
                            · repeat ((conv => whnf); refine Need.mk rfl ?_)
                              exact trivial
                            · exact trivial
                          · replace hx72 := ite_f hc34 hx72
                            cases hx72
                            conv => whnf
                            refine ⟨(), trivial, Sub.eq rfl ?_ ?_⟩
                            · repeat ((conv => whnf); refine Need.mk rfl ?_)
                              exact trivial
                            · exact trivial
                        · rintro _ _
                          conv => whnf
                          cases h
                          exact rfl
                      · replace h := ite_f hc32 h
                        obtain ⟨v14, hx77, h⟩ := obind h
                        conv => whnf
                        refine SeqG.mk Unit (fun y => [(4, .d (.bool v14))]) (fun y => []) (fun _ => True) ?_ ?_
                        · conv => whnf
                          refine DrawG.mk (.take 0 (.take 1 (.take 2 (.spl 107 (.take 3 (.take 4 (.take 5 (.take 6 (.take 7 (.take 8 (.take 9 (.take 10 (.take 11 (.spl 116 (.take 12 (.take 13 (.take 14 (.take 15 (.take 16 (.take 17 (.spl 122 (.take 18 (.take 19 (.take 20 (.take 21 (.take 22 (.take 23 (.take 24 (.take 25 (.take 26 (.take 27 (.spl 132 (.alt 28 [26, 25, 24, 23, 22, 21, 20, 19, 18, 17, 16, 15, 14, 13, 12, 11, 10, 9, 8, 7, 6, 5, 4, 3, 2, 1, 0] (.take 29 (.take 30 .done)) .nil))))))))))))))))))))))))))))))))) (by kernel_rfl) ?_
                          conv => whnf
                          refine Br.mk (fun hc39 => ?_) (fun hc39 => ?_)
                          · replace hx77 := ite_t hc39 hx77
                            conv => whnf
                            refine Side.mk rfl ?_
                            conv => whnf
                            refine Ln.mk _ (List.length_map _) ?_
                            conv => whnf
                            refine Side.mk rfl ?_
                            conv => whnf
                            refine Ln.mk _ (List.length_map _) ?_
                            conv => whnf
                            refine Br.mk (fun hc40 => ?_) (fun hc40 => ?_)
                            · replace hx77 := ite_t hc40 hx77
                              obtain ⟨x2, hx78, hx77⟩ := obind hx77
                              conv => whnf
                              refine Side.mk rfl ⟨_, idx_0 hx78, idx_map _ hx78, ?_⟩
                              conv => whnf
                              refine Br.mk (fun hc41 => ?_) (fun hc41 => ?_)
                              · replace hx77 := ite_t hc41 hx77
                                obtain ⟨r43, hx79, hx77⟩ := obind hx77
                                conv => whnf
                                refine Both.mk ?_ trivial
                                conv => whnf
                                refine CallG.pure _ (law01WakesC hN hx79) ?_
                                conv => whnf
                                refine Need.mk (AV.le_refl _) ?_
                                conv => whnf
                                refine Need.mk (AV.le_refl _) ?_
                                conv => whnf
                                refine Need.mk rfl ?_
                                conv => whnf
                                refine Need.mk rfl ?_
                                conv => whnf
                                refine Need.mk rfl ?_
                                conv => whnf
                                refine Need.mk rfl ?_
                                conv => whnf
                                refine Need.mk rfl ?_
                                conv => whnf
                                refine Need.mk rfl ?_
                                conv => whnf
                                refine Need.mk rfl ?_
                                conv => whnf
                                refine Need.mk (AV.le_bool hc41) ?_
                                conv => whnf
                                refine Need.mk (AV.le_refl _) ?_
                                conv => whnf
                                refine Need.mk (AV.le_refl _) ?_
                                conv => whnf
                                refine Side.mk rfl ⟨_, idx_0 hx78, idx_map _ hx78, ?_⟩
                                conv => whnf
                                refine Need.mk (AV.le_refl _) ?_
                                conv => whnf
                                refine Need.mk (AV.le_refl _) ?_
                                conv => whnf
                                refine Need.mk (AV.le_refl _) ?_
                                conv => whnf
                                refine Need.mk (AV.le_bool hc40) ?_
                                conv => whnf
                                refine Need.mk (AV.le_refl _) ?_
                                conv => whnf
                                refine Need.mk (AV.le_refl _) ?_
                                conv => whnf
                                refine Ln.mk _ (List.length_map _) ?_
                                conv => whnf
                                refine Need.mk (AV.le_refl _) ?_
                                conv => whnf
                                refine Side.mk rfl ?_
                                conv => whnf
                                refine Need.mk (AV.le_refl _) ?_
                                conv => whnf
                                refine Need.mk (AV.le_refl _) ?_
                                conv => whnf
                                refine Ln.mk _ (List.length_map _) ?_
                                conv => whnf
                                refine Need.mk (AV.le_refl _) ?_
                                conv => whnf
                                refine Side.mk rfl ?_
                                conv => whnf
                                refine Need.mk (AV.le_refl _) ?_
                                conv => whnf
                                refine Need.mk (AV.le_refl _) ?_
                                conv => whnf
                                refine Need.mk (AV.le_bool hc39) ?_
                                conv => whnf
                                refine Need.mk (AV.le_refl _) ?_
                                conv => whnf
                                refine Need.mk (AV.le_refl _) ?_
                                cases hx77
                                conv => whnf
                                refine ⟨(), trivial, Sub.eq rfl ?_ ?_⟩
                                · repeat ((conv => whnf); refine Need.mk rfl ?_)
                                  exact trivial
                                · exact trivial
                              · replace hx77 := ite_f hc41 hx77
                                conv => whnf
                                refine Side.mk rfl ⟨_, idx_0 hx78, idx_map _ hx78, ?_⟩
                                conv => whnf
                                refine Side.mk rfl ?_
                                conv => whnf
                                refine Br.mk (fun hc42 => ?_) (fun hc42 => ?_)
                                · replace hx77 := ite_t hc42 hx77
                                  obtain ⟨r44, hx80, hx77⟩ := obind hx77
                                  conv => whnf
                                  refine Both.mk ?_ trivial
                                  conv => whnf
                                  refine CallG.pure _ (law01WakesC hN hx80) ?_
                                  conv => whnf
                                  refine Need.mk (AV.le_refl _) ?_
                                  conv => whnf
                                  refine Need.mk (AV.le_refl _) ?_
                                  conv => whnf
                                  refine Need.mk (AV.le_refl _) ?_
                                  conv => whnf
                                  refine Side.mk rfl ?_
                                  conv => whnf
                                  refine Need.mk (AV.le_refl _) ?_
                                  conv => whnf
                                  refine Need.mk (AV.le_refl _) ?_
                                  conv => whnf
                                  refine Need.mk (AV.le_refl _) ?_
                                  conv => whnf
                                  refine Side.mk rfl ⟨_, idx_0 hx78, idx_map _ hx78, ?_⟩
                                  conv => whnf
                                  refine Need.mk (AV.le_refl _) ?_
                                  conv => whnf
                                  refine Need.mk (AV.le_refl _) ?_
                                  conv => whnf
                                  refine Need.mk (AV.le_refl _) ?_
                                  conv => whnf
                                  refine Need.mk (AV.le_bool hc41) ?_
                                  conv => whnf
                                  refine Need.mk (AV.le_refl _) ?_
                                  conv => whnf
                                  refine Need.mk (AV.le_refl _) ?_
                                  conv => whnf
                                  refine Side.mk rfl ⟨_, idx_0 hx78, idx_map _ hx78, ?_⟩
                                  conv => whnf
                                  refine Need.mk (AV.le_refl _) ?_
                                  conv => whnf
                                  refine Need.mk (AV.le_refl _) ?_
                                  conv => whnf
                                  refine Need.mk (AV.le_refl _) ?_
                                  conv => whnf
                                  refine Need.mk (AV.le_bool hc40) ?_
                                  conv => whnf
                                  refine Need.mk (AV.le_refl _) ?_
                                  conv => whnf
                                  refine Need.mk (AV.le_refl _) ?_
                                  conv => whnf
                                  refine Ln.mk _ (List.length_map _) ?_
                                  conv => whnf
                                  refine Need.mk (AV.le_refl _) ?_
                                  conv => whnf
                                  refine Side.mk rfl ?_
                                  conv => whnf
                                  refine Need.mk (AV.le_refl _) ?_
                                  conv => whnf
                                  refine Need.mk (AV.le_refl _) ?_
                                  conv => whnf
                                  refine Ln.mk _ (List.length_map _) ?_
                                  conv => whnf
                                  refine Need.mk (AV.le_refl _) ?_
                                  conv => whnf
                                  refine Side.mk rfl ?_
                                  conv => whnf
                                  refine Need.mk (AV.le_refl _) ?_
                                  conv => whnf
                                  refine Need.mk (AV.le_refl _) ?_
                                  conv => whnf
                                  refine Need.mk (AV.le_bool hc39) ?_
                                  conv => whnf
                                  refine Need.mk (AV.le_refl _) ?_
                                  conv => whnf
                                  refine Need.mk (AV.le_refl _) ?_
                                  cases hx77
                                  conv => whnf
                                  refine ⟨(), trivial, Sub.eq rfl ?_ ?_⟩
                                  · repeat ((conv => whnf); refine Need.mk rfl ?_)
                                    exact trivial
                                  · exact trivial
                                · replace hx77 := ite_f hc42 hx77
                                  conv => whnf
                                  refine Both.mk ?_ trivial
                                  conv => whnf
                                  refine Need.mk (AV.le_refl _) ?_
                                  conv => whnf
                                  refine Need.mk (AV.le_refl _) ?_
                                  conv => whnf
                                  refine Need.mk (AV.le_refl _) ?_
                                  conv => whnf
                                  refine Side.mk rfl ?_
                                  conv => whnf
                                  refine Need.mk (AV.le_refl _) ?_
                                  conv => whnf
                                  refine Need.mk (AV.le_refl _) ?_
                                  conv => whnf
                                  refine Need.mk (AV.le_refl _) ?_
                                  conv => whnf
                                  refine Side.mk rfl ⟨_, idx_0 hx78, idx_map _ hx78, ?_⟩
                                  conv => whnf
                                  refine Need.mk (AV.le_refl _) ?_
                                  conv => whnf
                                  refine Need.mk (AV.le_refl _) ?_
                                  conv => whnf
                                  refine Need.mk (AV.le_refl _) ?_
                                  conv => whnf
                                  refine Need.mk (AV.le_bool hc41) ?_
                                  conv => whnf
                                  refine Need.mk (AV.le_refl _) ?_
                                  conv => whnf
                                  refine Need.mk (AV.le_refl _) ?_
                                  conv => whnf
                                  refine Side.mk rfl ⟨_, idx_0 hx78, idx_map _ hx78, ?_⟩
                                  conv => whnf
                                  refine Need.mk (AV.le_refl _) ?_
                                  conv => whnf
                                  refine Need.mk (AV.le_refl _) ?_
                                  conv => whnf
                                  refine Need.mk (AV.le_refl _) ?_
                                  conv => whnf
                                  refine Need.mk (AV.le_bool hc40) ?_
                                  conv => whnf
                                  refine Need.mk (AV.le_refl _) ?_
                                  conv => whnf
                                  refine Need.mk (AV.le_refl _) ?_
                                  conv => whnf
                                  refine Ln.mk _ (List.length_map _) ?_
                                  conv => whnf
                                  refine Need.mk (AV.le_refl _) ?_
                                  conv => whnf
                                  refine Side.mk rfl ?_
                                  conv => whnf
                                  refine Need.mk (AV.le_refl _) ?_
                                  conv => whnf
                                  refine Need.mk (AV.le_refl _) ?_
                                  conv => whnf
                                  refine Ln.mk _ (List.length_map _) ?_
                                  conv => whnf
                                  refine Need.mk (AV.le_refl _) ?_
                                  conv => whnf
                                  refine Side.mk rfl ?_
                                  conv => whnf
                                  refine Need.mk (AV.le_refl _) ?_
                                  conv => whnf
                                  refine Need.mk (AV.le_refl _) ?_
                                  conv => whnf
                                  refine Need.mk (AV.le_bool hc39) ?_
                                  conv => whnf
                                  refine Need.mk (AV.le_refl _) ?_
                                  conv => whnf
                                  refine Need.mk (AV.le_refl _) ?_
                                  cases hx77
                                  conv => whnf
                                  refine ⟨(), trivial, Sub.eq rfl ?_ ?_⟩
                                  · repeat ((conv => whnf); refine Need.mk rfl ?_)
                                    exact trivial
                                  · exact trivial
                            · replace hx77 := ite_f hc40 hx77
                              conv => whnf
                              refine Both.mk ?_ trivial
                              conv => whnf
                              refine Need.mk (AV.le_refl _) ?_
                              conv => whnf
                              refine Need.mk rfl ?_
                              conv => whnf
                              refine Need.mk rfl ?_
                              conv => whnf
                              refine Need.mk rfl ?_
                              conv => whnf
                              refine Need.mk rfl ?_
                              conv => whnf
                              refine Need.mk rfl ?_
                              conv => whnf
                              refine Need.mk rfl ?_
                              conv => whnf
                              refine Need.mk rfl ?_
                              conv => whnf
                              refine Need.mk rfl ?_
                              conv => whnf
                              refine Need.mk rfl ?_
                              conv => whnf
                              refine Need.mk rfl ?_
                              conv => whnf
                              refine Need.mk rfl ?_
                              conv => whnf
                              refine Need.mk rfl ?_
                              conv => whnf
                              refine Need.mk rfl ?_
                              conv => whnf
                              refine Need.mk rfl ?_
                              conv => whnf
                              refine Need.mk (AV.le_bool hc40) ?_
                              conv => whnf
                              refine Need.mk (AV.le_refl _) ?_
                              conv => whnf
                              refine Need.mk (AV.le_refl _) ?_
                              conv => whnf
                              refine Ln.mk _ (List.length_map _) ?_
                              conv => whnf
                              refine Need.mk (AV.le_refl _) ?_
                              conv => whnf
                              refine Side.mk rfl ?_
                              conv => whnf
                              refine Need.mk (AV.le_refl _) ?_
                              conv => whnf
                              refine Need.mk (AV.le_refl _) ?_
                              conv => whnf
                              refine Ln.mk _ (List.length_map _) ?_
                              conv => whnf
                              refine Need.mk (AV.le_refl _) ?_
                              conv => whnf
                              refine Side.mk rfl ?_
                              conv => whnf
                              refine Need.mk (AV.le_refl _) ?_
                              conv => whnf
                              refine Need.mk (AV.le_refl _) ?_
                              conv => whnf
                              refine Need.mk (AV.le_bool hc39) ?_
                              conv => whnf
                              refine Need.mk (AV.le_refl _) ?_
                              conv => whnf
                              refine Need.mk (AV.le_refl _) ?_
                              cases hx77
                              conv => whnf
                              refine ⟨(), trivial, Sub.eq rfl ?_ ?_⟩
                              · repeat ((conv => whnf); refine Need.mk rfl ?_)
                                exact trivial
                              · exact trivial
                          · replace hx77 := ite_f hc39 hx77
                            conv => whnf
                            refine Both.mk ?_ trivial
                            conv => whnf
                            refine Need.mk (AV.le_refl _) ?_
                            conv => whnf
                            refine Need.mk rfl ?_
                            conv => whnf
                            refine Need.mk rfl ?_
                            conv => whnf
                            refine Need.mk rfl ?_
                            conv => whnf
                            refine Need.mk rfl ?_
                            conv => whnf
                            refine Need.mk rfl ?_
                            conv => whnf
                            refine Need.mk rfl ?_
                            conv => whnf
                            refine Need.mk rfl ?_
                            conv => whnf
                            refine Need.mk rfl ?_
                            conv => whnf
                            refine Need.mk rfl ?_
                            conv => whnf
                            refine Need.mk rfl ?_
                            conv => whnf
                            refine Need.mk rfl ?_
                            conv => whnf
                            refine Need.mk rfl ?_
                            conv => whnf
                            refine Need.mk rfl ?_
                            conv => whnf
                            refine Need.mk rfl ?_
                            conv => whnf
                            refine Need.mk (AV.le_refl _) ?_
                            conv => whnf
                            refine Need.mk (AV.le_refl _) ?_
                            conv => whnf
                            refine Need.mk rfl ?_
                            conv => whnf
                            refine Need.mk rfl ?_
                            conv => whnf
                            refine Need.mk rfl ?_
                            conv => whnf
                            refine Need.mk rfl ?_
                            conv => whnf
                            refine Need.mk rfl ?_
                            conv => whnf
                            refine Need.mk rfl ?_
                            conv => whnf
                            refine Need.mk rfl ?_
                            conv => whnf
                            refine Need.mk (AV.le_bool hc39) ?_
                            conv => whnf
                            refine Need.mk (AV.le_refl _) ?_
                            conv => whnf
                            refine Need.mk (AV.le_refl _) ?_
                            cases hx77
                            conv => whnf
                            refine ⟨(), trivial, Sub.eq rfl ?_ ?_⟩
                            · repeat ((conv => whnf); refine Need.mk rfl ?_)
                              exact trivial
                            · exact trivial
                        · rintro _ _
                          conv => whnf
                          cases h
                          exact rfl
end Go.Proofs.Ythjafigloabfpaa
