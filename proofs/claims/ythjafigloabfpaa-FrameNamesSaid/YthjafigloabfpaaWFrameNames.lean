/-
  The walk of the law FrameNames.
-/
import Derived.Test.YthjafigloabfpaaDFrameNames
import Derived.Test.YthjafigloabfpaaWd
namespace Go.Proofs.Ythjafigloabfpaa
open Go Go.Abs Go.Kp
set_option maxRecDepth 100000
set_option maxHeartbeats 8000000
set_option linter.all false

theorem law01FrameNamesC {N : Nat} (hN : N ≤ 1073741824)  {r : Bool} (h : law01FrameNames N = some r) :
    ACalls Try.prog 15 [] [] fun e os => e = .ret (.d (.bool r)) ∧ os = [] := by
  refine acalls_f (fresh := false) tt_ok dr_ok ⟨[], [], [], [], [5, 9, 11, 17], 0⟩ Try.func15 rfl Try.call15 rfl ?_
  unfold law01FrameNames at h
  obtain ⟨r3, hx4, h⟩ := obind h
  conv => whnf
  refine CallG.pure _ (law01TenC hN hx4) ?_
  obtain ⟨r4, hx5, h⟩ := obind h
  conv => whnf
  refine CallG.pure _ (law01EveningC hN hx5) ?_
  obtain ⟨⟨ra2, rb2⟩, hx6, h⟩ := obind h
  conv => whnf
  refine CallG.pure _ (frameReadC hN hx6) ?_
  conv => whnf
  intro b2
  conv => whnf
  refine Side.mk rfl ?_
  obtain ⟨r6, hx9, h⟩ := obind h
  conv => whnf
  refine CallG.pure _ (law01TenC hN hx9) ?_
  conv => whnf
  intro hd2
  obtain ⟨⟨ra4, rb4⟩, hx10, h⟩ := obind h
  conv => whnf
  refine Side.mk rfl ?_
  conv => whnf
  refine CallG.pure _ (frameBadC hN hx10) ?_
  obtain ⟨r9, hx14, h⟩ := obind h
  conv => whnf
  refine CallG.pure _ (law01TenC hN hx14) ?_
  conv => whnf
  intro hd4
  obtain ⟨r10, hx15, h⟩ := obind h
  conv => whnf
  refine Side.mk rfl ?_
  conv => whnf
  refine CallG.pure _ (law01ManyC hN hx15) ?_
  obtain ⟨⟨ra6, rb6⟩, hx16, h⟩ := obind h
  conv => whnf
  refine CallG.pure _ (frameSpanC hN hx16) ?_
  conv => whnf
  intro b4
  conv => whnf
  refine Side.mk rfl ?_
  obtain ⟨r14, hx21, h⟩ := obind h
  conv => whnf
  refine CallG.pure _ (law01TenC hN hx21) ?_
  conv => whnf
  intro hd7
  obtain ⟨r15, hx22, h⟩ := obind h
  conv => whnf
  refine Side.mk rfl ?_
  conv => whnf
  refine CallG.pure _ (law01ManyC hN hx22) ?_
  obtain ⟨r16, hx23, h⟩ := obind h
  conv => whnf
  refine CallG.pure _ (law01ManyC hN hx23) ?_
  conv => whnf
  intro hd8
  obtain ⟨⟨ra8, rb8, rc2⟩, hx24, h⟩ := obind h
  conv => whnf
  refine Side.mk rfl ?_
  conv => whnf
  refine CallG.pure _ (frameAheadC hN hx24) ?_
  obtain ⟨v2, hx50, h⟩ := obind h
  conv => whnf
  refine SeqG.mk Unit (fun y => [(113, .d (.bool v2))]) (fun y => []) (fun _ => True) ?_ ?_
  · conv => whnf
    refine Br.mk (fun hc32 => ?_) (fun hc32 => ?_)
    · replace hx50 := ite_f hc32 hx50
      conv => whnf
      refine Side.mk rfl ?_
      conv => whnf
      refine Ln.mk _ (List.length_map _) ?_
      conv => whnf
      refine Br.mk (fun hc33 => ?_) (fun hc33 => ?_)
      · replace hx50 := ite_f hc33 hx50
        conv => whnf
        refine Side.mk rfl ?_
        obtain ⟨x10, hx51, hx50⟩ := obind hx50
        conv => whnf
        refine Side.mk rfl ⟨_, idx_0 hx51, idx_map _ hx51, ?_⟩
        conv => whnf
        intro hd24
        obtain ⟨r32, hx52, hx50⟩ := obind hx50
        conv => whnf
        refine Side.mk rfl ?_
        conv => whnf
        refine CallG.pure _ (law01IntsC hN hx52) ?_
        conv => whnf
        refine Br.mk (fun hc34 => ?_) (fun hc34 => ?_)
        · replace hx50 := ite_f hc34 hx50
          conv => whnf
          refine Side.mk rfl ?_
          obtain ⟨x11, hx53, hx50⟩ := obind hx50
          conv => whnf
          refine Side.mk rfl ⟨_, idx_0 hx53, idx_map _ hx53, ?_⟩
          conv => whnf
          intro hd25
          obtain ⟨r33, hx54, hx50⟩ := obind hx50
          conv => whnf
          refine Side.mk rfl ?_
          conv => whnf
          refine CallG.pure _ (law01IntsC hN hx54) ?_
          conv => whnf
          refine Br.mk (fun hc35 => ?_) (fun hc35 => ?_)
          · replace hx50 := ite_f hc35 hx50
            conv => whnf
            refine Side.mk rfl ?_
            obtain ⟨x12, hx55, hx50⟩ := obind hx50
            conv => whnf
            refine Side.mk rfl ⟨_, idx_0 hx55, idx_map _ hx55, ?_⟩
            conv => whnf
            intro hd26
            obtain ⟨r34, hx56, hx50⟩ := obind hx50
            conv => whnf
            refine Side.mk rfl ?_
            conv => whnf
            refine CallG.pure _ (law01IntsC hN hx56) ?_
            conv => whnf
            refine Br.mk (fun hc36 => ?_) (fun hc36 => ?_)
            · replace hx50 := ite_f hc36 hx50
              conv => whnf
              refine Br.mk (fun hc37 => ?_) (fun hc37 => ?_)
              · replace hx50 := ite_f hc37 hx50
                conv => whnf
                refine Br.mk (fun hc38 => ?_) (fun hc38 => ?_)
                · replace hx50 := ite_f hc38 hx50
                  conv => whnf
                  refine Side.mk rfl ?_
                  conv => whnf
                  refine Need.mk ⟨rfl, rfl⟩ (EqB.mk _ (FrameRange.eqc ra6 (FrameRange.mk 288 289)) ?_)
                  conv => whnf
                  refine Br.mk (fun hc39 => ?_) (fun hc39 => ?_)
                  · replace hx50 := ite_f hc39 hx50
                    conv => whnf
                    refine Br.mk (fun hc40 => ?_) (fun hc40 => ?_)
                    · replace hx50 := ite_f hc40 hx50
                      conv => whnf
                      intro hd27
                      obtain ⟨r35, hx57, hx50⟩ := obind hx50
                      conv => whnf
                      refine Side.mk rfl ?_
                      conv => whnf
                      refine CallG.pure _ (law01IntsC hN hx57) ?_
                      conv => whnf
                      refine Br.mk (fun hc41 => ?_) (fun hc41 => ?_)
                      · replace hx50 := ite_f hc41 hx50
                        conv => whnf
                        intro hd28
                        obtain ⟨r36, hx58, hx50⟩ := obind hx50
                        conv => whnf
                        refine Side.mk rfl ?_
                        conv => whnf
                        refine CallG.pure _ (law01IntsC hN hx58) ?_
                        cases hx50
                        conv => whnf
                        refine ⟨(), trivial, Sub.eq rfl ?_ ?_⟩
                        · repeat ((conv => whnf); refine Need.mk rfl ?_)
                          exact trivial
                        · exact trivial
                      · replace hx50 := ite_t hc41 hx50
                        cases hx50
                        conv => whnf
                        refine ⟨(), trivial, Sub.eq rfl ?_ ?_⟩
                        · repeat ((conv => whnf); refine Need.mk rfl ?_)
                          exact trivial
                        · exact trivial
                    · replace hx50 := ite_t hc40 hx50
                      cases hx50
                      conv => whnf
                      refine ⟨(), trivial, Sub.eq rfl ?_ ?_⟩
                      · repeat ((conv => whnf); refine Need.mk rfl ?_)
                        exact trivial
                      · exact trivial
                  · replace hx50 := ite_t hc39 hx50
                    cases hx50
                    conv => whnf
                    refine ⟨(), trivial, Sub.eq rfl ?_ ?_⟩
                    · repeat ((conv => whnf); refine Need.mk rfl ?_)
                      exact trivial
                    · exact trivial
                · replace hx50 := ite_t hc38 hx50
                  cases hx50
                  conv => whnf
                  refine ⟨(), trivial, Sub.eq rfl ?_ ?_⟩
                  · repeat ((conv => whnf); refine Need.mk rfl ?_)
                    exact trivial
                  · exact trivial
              · replace hx50 := ite_t hc37 hx50
                cases hx50
                conv => whnf
                refine ⟨(), trivial, Sub.eq rfl ?_ ?_⟩
                · repeat ((conv => whnf); refine Need.mk rfl ?_)
                  exact trivial
                · exact trivial
            · replace hx50 := ite_t hc36 hx50
              cases hx50
              conv => whnf
              refine ⟨(), trivial, Sub.eq rfl ?_ ?_⟩
              · repeat ((conv => whnf); refine Need.mk rfl ?_)
                exact trivial
              · exact trivial
          · replace hx50 := ite_t hc35 hx50
            cases hx50
            conv => whnf
            refine ⟨(), trivial, Sub.eq rfl ?_ ?_⟩
            · repeat ((conv => whnf); refine Need.mk rfl ?_)
              exact trivial
            · exact trivial
        · replace hx50 := ite_t hc34 hx50
          cases hx50
          conv => whnf
          refine ⟨(), trivial, Sub.eq rfl ?_ ?_⟩
          · repeat ((conv => whnf); refine Need.mk rfl ?_)
            exact trivial
          · exact trivial
      · replace hx50 := ite_t hc33 hx50
        cases hx50
        conv => whnf
        refine ⟨(), trivial, Sub.eq rfl ?_ ?_⟩
        · repeat ((conv => whnf); refine Need.mk rfl ?_)
          exact trivial
        · exact trivial
    · replace hx50 := ite_t hc32 hx50
      cases hx50
      conv => whnf
      refine ⟨(), trivial, Sub.eq rfl ?_ ?_⟩
      · repeat ((conv => whnf); refine Need.mk rfl ?_)
        exact trivial
      · exact trivial
  · rintro _ _
    conv => whnf
    refine Br.mk (fun hc42 => ?_) (fun hc42 => ?_)
    · replace h := ite_t hc42 h
      conv => whnf
      cases h
      exact rfl
    · replace h := ite_f hc42 h
      obtain ⟨r38, hx61, h⟩ := obind h
      conv => whnf
      refine CallG.pure _ (law01TenC hN hx61) ?_
      conv => whnf
      intro hd30
      obtain ⟨⟨ra10, rb10⟩, hx62, h⟩ := obind h
      conv => whnf
      refine Side.mk rfl ?_
      conv => whnf
      refine CallG.pure _ (frameReadC hN hx62) ?_
      obtain ⟨r41, hx66, h⟩ := obind h
      conv => whnf
      refine CallG.pure _ (law01TenC hN hx66) ?_
      conv => whnf
      intro hd32
      obtain ⟨r42, hx67, h⟩ := obind h
      conv => whnf
      refine Side.mk rfl ?_
      conv => whnf
      refine CallG.pure _ (law01ManyC hN hx67) ?_
      obtain ⟨⟨ra12, rb12⟩, hx68, h⟩ := obind h
      conv => whnf
      refine CallG.pure _ (frameShowsC hN hx68) ?_
      obtain ⟨v3, hx72, h⟩ := obind h
      conv => whnf
      refine SeqG.mk Unit (fun y => [(2, .d (I rb10)), (4, .d (I rb12)), (6, .d (I v3))]) (fun y => []) (fun _ => True) ?_ ?_
      · obtain ⟨r44, hx73, hx72⟩ := obind hx72
        obtain ⟨l2, hx74, hx72⟩ := obind hx72
        obtain ⟨⟨ra14, rb14⟩, hx75, hx72⟩ := obind hx72
        conv => whnf
        refine DrawG.mk (.alt 0 [] (.alt 1 [] (.alt 2 [] (.take 3 (.take 4 (.take 5 (.take 6 .done)))) .nil) .nil) (.alt 1 [] (.alt 0 [] (.alt 2 [] (.take 3 (.take 4 (.take 5 (.take 6 .done)))) .nil) .nil) .nil)) (by kernel_rfl) ?_
        conv => whnf
        refine Both.mk ?_ ?_
        · conv => whnf
          refine CallG.pure _ (law01TenC hN hx73) ?_
          conv => whnf
          refine Both.mk ?_ trivial
          conv => whnf
          refine Need.mk (mkl_need hN hx74 (by decide)) (Eqv.mk (List.map I l2) (mkl_map _ hx74 rfl) ?_)
          conv => whnf
          intro hd37
          conv => whnf
          refine Both.mk ?_ trivial
          conv => whnf
          refine Side.mk rfl ?_
          conv => whnf
          refine CallG.pure _ (frameBadC hN hx75) ?_
          cases hx72
          conv => whnf
          refine ⟨(), trivial, Sub.eq rfl ?_ ?_⟩
          · repeat ((conv => whnf); refine Need.mk rfl ?_)
            exact trivial
          · exact trivial
        · conv => whnf
          refine Both.mk ?_ trivial
          conv => whnf
          refine Need.mk (mkl_need hN hx74 (by decide)) (Eqv.mk (List.map I l2) (mkl_map _ hx74 rfl) ?_)
          conv => whnf
          intro hd38
          conv => whnf
          refine Both.mk ?_ trivial
          conv => whnf
          refine CallG.pure _ (law01TenC hN hx73) ?_
          conv => whnf
          refine Both.mk ?_ trivial
          conv => whnf
          refine Side.mk rfl ?_
          conv => whnf
          refine CallG.pure _ (frameBadC hN hx75) ?_
          cases hx72
          conv => whnf
          refine ⟨(), trivial, Sub.eq rfl ?_ ?_⟩
          · repeat ((conv => whnf); refine Need.mk rfl ?_)
            exact trivial
          · exact trivial
      · rintro _ _
        obtain ⟨r46, hx78, h⟩ := obind h
        conv => whnf
        refine CallG.pure _ (law01TenC hN hx78) ?_
        obtain ⟨⟨ra16, rb16, rc4⟩, hx79, h⟩ := obind h
        conv => whnf
        refine CallG.pure _ (frameAheadC hN hx79) ?_
        obtain ⟨v4, hx83, h⟩ := obind h
        conv => whnf
        refine SeqG.mk Unit (fun y => [(2, .d (I rb10)), (4, .d (I rb12)), (6, .d (I v3)), (9, .d (I rc4)), (12, .d (I v4))]) (fun y => []) (fun _ => True) ?_ ?_
        · obtain ⟨r48, hx84, hx83⟩ := obind hx83
          obtain ⟨l4, hx85, hx83⟩ := obind hx83
          obtain ⟨⟨ra18, rb18, rc6⟩, hx86, hx83⟩ := obind hx83
          conv => whnf
          refine DrawG.mk (.alt 0 [] (.alt 1 [] (.alt 2 [] (.take 3 (.take 4 (.take 5 (.take 6 (.take 7 (.take 8 (.take 9 .done))))))) .nil) .nil) (.alt 1 [] (.alt 0 [] (.alt 2 [] (.take 3 (.take 4 (.take 5 (.take 6 (.take 7 (.take 8 (.take 9 .done))))))) .nil) .nil) .nil)) (by kernel_rfl) ?_
          conv => whnf
          refine Both.mk ?_ ?_
          · conv => whnf
            refine CallG.pure _ (law01TenC hN hx84) ?_
            conv => whnf
            refine Both.mk ?_ trivial
            conv => whnf
            refine Need.mk (mkl_need hN hx85 (by decide)) (Eqv.mk (List.map (fun x => .list 1 (List.map I x)) l4) (mkl_map _ hx85 rfl) ?_)
            conv => whnf
            intro hd43
            conv => whnf
            refine Both.mk ?_ trivial
            conv => whnf
            refine Side.mk rfl ?_
            conv => whnf
            refine CallG.pure _ (frameAheadC hN hx86) ?_
            cases hx83
            conv => whnf
            refine ⟨(), trivial, Sub.eq rfl ?_ ?_⟩
            · repeat ((conv => whnf); refine Need.mk rfl ?_)
              exact trivial
            · exact trivial
          · conv => whnf
            refine Both.mk ?_ trivial
            conv => whnf
            refine Need.mk (mkl_need hN hx85 (by decide)) (Eqv.mk (List.map (fun x => .list 1 (List.map I x)) l4) (mkl_map _ hx85 rfl) ?_)
            conv => whnf
            intro hd44
            conv => whnf
            refine Both.mk ?_ trivial
            conv => whnf
            refine CallG.pure _ (law01TenC hN hx84) ?_
            conv => whnf
            refine Both.mk ?_ trivial
            conv => whnf
            refine Side.mk rfl ?_
            conv => whnf
            refine CallG.pure _ (frameAheadC hN hx86) ?_
            cases hx83
            conv => whnf
            refine ⟨(), trivial, Sub.eq rfl ?_ ?_⟩
            · repeat ((conv => whnf); refine Need.mk rfl ?_)
              exact trivial
            · exact trivial
        · rintro _ _
          obtain ⟨r50, hx89, h⟩ := obind h
          conv => whnf
          refine CallG.pure _ (law01TenC hN hx89) ?_
          conv => whnf
          intro hd47
          conv => whnf
          refine Side.mk rfl ?_
          conv => whnf
          intro hd48
          obtain ⟨⟨ra20, rb20, rc8⟩, hx90, h⟩ := obind h
          conv => whnf
          refine Side.mk rfl ?_
          conv => whnf
          refine CallG.pure _ (frameAheadC hN hx90) ?_
          obtain ⟨r53, hx94, h⟩ := obind h
          conv => whnf
          refine CallG.pure _ (law01TenC hN hx94) ?_
          obtain ⟨r54, hx95, h⟩ := obind h
          conv => whnf
          refine CallG.pure _ (law01ManyC hN hx95) ?_
          obtain ⟨⟨ra22, rb22⟩, hx96, h⟩ := obind h
          conv => whnf
          refine CallG.pure _ (frameBadC hN hx96) ?_
          obtain ⟨r56, hx98, h⟩ := obind h
          conv => whnf
          refine CallG.pure _ (law01TenC hN hx98) ?_
          conv => whnf
          intro b6
          conv => whnf
          refine Side.mk rfl ?_
          conv => whnf
          refine Side.mk rfl ?_
          conv => whnf
          refine Side.mk rfl ?_
          conv => whnf
          intro hd50
          obtain ⟨⟨ra24, rb24⟩, hx100, h⟩ := obind h
          conv => whnf
          refine Side.mk rfl ?_
          conv => whnf
          refine CallG.pure _ (frameReadC hN hx100) ?_
          conv => whnf
          intro b8
          conv => whnf
          refine Side.mk rfl ?_
          obtain ⟨v5, hx106, h⟩ := obind h
          conv => whnf
          refine SeqG.mk Unit (fun y => [(0, .d (.bool v5))]) (fun y => []) (fun _ => True) ?_ ?_
          · conv => whnf
            refine Br.mk (fun hc56 => ?_) (fun hc56 => ?_)
            · replace hx106 := ite_t hc56 hx106
              conv => whnf
              refine Br.mk (fun hc57 => ?_) (fun hc57 => ?_)
              · replace hx106 := ite_t hc57 hx106
                conv => whnf
                refine Br.mk (fun hc58 => ?_) (fun hc58 => ?_)
                · replace hx106 := ite_t hc58 hx106
                  conv => whnf
                  refine Br.mk (fun hc59 => ?_) (fun hc59 => ?_)
                  · replace hx106 := ite_t hc59 hx106
                    conv => whnf
                    refine Br.mk (fun hc60 => ?_) (fun hc60 => ?_)
                    · replace hx106 := ite_t hc60 hx106
                      conv => whnf
                      refine Br.mk (fun hc61 => ?_) (fun hc61 => ?_)
                      · replace hx106 := ite_t hc61 hx106
                        conv => whnf
                        refine Br.mk (fun hc62 => ?_) (fun hc62 => ?_)
                        · replace hx106 := ite_t hc62 hx106
                          conv => whnf
                          refine Br.mk (fun hc63 => ?_) (fun hc63 => ?_)
                          · replace hx106 := ite_t hc63 hx106
                            conv => whnf
                            refine Br.mk (fun hc64 => ?_) (fun hc64 => ?_)
                            · replace hx106 := ite_t hc64 hx106
                              conv => whnf
                              refine Side.mk rfl ?_
                              conv => whnf
                              intro hd52
                              obtain ⟨r62, hx107, hx106⟩ := obind hx106
                              conv => whnf
                              refine Side.mk rfl ?_
                              conv => whnf
                              refine CallG.pure _ (law01IntsC hN hx107) ?_
                              conv => whnf
                              refine Br.mk (fun hc65 => ?_) (fun hc65 => ?_)
                              · replace hx106 := ite_t hc65 hx106
                                obtain ⟨r63, hx108, hx106⟩ := obind hx106
                                conv => whnf
                                refine CallG.pure _ (frameCheckLawC hN hx108) ?_
                                conv => whnf
                                refine Br.mk (fun hc66 => ?_) (fun hc66 => ?_)
                                · replace hx106 := ite_t hc66 hx106
                                  obtain ⟨r64, hx109, hx106⟩ := obind hx106
                                  conv => whnf
                                  refine CallG.pure _ (frameCheckLawC hN hx109) ?_
                                  conv => whnf
                                  refine Br.mk (fun hc67 => ?_) (fun hc67 => ?_)
                                  · replace hx106 := ite_t hc67 hx106
                                    obtain ⟨r65, hx110, hx106⟩ := obind hx106
                                    conv => whnf
                                    refine CallG.pure _ (frameCheckLawC hN hx110) ?_
                                    conv => whnf
                                    refine Br.mk (fun hc68 => ?_) (fun hc68 => ?_)
                                    · replace hx106 := ite_t hc68 hx106
                                      obtain ⟨r66, hx111, hx106⟩ := obind hx106
                                      conv => whnf
                                      refine CallG.pure _ (law01WakesC hN hx111) ?_
                                      cases hx106
                                      conv => whnf
                                      refine ⟨(), trivial, Sub.eq rfl ?_ ?_⟩
                                      · repeat ((conv => whnf); refine Need.mk rfl ?_)
                                        exact trivial
                                      · exact trivial
                                    · replace hx106 := ite_f hc68 hx106
                                      cases hx106
                                      conv => whnf
                                      refine ⟨(), trivial, Sub.eq rfl ?_ ?_⟩
                                      · repeat ((conv => whnf); refine Need.mk rfl ?_)
                                        exact trivial
                                      · exact trivial
                                  · replace hx106 := ite_f hc67 hx106
                                    cases hx106
                                    conv => whnf
                                    refine ⟨(), trivial, Sub.eq rfl ?_ ?_⟩
                                    · repeat ((conv => whnf); refine Need.mk rfl ?_)
                                      exact trivial
                                    · exact trivial
                                · replace hx106 := ite_f hc66 hx106
                                  cases hx106
                                  conv => whnf
                                  refine ⟨(), trivial, Sub.eq rfl ?_ ?_⟩
                                  · repeat ((conv => whnf); refine Need.mk rfl ?_)
                                    exact trivial
                                  · exact trivial
                              · replace hx106 := ite_f hc65 hx106
                                cases hx106
                                conv => whnf
                                refine ⟨(), trivial, Sub.eq rfl ?_ ?_⟩
                                · repeat ((conv => whnf); refine Need.mk rfl ?_)
                                  exact trivial
                                · exact trivial
                            · replace hx106 := ite_f hc64 hx106
                              cases hx106
                              conv => whnf
                              refine ⟨(), trivial, Sub.eq rfl ?_ ?_⟩
                              · repeat ((conv => whnf); refine Need.mk rfl ?_)
                                exact trivial
                              · exact trivial
                          · replace hx106 := ite_f hc63 hx106
                            cases hx106
                            conv => whnf
                            refine ⟨(), trivial, Sub.eq rfl ?_ ?_⟩
                            · repeat ((conv => whnf); refine Need.mk rfl ?_)
                              exact trivial
                            · exact trivial
                        · replace hx106 := ite_f hc62 hx106
                          cases hx106
                          conv => whnf
                          refine ⟨(), trivial, Sub.eq rfl ?_ ?_⟩
                          · repeat ((conv => whnf); refine Need.mk rfl ?_)
                            exact trivial
                          · exact trivial
                      · replace hx106 := ite_f hc61 hx106
                        cases hx106
                        conv => whnf
                        refine ⟨(), trivial, Sub.eq rfl ?_ ?_⟩
                        · repeat ((conv => whnf); refine Need.mk rfl ?_)
                          exact trivial
                        · exact trivial
                    · replace hx106 := ite_f hc60 hx106
                      cases hx106
                      conv => whnf
                      refine ⟨(), trivial, Sub.eq rfl ?_ ?_⟩
                      · repeat ((conv => whnf); refine Need.mk rfl ?_)
                        exact trivial
                      · exact trivial
                  · replace hx106 := ite_f hc59 hx106
                    cases hx106
                    conv => whnf
                    refine ⟨(), trivial, Sub.eq rfl ?_ ?_⟩
                    · repeat ((conv => whnf); refine Need.mk rfl ?_)
                      exact trivial
                    · exact trivial
                · replace hx106 := ite_f hc58 hx106
                  cases hx106
                  conv => whnf
                  refine ⟨(), trivial, Sub.eq rfl ?_ ?_⟩
                  · repeat ((conv => whnf); refine Need.mk rfl ?_)
                    exact trivial
                  · exact trivial
              · replace hx106 := ite_f hc57 hx106
                cases hx106
                conv => whnf
                refine ⟨(), trivial, Sub.eq rfl ?_ ?_⟩
                · repeat ((conv => whnf); refine Need.mk rfl ?_)
                  exact trivial
                · exact trivial
            · replace hx106 := ite_f hc56 hx106
              cases hx106
              conv => whnf
              refine ⟨(), trivial, Sub.eq rfl ?_ ?_⟩
              · repeat ((conv => whnf); refine Need.mk rfl ?_)
                exact trivial
              · exact trivial
          · rintro _ _
            conv => whnf
            cases h
            exact rfl
end Go.Proofs.Ythjafigloabfpaa
