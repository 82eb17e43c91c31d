/-
  The walk of the law FrameFouls.
-/
import Derived.Test.YthjafigloabfpaaDFrameFouls
import Derived.Test.YthjafigloabfpaaWd
namespace Go.Proofs.Ythjafigloabfpaa
open Go Go.Abs Go.Kp
set_option maxRecDepth 100000
set_option maxHeartbeats 8000000
set_option linter.all false

theorem law01FrameFoulsC {N : Nat} (hN : N ≤ 1073741824) {a1 : Ref01Law} {a2 : List Int} {a3 : Int} {r : Bool} (h : law01FrameFouls N a1 a2 a3 = some r) :
    ACalls Try.prog 10 [.d (.agg [I a1.fFrames, I a1.fPins, I a1.fBalls, I a1.fTap]), .d (.list 1 (List.map I a2)), .d (.int .u32 a3)] [] fun e os => e = .ret (.d (.bool r)) ∧ os = [] := by
  refine acalls_f (fresh := false) tt_ok dr_ok ⟨[3], [], [], [], [11, 18, 1004, 1007, 1014], 0⟩ Try.func10 rfl Try.call10 rfl ?_
  unfold law01FrameFouls at h
  obtain ⟨r6, hx6, h⟩ := obind h
  conv => whnf
  refine CallG.pure _ (law01ReadyC hN hx6) ?_
  conv => whnf
  refine Br.mk (fun hc2 => ?_) (fun hc2 => ?_)
  · replace h := ite_t hc2 h
    obtain ⟨r8, hx8, h⟩ := obind h
    conv => whnf
    refine CallG.pure _ (law01WakesC hN hx8) ?_
    conv => whnf
    cases h
    exact rfl
  · replace h := ite_f hc2 h
    obtain ⟨r10, hx10, h⟩ := obind h
    conv => whnf
    refine CallG.fresh 21 (law01ListC hN hx10) ?_
    intro hd2
    obtain ⟨l8, hx32, h⟩ := obind h
    conv => whnf
    refine SeqG.mk Unit (fun y => [(1, .d (.list 1 (List.map I a2))), (3, .d (.ref (.agg [I a1.fFrames, I a1.fPins, I a1.fBalls, I a1.fTap]))), (7, .sl 21 hd2)]) (fun y => [(21, .arr hd2 3 1 false (List.map I l8))]) (fun _ => True) ?_ ?_
    · conv => whnf
      refine LoopG.mk (Nat × (Int × (List Int))) (fun y => [(1, .d (.list 1 (List.map I a2))), (2, .d (.int .u32 a3)), (3, .d (.ref (.agg [I a1.fFrames, I a1.fPins, I a1.fBalls, I a1.fTap]))), (7, .sl 21 hd2), (8, .d (I y.2.1))]) (fun y => [(21, .arr hd2 3 1 false (List.map I y.2.2))]) (fun y => loopN (fun rr x => law01FrameFouls_b1 N a3 rr x.1 x.2) y.1 y.2 = some l8) (fun y => y.1) (N, (0, r10)) hx32 (Sub.eq rfl ?_ ?_) ?_
      · repeat ((conv => whnf); refine Need.mk rfl ?_)
        exact trivial
      · conv => whnf
        refine Need.mk (OLe.refl _) ?_
        exact trivial
      · rintro ⟨n2, ⟨v8, l14⟩⟩ hl2
        obtain ⟨n2, rfl, hl2⟩ := loopN_some hl2
        replace hl2 : law01FrameFouls_b1 N a3 (loopN (fun rr x => law01FrameFouls_b1 N a3 rr x.1 x.2) n2) v8 l14 = some l8 := hl2
        rw [law01FrameFouls_b1] at hl2
        conv => whnf
        refine Side.mk rfl (Ln.mk _ (List.length_map _) ?_)
        conv => whnf
        refine Br.mk (fun hc24 => ?_) (fun hc24 => ?_)
        · replace hl2 := ite_t hc24 hl2
          obtain ⟨l15, hx50, hl2⟩ := obind hl2
          conv => whnf
          refine SeqG.mk Unit (fun y => [(1, .d (.list 1 (List.map I a2))), (2, .d (.int .u32 a3)), (3, .d (.ref (.agg [I a1.fFrames, I a1.fPins, I a1.fBalls, I a1.fTap]))), (7, .sl 21 hd2), (8, .d (I v8))]) (fun y => [(21, .arr hd2 3 1 false (List.map I l15))]) (fun _ => True) ?_ ?_
          · obtain ⟨x24, hx52, hx50⟩ := obind hx50
            conv => whnf
            refine Side.mk ⟨rfl, rfl⟩ (Need.mk (idx_need _ hx52) ?_)
            conv => whnf
            refine Side.mk ⟨rfl, rfl⟩ ⟨_, Int.natCast_nonneg _, idx_el _ hx52, ?_⟩
            conv => whnf
            refine Br.mk (fun hc26 => ?_) (fun hc26 => ?_)
            · replace hx50 := ite_t hc26 hx50
              conv => whnf
              refine Need.mk (by decide) ?_
              obtain ⟨_, hx53, hx50⟩ := obind hx50
              conv => whnf
              refine Need.mk (nng_ok hx53) ?_
              conv => whnf
              refine Need.mk (by decide) ?_
              conv => whnf
              refine Side.mk ⟨rfl, rfl⟩ (Need.mk (idx_need _ hx52) ?_)
              conv => whnf
              refine Side.mk ⟨rfl, rfl⟩ ⟨_, Int.natCast_nonneg _, idx_el _ hx52, ?_⟩
              conv => whnf
              refine Eqv.mk (List.map I (List.set l14 (Int.toNat v8) (w64 ((-(w64 (Int.tmod (shrI .u32 a3 (Go.IntKind.wrap .u64 (Int.tmod v8 32))) 2))))))) (set_map _ _ _ _ rfl) ?_
              cases hx50
              conv => whnf
              refine ⟨(), trivial, Sub.eq rfl ?_ ?_⟩
              · repeat ((conv => whnf); refine Need.mk rfl ?_)
                exact trivial
              · conv => whnf
                refine Need.mk (OLe.refl _) ?_
                exact trivial
            · replace hx50 := ite_f hc26 hx50
              cases hx50
              conv => whnf
              refine ⟨(), trivial, Sub.eq rfl ?_ ?_⟩
              · repeat ((conv => whnf); refine Need.mk rfl ?_)
                exact trivial
              · conv => whnf
                refine Need.mk (OLe.refl _) ?_
                exact trivial
          · rintro _ _
            conv => whnf
            refine ⟨(n2, (w64 (v8 + 1), l15)), hl2, Sub.eq rfl ?_ ?_, Nat.lt_succ_self _⟩
            · repeat ((conv => whnf); refine Need.mk rfl ?_)
              exact trivial
            · conv => whnf
              refine Need.mk (OLe.refl _) ?_
              exact trivial
        · replace hl2 := ite_f hc24 hl2
          cases hl2
          conv => whnf
          refine ⟨(), trivial, Sub.eq rfl ?_ ?_⟩
          · repeat ((conv => whnf); refine Need.mk rfl ?_)
            exact trivial
          · conv => whnf
            refine Need.mk (OLe.refl _) ?_
            exact trivial
    · rintro _ _
      obtain ⟨r13, hx57, h⟩ := obind h
      conv => whnf
      refine CallG.pure _ (law01LawC hN hx57) ?_
      obtain ⟨r14, hx58, h⟩ := obind h
      conv => whnf
      refine CallG.fresh 48 (law01ListC hN hx58) ?_
      intro hd4
      obtain ⟨⟨ra2, rb2⟩, hx59, h⟩ := obind h
      conv => whnf
      refine Side.mk rfl ?_
      conv => whnf
      refine CallG.pure _ (frameReadC hN hx59) ?_
      conv => whnf
      intro b2
      conv => whnf
      refine Side.mk rfl ?_
      obtain ⟨r17, hx63, h⟩ := obind h
      conv => whnf
      refine CallG.pure _ (law01LawC hN hx63) ?_
      obtain ⟨r18, hx64, h⟩ := obind h
      conv => whnf
      refine Side.mk rfl ?_
      conv => whnf
      refine CallG.fresh 56 (law01ListC hN hx64) ?_
      intro hd6
      obtain ⟨⟨ra4, rb4⟩, hx65, h⟩ := obind h
      conv => whnf
      refine Side.mk rfl ?_
      conv => whnf
      refine CallG.pure _ (frameReadC hN hx65) ?_
      conv => whnf
      intro b4
      conv => whnf
      refine Side.mk rfl ?_
      obtain ⟨v10, hx70, h⟩ := obind h
      conv => whnf
      refine SeqG.mk Unit (fun y => [(7, .sl 21 hd2), (11, .ptr 11 b4 0), (87, .d (.bool v10))]) (fun y => [(21, .arr hd2 3 1 true (List.map I l8)), (11, .cells b4 [.d (.list 1 (List.map (fun x => .list 1 (List.map I x)) ra4.fFrames)), .d (.list 1 (List.map I ra4.fCounts)), .d (I ra4.fStanding), .d (.bool ra4.fDone)])]) (fun _ => True) ?_ ?_
      · conv => whnf
        refine Br.mk (fun hc40 => ?_) (fun hc40 => ?_)
        · replace hx70 := ite_f hc40 hx70
          conv => whnf
          refine Br.mk (fun hc41 => ?_) (fun hc41 => ?_)
          · replace hx70 := ite_f hc41 hx70
            conv => whnf
            refine Side.mk rfl ?_
            conv => whnf
            refine Side.mk rfl ?_
            obtain ⟨r22, hx71, hx70⟩ := obind hx70
            conv => whnf
            refine CallG.pure _ (law01IntsC hN hx71) ?_
            conv => whnf
            refine Br.mk (fun hc42 => ?_) (fun hc42 => ?_)
            · replace hx70 := ite_f hc42 hx70
              conv => whnf
              refine Side.mk rfl ?_
              conv => whnf
              refine Side.mk rfl ?_
              conv => whnf
              refine Br.mk (fun hc43 => ?_) (fun hc43 => ?_)
              · replace hx70 := ite_f hc43 hx70
                conv => whnf
                refine Side.mk rfl ?_
                conv => whnf
                refine Side.mk rfl ?_
                cases hx70
                conv => whnf
                refine ⟨(), trivial, Sub.eq rfl ?_ ?_⟩
                · repeat ((conv => whnf); refine Need.mk rfl ?_)
                  exact trivial
                · conv => whnf
                  refine Need.mk (OLe.refl _) ?_
                  conv => whnf
                  refine Need.mk (OLe.refl _) ?_
                  exact trivial
              · replace hx70 := ite_t hc43 hx70
                cases hx70
                conv => whnf
                refine ⟨(), trivial, Sub.eq rfl ?_ ?_⟩
                · repeat ((conv => whnf); refine Need.mk rfl ?_)
                  exact trivial
                · conv => whnf
                  refine Need.mk (OLe.refl _) ?_
                  conv => whnf
                  refine Need.mk (OLe.refl _) ?_
                  exact trivial
            · replace hx70 := ite_t hc42 hx70
              cases hx70
              conv => whnf
              refine ⟨(), trivial, Sub.eq rfl ?_ ?_⟩
              · repeat ((conv => whnf); refine Need.mk rfl ?_)
                exact trivial
              · conv => whnf
                refine Need.mk (OLe.refl _) ?_
                conv => whnf
                refine Need.mk (OLe.refl _) ?_
                exact trivial
          · replace hx70 := ite_t hc41 hx70
            cases hx70
            conv => whnf
            refine ⟨(), trivial, Sub.eq rfl ?_ ?_⟩
            · repeat ((conv => whnf); refine Need.mk rfl ?_)
              exact trivial
            · conv => whnf
              refine Need.mk (OLe.refl _) ?_
              conv => whnf
              refine Need.mk (OLe.refl _) ?_
              exact trivial
        · replace hx70 := ite_t hc40 hx70
          cases hx70
          conv => whnf
          refine ⟨(), trivial, Sub.eq rfl ?_ ?_⟩
          · repeat ((conv => whnf); refine Need.mk rfl ?_)
            exact trivial
          · conv => whnf
            refine Need.mk (OLe.refl _) ?_
            conv => whnf
            refine Need.mk (OLe.refl _) ?_
            exact trivial
      · rintro _ _
        conv => whnf
        refine Br.mk (fun hc44 => ?_) (fun hc44 => ?_)
        · replace h := ite_t hc44 h
          conv => whnf
          cases h
          exact rfl
        · replace h := ite_f hc44 h
          obtain ⟨l26, hx84, h⟩ := obind h
          conv => whnf
          refine SeqG.mk Value (fun y => [(7, .sl 21 hd2), (13, .sl 101 y)]) (fun y => [(21, .arr hd2 3 1 true (List.map I l8)), (101, .arr y 3 1 false (List.map I l26))]) (fun _ => True) ?_ ?_
          · conv => whnf
            refine LoopG.mk (Nat × (Int × (List Int)) × Value) (fun y => [(7, .sl 21 hd2), (11, .ptr 11 b4 0), (13, .sl 101 y.2.2), (14, .d (I y.2.1.1))]) (fun y => [(21, .arr hd2 3 1 true (List.map I l8)), (11, .cells b4 [.d (.list 1 (List.map (fun x => .list 1 (List.map I x)) ra4.fFrames)), .d (.list 1 (List.map I ra4.fCounts)), .d (I ra4.fStanding), .d (.bool ra4.fDone)]), (101, .arr y.2.2 3 1 false (List.map I y.2.1.2))]) (fun y => loopN (fun rr x => law01FrameFouls_b2 N ra4 rr x.1 x.2) y.1 y.2.1 = some l26) (fun y => y.1) (N, (0, []), (.slice none 0 0)) hx84 (Sub.eq rfl ?_ ?_) ?_
            · repeat ((conv => whnf); refine Need.mk rfl ?_)
              exact trivial
            · conv => whnf
              refine Need.mk (OLe.refl _) ?_
              conv => whnf
              refine Need.mk (OLe.refl _) ?_
              conv => whnf
              refine Need.mk (OLe.nil _ _ _ _) ?_
              exact trivial
            · rintro ⟨n4, ⟨v18, l34⟩, hd25⟩ hl4
              obtain ⟨n4, rfl, hl4⟩ := loopN_some hl4
              replace hl4 : law01FrameFouls_b2 N ra4 (loopN (fun rr x => law01FrameFouls_b2 N ra4 rr x.1 x.2) n4) v18 l34 = some l26 := hl4
              rw [law01FrameFouls_b2] at hl4
              conv => whnf
              refine Side.mk rfl ?_
              conv => whnf
              refine Ln.mk _ (List.length_map _) ?_
              conv => whnf
              refine Br.mk (fun hc56 => ?_) (fun hc56 => ?_)
              · replace hl4 := ite_t hc56 hl4
                conv => whnf
                refine Side.mk rfl ?_
                obtain ⟨x36, hx95, hl4⟩ := obind hl4
                conv => whnf
                refine Side.mk rfl ⟨_, idx_0 hx95, idx_map _ hx95, ?_⟩
                obtain ⟨l36, hx96, hl4⟩ := obind hl4
                conv => whnf
                refine Side.mk rfl ?_
                conv => whnf
                refine Side.mk ⟨rfl, rfl, rfl⟩ (Need.mk (app_need hN hx96 (by decide)) (Eqv.mk (List.map I l36) (app_map _ hx96) ?_))
                conv => whnf
                intro hd27
                conv => whnf
                refine ⟨(n4, (w64 (v18 + 1), l36), hd27), hl4, Sub.eq rfl ?_ ?_, Nat.lt_succ_self _⟩
                · repeat ((conv => whnf); refine Need.mk rfl ?_)
                  exact trivial
                · conv => whnf
                  refine Need.mk (OLe.refl _) ?_
                  conv => whnf
                  refine Need.mk (OLe.refl _) ?_
                  conv => whnf
                  refine Need.mk (OLe.refl _) ?_
                  exact trivial
              · replace hl4 := ite_f hc56 hl4
                cases hl4
                conv => whnf
                refine ⟨hd25, trivial, Sub.eq rfl ?_ ?_⟩
                · repeat ((conv => whnf); refine Need.mk rfl ?_)
                  exact trivial
                · conv => whnf
                  refine Need.mk (OLe.refl _) ?_
                  conv => whnf
                  refine Need.mk (OLe.refl _) ?_
                  exact trivial
          · rintro hd17 _
            obtain ⟨v19, hx99, h⟩ := obind h
            conv => whnf
            refine SeqG.mk Unit (fun y => [(6, .d (.bool v19))]) (fun y => []) (fun _ => True) ?_ ?_
            · obtain ⟨r25, hx100, hx99⟩ := obind hx99
              conv => whnf
              refine Side.mk rfl ?_
              conv => whnf
              refine Side.mk rfl ?_
              conv => whnf
              refine CallG.pure _ (law01IntsC hN hx100) ?_
              conv => whnf
              refine Br.mk (fun hc58 => ?_) (fun hc58 => ?_)
              · replace hx99 := ite_t hc58 hx99
                obtain ⟨r26, hx101, hx99⟩ := obind hx99
                conv => whnf
                refine CallG.pure _ (law01WakesC hN hx101) ?_
                cases hx99
                conv => whnf
                refine ⟨(), trivial, Sub.eq rfl ?_ ?_⟩
                · repeat ((conv => whnf); refine Need.mk rfl ?_)
                  exact trivial
                · exact trivial
              · replace hx99 := ite_f hc58 hx99
                cases hx99
                conv => whnf
                refine ⟨(), trivial, Sub.eq rfl ?_ ?_⟩
                · repeat ((conv => whnf); refine Need.mk rfl ?_)
                  exact trivial
                · exact trivial
            · rintro _ _
              conv => whnf
              cases h
              exact rfl
end Go.Proofs.Ythjafigloabfpaa
