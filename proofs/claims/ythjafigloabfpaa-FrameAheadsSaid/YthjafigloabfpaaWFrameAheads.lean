/-
  The walk of the law FrameAheads.
-/
import Derived.Test.YthjafigloabfpaaDFrameAheads
import Derived.Test.YthjafigloabfpaaWd
namespace Go.Proofs.Ythjafigloabfpaa
open Go Go.Abs Go.Kp
set_option maxRecDepth 100000
set_option maxHeartbeats 8000000
set_option linter.all false

theorem law01FrameAheadsC {N : Nat} (hN : N ≤ 1073741824) {a1 : Ref01Law} {a2 : List (List Int)} {r : Bool} (h : law01FrameAheads N a1 a2 = some r) :
    ACalls Try.prog 14 [.d (.agg [I a1.fFrames, I a1.fPins, I a1.fBalls, I a1.fTap]), .d (.list 1 (List.map (fun x => .list 1 (List.map I x)) a2))] [] fun e os => e = .ret (.d (.bool r)) ∧ os = [] := by
  refine acalls_f (fresh := false) tt_ok dr_ok ⟨[2], [], [], [], [10, 21, 26, 31, 36, 37, 43, 1005, 1014, 1020, 1023, 1028, 1031, 1033, 1036, 1039], 0⟩ Try.func14 rfl Try.call14 rfl ?_
  unfold law01FrameAheads at h
  conv => whnf
  refine Ln.mk _ (List.length_map _) ?_
  conv => whnf
  refine Br.mk (fun hc2 => ?_) (fun hc2 => ?_)
  · replace h := ite_t hc2 h
    obtain ⟨r4, hx4, h⟩ := obind h
    conv => whnf
    refine CallG.pure _ (law01WakesC hN hx4) ?_
    conv => whnf
    cases h
    exact rfl
  · replace h := ite_f hc2 h
    conv => whnf
    refine Ln.mk _ (List.length_map _) ?_
    conv => whnf
    refine SeqG.mk (Bool × (List (List Int)) × Value) (fun y => [(1, .d (.list 1 (List.map (fun x => .list 1 (List.map I x)) a2))), (2, .d (.ref (.agg [I a1.fFrames, I a1.fPins, I a1.fBalls, I a1.fTap]))), (5, .sl 57 y.2.2), (6, .d (.bool y.1))]) (fun y => [(57, .arr y.2.2 24 1 false (List.map (fun x => .list 1 (List.map I x)) y.2.1))]) (fun y => law01FrameAheads_k4 N a1 a2 y.1 y.2.1 = some r) ?_ ?_
    · conv => whnf
      refine LoopG.mk (Nat × (Bool × Int × (List (List Int))) × Value) (fun y => [(1, .d (.list 1 (List.map (fun x => .list 1 (List.map I x)) a2))), (2, .d (.ref (.agg [I a1.fFrames, I a1.fPins, I a1.fBalls, I a1.fTap]))), (5, .sl 57 y.2.2), (6, .d (.bool y.2.1.1)), (7, .d (I y.2.1.2.1))]) (fun y => [(57, .arr y.2.2 24 1 false (List.map (fun x => .list 1 (List.map I x)) y.2.1.2.2))]) (fun y => loopN (fun rr x => law01FrameAheads_b5 N a1 a2 rr x.1 x.2.1 x.2.2) y.1 y.2.1 = some r) (fun y => y.1) (N, (decide (6 < (a2.length : Int)), 0, []), (.slice none 0 0)) h (Sub.eq rfl ?_ ?_) ?_
      · repeat ((conv => whnf); refine Need.mk rfl ?_)
        exact trivial
      · conv => whnf
        refine Need.mk (OLe.nil _ _ _ _) ?_
        exact trivial
      · rintro ⟨n30, ⟨v979, v980, l97⟩, hd153⟩ hl30
        obtain ⟨n30, rfl, hl30⟩ := loopN_some hl30
        replace hl30 : law01FrameAheads_b5 N a1 a2 (loopN (fun rr x => law01FrameAheads_b5 N a1 a2 rr x.1 x.2.1 x.2.2) n30) v979 v980 l97 = some r := hl30
        rw [law01FrameAheads_b5] at hl30
        conv => whnf
        refine Ln.mk _ (List.length_map _) ?_
        conv => whnf
        refine Br.mk (fun hc1052 => ?_) (fun hc1052 => ?_)
        · replace hl30 := ite_t hc1052 hl30
          obtain ⟨x427, hx1398, hl30⟩ := obind hl30
          conv => whnf
          refine Side.mk rfl ⟨_, idx_0 hx1398, idx_map _ hx1398, ?_⟩
          conv => whnf
          refine Ln.mk _ (List.length_map _) ?_
          conv => whnf
          refine Br.mk (fun hc1058 => ?_) (fun hc1058 => ?_)
          · replace hl30 := ite_t hc1058 hl30
            obtain ⟨r447, hx1400, hl30⟩ := obind hl30
            conv => whnf
            refine CallG.pure _ (law01WakesC hN hx1400) ?_
            conv => whnf
            cases hl30
            exact rfl
          · replace hl30 := ite_f hc1058 hl30
            obtain ⟨v982, hx1401, hl30⟩ := obind hl30
            conv => whnf
            refine SeqG.mk Unit (fun y => [(1, .d (.list 1 (List.map (fun x => .list 1 (List.map I x)) a2))), (2, .d (.ref (.agg [I a1.fFrames, I a1.fPins, I a1.fBalls, I a1.fTap]))), (5, .sl 57 hd153), (6, .d (.bool v982)), (7, .d (I v980))]) (fun y => [(57, .arr hd153 24 1 false (List.map (fun x => .list 1 (List.map I x)) l97))]) (fun _ => True) ?_ ?_
            · conv => whnf
              refine Br.mk (fun hc1060 => ?_) (fun hc1060 => ?_)
              · replace hx1401 := ite_f hc1060 hx1401
                conv => whnf
                refine Side.mk rfl ⟨_, idx_0 hx1398, idx_map _ hx1398, ?_⟩
                conv => whnf
                refine Ln.mk _ (List.length_map _) ?_
                cases hx1401
                conv => whnf
                refine ⟨(), trivial, Sub.eq rfl ?_ ?_⟩
                · repeat ((conv => whnf); refine Need.mk rfl ?_)
                  exact trivial
                · conv => whnf
                  refine Need.mk (OLe.refl _) ?_
                  exact trivial
              · replace hx1401 := ite_t hc1060 hx1401
                cases hx1401
                conv => whnf
                refine ⟨(), trivial, Sub.eq rfl ?_ ?_⟩
                · repeat ((conv => whnf); refine Need.mk rfl ?_)
                  exact trivial
                · conv => whnf
                  refine Need.mk (OLe.refl _) ?_
                  exact trivial
            · rintro _ _
              obtain ⟨x428, hx1402, hl30⟩ := obind hl30
              conv => whnf
              refine Side.mk rfl ⟨_, idx_0 hx1402, idx_map _ hx1402, ?_⟩
              obtain ⟨r448, hx1403, hl30⟩ := obind hl30
              conv => whnf
              refine CallG.fresh 55 (law01ListC hN hx1403) ?_
              intro hd157
              conv => whnf
              refine Side.mk rfl ?_
              conv => whnf
              intro hd158
              obtain ⟨l99, hx1404, hl30⟩ := obind hl30
              conv => whnf
              refine Side.mk ⟨rfl, rfl⟩ ?_
              conv => whnf
              refine Side.mk ⟨rfl, rfl, rfl⟩ (Need.mk (app_need hN hx1404 (by decide)) (Eqv.mk (List.map (fun x => .list 1 (List.map I x)) l99) (app_map _ hx1404) ?_))
              conv => whnf
              intro hd159
              conv => whnf
              refine ⟨(n30, (v982, w64 (v980 + 1), l99), hd159), hl30, Sub.eq rfl ?_ ?_, Nat.lt_succ_self _⟩
              · repeat ((conv => whnf); refine Need.mk rfl ?_)
                exact trivial
              · conv => whnf
                refine Need.mk (OLe.refl _) ?_
                exact trivial
        · replace hl30 := ite_f hc1052 hl30
          conv => whnf
          refine ⟨(v979, l97, hd153), hl30, Sub.eq rfl ?_ ?_⟩
          · repeat ((conv => whnf); refine Need.mk rfl ?_)
            exact trivial
          · conv => whnf
            refine Need.mk (OLe.refl _) ?_
            exact trivial
    · clear h
      rintro ⟨v16, l11, hd23⟩ h
      unfold law01FrameAheads_k4 at h
      obtain ⟨r36, hx79, h⟩ := obind h
      conv => whnf
      refine CallG.pure _ (law01LawC hN hx79) ?_
      obtain ⟨⟨ra2, rb2, rc2⟩, hx80, h⟩ := obind h
      conv => whnf
      refine Side.mk rfl ?_
      conv => whnf
      refine CallG.pure _ (frameAheadC hN hx80) ?_
      obtain ⟨v17, hx83, h⟩ := obind h
      conv => whnf
      refine SeqG.mk Unit (fun y => [(1, .d (.list 1 (List.map (fun x => .list 1 (List.map I x)) a2))), (2, .d (.ref (.agg [I a1.fFrames, I a1.fPins, I a1.fBalls, I a1.fTap]))), (8, .d (.list 1 (List.map I ra2))), (9, .d (.list 1 (List.map I rb2))), (10, .d (I rc2)), (11, .d (I v17))]) (fun y => []) (fun _ => True) ?_ ?_
      · obtain ⟨r40, hx85, hx83⟩ := obind hx83
        conv => whnf
        refine CallG.pure _ (ref01IsLawC hN hx85) ?_
        conv => whnf
        refine Br.mk (fun hc36 => ?_) (fun hc36 => ?_)
        · replace hx83 := ite_t hc36 hx83
          cases hx83
          conv => whnf
          refine ⟨(), trivial, Sub.eq rfl ?_ ?_⟩
          · repeat ((conv => whnf); refine Need.mk rfl ?_)
            exact trivial
          · exact trivial
        · replace hx83 := ite_f hc36 hx83
          conv => whnf
          refine Br.mk (fun hc37 => ?_) (fun hc37 => ?_)
          · replace hx83 := ite_t hc37 hx83
            cases hx83
            conv => whnf
            refine ⟨(), trivial, Sub.eq rfl ?_ ?_⟩
            · repeat ((conv => whnf); refine Need.mk rfl ?_)
              exact trivial
            · exact trivial
          · replace hx83 := ite_f hc37 hx83
            conv => whnf
            refine Ln.mk _ (List.length_map _) ?_
            conv => whnf
            refine Br.mk (fun hc38 => ?_) (fun hc38 => ?_)
            · replace hx83 := ite_t hc38 hx83
              cases hx83
              conv => whnf
              refine ⟨(), trivial, Sub.eq rfl ?_ ?_⟩
              · repeat ((conv => whnf); refine Need.mk rfl ?_)
                exact trivial
              · exact trivial
            · replace hx83 := ite_f hc38 hx83
              cases hx83
              conv => whnf
              refine ⟨(), trivial, Sub.eq rfl ?_ ?_⟩
              · repeat ((conv => whnf); refine Need.mk rfl ?_)
                exact trivial
              · exact trivial
      · rintro _ _
        obtain ⟨v35, hx119, h⟩ := obind h
        conv => whnf
        refine SeqG.mk Unit (fun y => [(1, .d (.list 1 (List.map (fun x => .list 1 (List.map I x)) a2))), (2, .d (.ref (.agg [I a1.fFrames, I a1.fPins, I a1.fBalls, I a1.fTap]))), (8, .d (.list 1 (List.map I ra2))), (9, .d (.list 1 (List.map I rb2))), (10, .d (I rc2)), (11, .d (I v35))]) (fun y => []) (fun _ => True) ?_ ?_
        · conv => whnf
          refine LoopG.mk (Nat × (Int × Int)) (fun y => [(1, .d (.list 1 (List.map (fun x => .list 1 (List.map I x)) a2))), (2, .d (.ref (.agg [I a1.fFrames, I a1.fPins, I a1.fBalls, I a1.fTap]))), (8, .d (.list 1 (List.map I ra2))), (9, .d (.list 1 (List.map I rb2))), (10, .d (I rc2)), (11, .d (I y.2.1)), (12, .d (I y.2.2))]) (fun y => []) (fun y => loopN (fun rr x => law01FrameAheads_b1 N a1 a2 rr x.1 x.2) y.1 y.2 = some v35) (fun y => y.1) (N, (v17, 0)) hx119 (Sub.eq rfl ?_ ?_) ?_
          · repeat ((conv => whnf); refine Need.mk rfl ?_)
            exact trivial
          · exact trivial
          · rintro ⟨n3, ⟨v48, v49⟩⟩ hl3
            obtain ⟨n3, rfl, hl3⟩ := loopN_some hl3
            replace hl3 : law01FrameAheads_b1 N a1 a2 (loopN (fun rr x => law01FrameAheads_b1 N a1 a2 rr x.1 x.2) n3) v48 v49 = some v35 := hl3
            rw [law01FrameAheads_b1] at hl3
            obtain ⟨v51, hx143, hl3⟩ := obind hl3
            conv => whnf
            refine SeqG.mk Unit (fun y => [(1, .d (.list 1 (List.map (fun x => .list 1 (List.map I x)) a2))), (2, .d (.ref (.agg [I a1.fFrames, I a1.fPins, I a1.fBalls, I a1.fTap]))), (8, .d (.list 1 (List.map I ra2))), (9, .d (.list 1 (List.map I rb2))), (10, .d (I rc2)), (11, .d (I v48)), (12, .d (I v49)), (83, .d (.bool v51))]) (fun y => []) (fun _ => True) ?_ ?_
            · conv => whnf
              refine Ln.mk _ (List.length_map _) ?_
              conv => whnf
              refine Br.mk (fun hc83 => ?_) (fun hc83 => ?_)
              · replace hx143 := ite_t hc83 hx143
                cases hx143
                conv => whnf
                refine ⟨(), trivial, Sub.eq rfl ?_ ?_⟩
                · repeat ((conv => whnf); refine Need.mk rfl ?_)
                  exact trivial
                · exact trivial
              · replace hx143 := ite_f hc83 hx143
                cases hx143
                conv => whnf
                refine ⟨(), trivial, Sub.eq rfl ?_ ?_⟩
                · repeat ((conv => whnf); refine Need.mk rfl ?_)
                  exact trivial
                · exact trivial
            · rintro _ _
              conv => whnf
              refine Br.mk (fun hc84 => ?_) (fun hc84 => ?_)
              · replace hl3 := ite_t hc84 hl3
                obtain ⟨v52, hx148, hl3⟩ := obind hl3
                conv => whnf
                refine SeqG.mk Unit (fun y => [(1, .d (.list 1 (List.map (fun x => .list 1 (List.map I x)) a2))), (2, .d (.ref (.agg [I a1.fFrames, I a1.fPins, I a1.fBalls, I a1.fTap]))), (8, .d (.list 1 (List.map I ra2))), (9, .d (.list 1 (List.map I rb2))), (10, .d (I rc2)), (11, .d (I v52)), (12, .d (I v49))]) (fun y => []) (fun _ => True) ?_ ?_
                · obtain ⟨x54, hx151, hx148⟩ := obind hx148
                  obtain ⟨r64, hx152, hx148⟩ := obind hx148
                  conv => whnf
                  refine DrawG.mk (.take 0 (.take 1 (.take 2 (.take 3 (.take 4 (.alt 5 [3, 2, 1] (.take 6 .done) .nil)))))) (by kernel_rfl) ?_
                  conv => whnf
                  refine Side.mk rfl ⟨_, idx_0 hx151, idx_map _ hx151, ?_⟩
                  conv => whnf
                  refine Both.mk ?_ trivial
                  conv => whnf
                  refine CallG.pure _ (ref01IsC hN hx152) ?_
                  conv => whnf
                  refine Side.mk rfl ⟨_, idx_0 hx151, idx_map _ hx151, ?_⟩
                  conv => whnf
                  refine Need.mk (AV.le_refl _) ?_
                  conv => whnf
                  refine Need.mk (AV.le_refl _) ?_
                  conv => whnf
                  refine Need.mk (AV.le_refl _) ?_
                  conv => whnf
                  refine Br.mk (fun hc86 => ?_) (fun hc86 => ?_)
                  · replace hx148 := ite_t hc86 hx148
                    cases hx148
                    conv => whnf
                    refine ⟨(), trivial, Sub.eq rfl ?_ ?_⟩
                    · repeat ((conv => whnf); refine Need.mk rfl ?_)
                      exact trivial
                    · exact trivial
                  · replace hx148 := ite_f hc86 hx148
                    cases hx148
                    conv => whnf
                    refine ⟨(), trivial, Sub.eq rfl ?_ ?_⟩
                    · repeat ((conv => whnf); refine Need.mk rfl ?_)
                      exact trivial
                    · exact trivial
                · rintro _ _
                  conv => whnf
                  refine ⟨(n3, (v52, w64 (v49 + 1))), hl3, Sub.eq rfl ?_ ?_, Nat.lt_succ_self _⟩
                  · repeat ((conv => whnf); refine Need.mk rfl ?_)
                    exact trivial
                  · exact trivial
              · replace hl3 := ite_f hc84 hl3
                cases hl3
                conv => whnf
                refine ⟨(), trivial, Sub.eq rfl ?_ ?_⟩
                · repeat ((conv => whnf); refine Need.mk rfl ?_)
                  exact trivial
                · exact trivial
        · rintro _ _
          conv => whnf
          refine Br.mk (fun hc92 => ?_) (fun hc92 => ?_)
          · replace h := ite_t hc92 h
            obtain ⟨v54, hx157, h⟩ := obind h
            conv => whnf
            refine SeqG.mk Unit (fun y => [(4, .d (.bool v54))]) (fun y => []) (fun _ => True) ?_ ?_
            · conv => whnf
              refine Br.mk (fun hc95 => ?_) (fun hc95 => ?_)
              · replace hx157 := ite_t hc95 hx157
                conv => whnf
                refine Ln.mk _ (List.length_map _) ?_
                conv => whnf
                refine Ln.mk _ (List.length_map _) ?_
                conv => whnf
                refine Br.mk (fun hc96 => ?_) (fun hc96 => ?_)
                · replace hx157 := ite_t hc96 hx157
                  obtain ⟨r68, hx158, hx157⟩ := obind hx157
                  conv => whnf
                  refine CallG.pure _ (law01WakesC hN hx158) ?_
                  cases hx157
                  conv => whnf
                  refine ⟨(), trivial, Sub.eq rfl ?_ ?_⟩
                  · repeat ((conv => whnf); refine Need.mk rfl ?_)
                    exact trivial
                  · exact trivial
                · replace hx157 := ite_f hc96 hx157
                  cases hx157
                  conv => whnf
                  refine ⟨(), trivial, Sub.eq rfl ?_ ?_⟩
                  · repeat ((conv => whnf); refine Need.mk rfl ?_)
                    exact trivial
                  · exact trivial
              · replace hx157 := ite_f hc95 hx157
                cases hx157
                conv => whnf
                refine ⟨(), trivial, Sub.eq rfl ?_ ?_⟩
                · repeat ((conv => whnf); refine Need.mk rfl ?_)
                  exact trivial
                · exact trivial
            · rintro _ _
              conv => whnf
              cases h
              exact rfl
          · replace h := ite_f hc92 h
            obtain ⟨⟨l50, l51⟩, hx742, h⟩ := obind h
            conv => whnf
            refine SeqG.mk (Value × Value) (fun y => [(8, .d (.list 1 (List.map I ra2))), (9, .d (.list 1 (List.map I rb2))), (10, .d (I rc2)), (13, .sl 163 y.1), (14, .sl 168 y.2)]) (fun y => [(163, .arr y.1 3 1 false (List.map I l50)), (168, .arr y.2 3 1 false (List.map I l51))]) (fun _ => True) ?_ ?_
            · conv => whnf
              refine LoopG.mk (Nat × (Int × (List Int) × (List Int)) × Value × Value) (fun y => [(1, .d (.list 1 (List.map (fun x => .list 1 (List.map I x)) a2))), (2, .d (.ref (.agg [I a1.fFrames, I a1.fPins, I a1.fBalls, I a1.fTap]))), (8, .d (.list 1 (List.map I ra2))), (9, .d (.list 1 (List.map I rb2))), (10, .d (I rc2)), (13, .sl 163 y.2.2.1), (14, .sl 168 y.2.2.2), (15, .d (I y.2.1.1))]) (fun y => [(163, .arr y.2.2.1 3 1 false (List.map I y.2.1.2.1)), (168, .arr y.2.2.2 3 1 false (List.map I y.2.1.2.2))]) (fun y => loopN (fun rr x => law01FrameAheads_b3 N a1 a2 rr x.1 x.2.1 x.2.2) y.1 y.2.1 = some (l50, l51)) (fun y => y.1) (N, (0, [], []), (.slice none 0 0), (.slice none 0 0)) hx742 (Sub.eq rfl ?_ ?_) ?_
              · repeat ((conv => whnf); refine Need.mk rfl ?_)
                exact trivial
              · conv => whnf
                refine Need.mk (OLe.nil _ _ _ _) ?_
                conv => whnf
                refine Need.mk (OLe.nil _ _ _ _) ?_
                exact trivial
              · rintro ⟨n25, ⟨v818, l78, l79⟩, hd120, hd121⟩ hl25
                obtain ⟨n25, rfl, hl25⟩ := loopN_some hl25
                replace hl25 : law01FrameAheads_b3 N a1 a2 (loopN (fun rr x => law01FrameAheads_b3 N a1 a2 rr x.1 x.2.1 x.2.2) n25) v818 l78 l79 = some (l50, l51) := hl25
                rw [law01FrameAheads_b3] at hl25
                conv => whnf
                refine Ln.mk _ (List.length_map _) ?_
                conv => whnf
                refine Br.mk (fun hc874 => ?_) (fun hc874 => ?_)
                · replace hl25 := ite_t hc874 hl25
                  obtain ⟨⟨l84, l85⟩, hx1237, hl25⟩ := obind hl25
                  conv => whnf
                  refine SeqG.mk (Value × Value) (fun y => [(1, .d (.list 1 (List.map (fun x => .list 1 (List.map I x)) a2))), (2, .d (.ref (.agg [I a1.fFrames, I a1.fPins, I a1.fBalls, I a1.fTap]))), (8, .d (.list 1 (List.map I ra2))), (9, .d (.list 1 (List.map I rb2))), (10, .d (I rc2)), (13, .sl 163 y.1), (14, .sl 168 y.2), (15, .d (I v818))]) (fun y => [(163, .arr y.1 3 1 false (List.map I l84)), (168, .arr y.2 3 1 false (List.map I l85))]) (fun _ => True) ?_ ?_
                  · obtain ⟨c160, hx1240, hx1237⟩ := obind hx1237
                    conv => whnf
                    refine SeqG.mk Nat (fun y => [(1, .d (.list 1 (List.map (fun x => .list 1 (List.map I x)) a2))), (2, .d (.ref (.agg [I a1.fFrames, I a1.fPins, I a1.fBalls, I a1.fTap]))), (8, .d (.list 1 (List.map I ra2))), (9, .d (.list 1 (List.map I rb2))), (10, .d (I rc2)), (13, .sl 163 hd120), (14, .sl 168 hd121), (15, .d (I v818)), (16, .ptr 16 y 0)]) (fun y => [(163, .arr hd120 3 1 false (List.map I l78)), (168, .arr hd121 3 1 false (List.map I l79)), (16, .cells y [.d (I c160.fLo), .d (I c160.fHi)])]) (fun _ => True) ?_ ?_
                    · obtain ⟨x374, hx1241, hx1240⟩ := obind hx1240
                      obtain ⟨r388, hx1242, hx1240⟩ := obind hx1240
                      conv => whnf
                      refine DrawG.mk (.take 0 (.take 1 (.take 2 (.take 3 (.take 4 (.alt 5 [3, 2, 1] (.alt 6 [3, 2, 1] (.alt 7 [] .done .nil) .nil) (.alt 6 [4, 3, 2, 1, 0] (.alt 5 [3, 2, 1] (.alt 7 [] .done .nil) .nil) .nil))))))) (by kernel_rfl) ?_
                      conv => whnf
                      refine Side.mk rfl ⟨_, idx_0 hx1241, idx_map _ hx1241, ?_⟩
                      conv => whnf
                      refine Both.mk ?_ ?_
                      · conv => whnf
                        refine CallG.pure _ (ref01SpanC hN hx1242) ?_
                        conv => whnf
                        refine Side.mk rfl ⟨_, idx_0 hx1241, idx_map _ hx1241, ?_⟩
                        conv => whnf
                        refine Need.mk (AV.le_refl _) ?_
                        conv => whnf
                        refine Need.mk (AV.le_refl _) ?_
                        conv => whnf
                        refine Need.mk (AV.le_refl _) ?_
                        conv => whnf
                        refine Both.mk ?_ trivial
                        conv => whnf
                        intro b959
                        conv => whnf
                        refine Side.mk rfl ⟨_, idx_0 hx1241, idx_map _ hx1241, ?_⟩
                        conv => whnf
                        refine Need.mk (AV.le_refl _) ?_
                        conv => whnf
                        refine Need.mk (AV.le_refl _) ?_
                        conv => whnf
                        refine Need.mk (AV.le_refl _) ?_
                        conv => whnf
                        refine Both.mk ?_ trivial
                        conv => whnf
                        refine Side.mk rfl ?_
                        cases hx1240
                        conv => whnf
                        refine ⟨b959, trivial, Sub.eq rfl ?_ ?_⟩
                        · repeat ((conv => whnf); refine Need.mk rfl ?_)
                          exact trivial
                        · conv => whnf
                          refine Need.mk (OLe.refl _) ?_
                          conv => whnf
                          refine Need.mk (OLe.refl _) ?_
                          conv => whnf
                          refine Need.mk (OLe.refl _) ?_
                          exact trivial
                      · conv => whnf
                        refine Both.mk ?_ trivial
                        conv => whnf
                        intro b960
                        conv => whnf
                        refine Need.mk (AV.le_refl _) ?_
                        conv => whnf
                        refine Side.mk rfl ⟨_, idx_0 hx1241, idx_map _ hx1241, ?_⟩
                        conv => whnf
                        refine Need.mk (AV.le_refl _) ?_
                        conv => whnf
                        refine Need.mk (AV.le_refl _) ?_
                        conv => whnf
                        refine Need.mk (AV.le_refl _) ?_
                        conv => whnf
                        refine Need.mk (AV.le_refl _) ?_
                        conv => whnf
                        refine Both.mk ?_ trivial
                        conv => whnf
                        refine CallG.pure _ (ref01SpanC hN hx1242) ?_
                        conv => whnf
                        refine Side.mk rfl ⟨_, idx_0 hx1241, idx_map _ hx1241, ?_⟩
                        conv => whnf
                        refine Need.mk (AV.le_refl _) ?_
                        conv => whnf
                        refine Need.mk (AV.le_refl _) ?_
                        conv => whnf
                        refine Need.mk (AV.le_refl _) ?_
                        conv => whnf
                        refine Both.mk ?_ trivial
                        conv => whnf
                        refine Side.mk rfl ?_
                        cases hx1240
                        conv => whnf
                        refine ⟨b960, trivial, Sub.eq rfl ?_ ?_⟩
                        · repeat ((conv => whnf); refine Need.mk rfl ?_)
                          exact trivial
                        · conv => whnf
                          refine Need.mk (OLe.refl _) ?_
                          conv => whnf
                          refine Need.mk (OLe.refl _) ?_
                          conv => whnf
                          refine Need.mk (OLe.refl _) ?_
                          exact trivial
                    · rintro bb160 _
                      obtain ⟨⟨v929, v930⟩, hx1282, hx1237⟩ := obind hx1237
                      conv => whnf
                      refine SeqG.mk Unit (fun y => [(1, .d (.list 1 (List.map (fun x => .list 1 (List.map I x)) a2))), (2, .d (.ref (.agg [I a1.fFrames, I a1.fPins, I a1.fBalls, I a1.fTap]))), (8, .d (.list 1 (List.map I ra2))), (9, .d (.list 1 (List.map I rb2))), (10, .d (I rc2)), (13, .sl 163 hd120), (14, .sl 168 hd121), (15, .d (I v818)), (17, .d (.bool v929)), (18, .d (.bool v930))]) (fun y => [(163, .arr hd120 3 1 false (List.map I l78)), (168, .arr hd121 3 1 false (List.map I l79))]) (fun _ => True) ?_ ?_
                      · conv => whnf
                        refine LoopG.mk (Nat × (Bool × Bool × Int)) (fun y => [(1, .d (.list 1 (List.map (fun x => .list 1 (List.map I x)) a2))), (2, .d (.ref (.agg [I a1.fFrames, I a1.fPins, I a1.fBalls, I a1.fTap]))), (8, .d (.list 1 (List.map I ra2))), (9, .d (.list 1 (List.map I rb2))), (10, .d (I rc2)), (13, .sl 163 hd120), (14, .sl 168 hd121), (15, .d (I v818)), (16, .ptr 16 bb160 0), (17, .d (.bool y.2.1)), (18, .d (.bool y.2.2.1)), (19, .d (I y.2.2.2))]) (fun y => [(163, .arr hd120 3 1 false (List.map I l78)), (168, .arr hd121 3 1 false (List.map I l79)), (16, .cells bb160 [.d (I c160.fLo), .d (I c160.fHi)])]) (fun y => loopN (fun rr x => law01FrameAheads_b2 N a1 a2 v818 c160 rr x.1 x.2.1 x.2.2) y.1 y.2 = some (v929, v930)) (fun y => y.1) (N, (true, true, 0)) hx1282 (Sub.eq rfl ?_ ?_) ?_
                        · repeat ((conv => whnf); refine Need.mk rfl ?_)
                          exact trivial
                        · conv => whnf
                          refine Need.mk (OLe.refl _) ?_
                          conv => whnf
                          refine Need.mk (OLe.refl _) ?_
                          conv => whnf
                          refine Need.mk (OLe.refl _) ?_
                          exact trivial
                        · rintro ⟨n29, ⟨v960, v961, v962⟩⟩ hl29
                          obtain ⟨n29, rfl, hl29⟩ := loopN_some hl29
                          replace hl29 : law01FrameAheads_b2 N a1 a2 v818 c160 (loopN (fun rr x => law01FrameAheads_b2 N a1 a2 v818 c160 rr x.1 x.2.1 x.2.2) n29) v960 v961 v962 = some (v929, v930) := hl29
                          rw [law01FrameAheads_b2] at hl29
                          conv => whnf
                          refine Ln.mk _ (List.length_map _) ?_
                          conv => whnf
                          refine Br.mk (fun hc1009 => ?_) (fun hc1009 => ?_)
                          · replace hl29 := ite_t hc1009 hl29
                            obtain ⟨⟨v964, v965⟩, hx1315, hl29⟩ := obind hl29
                            conv => whnf
                            refine SeqG.mk Unit (fun y => [(1, .d (.list 1 (List.map (fun x => .list 1 (List.map I x)) a2))), (2, .d (.ref (.agg [I a1.fFrames, I a1.fPins, I a1.fBalls, I a1.fTap]))), (8, .d (.list 1 (List.map I ra2))), (9, .d (.list 1 (List.map I rb2))), (10, .d (I rc2)), (13, .sl 163 hd120), (14, .sl 168 hd121), (15, .d (I v818)), (16, .ptr 16 bb160 0), (17, .d (.bool v964)), (18, .d (.bool v965)), (19, .d (I v962))]) (fun y => [(163, .arr hd120 3 1 false (List.map I l78)), (168, .arr hd121 3 1 false (List.map I l79)), (16, .cells bb160 [.d (I c160.fLo), .d (I c160.fHi)])]) (fun _ => True) ?_ ?_
                            · obtain ⟨c172, hx1318, hx1315⟩ := obind hx1315
                              conv => whnf
                              refine SeqG.mk Nat (fun y => [(1, .d (.list 1 (List.map (fun x => .list 1 (List.map I x)) a2))), (2, .d (.ref (.agg [I a1.fFrames, I a1.fPins, I a1.fBalls, I a1.fTap]))), (8, .d (.list 1 (List.map I ra2))), (9, .d (.list 1 (List.map I rb2))), (10, .d (I rc2)), (13, .sl 163 hd120), (14, .sl 168 hd121), (15, .d (I v818)), (16, .ptr 16 bb160 0), (17, .d (.bool v960)), (18, .d (.bool v961)), (19, .d (I v962)), (20, .ptr 20 y 0)]) (fun y => [(163, .arr hd120 3 1 false (List.map I l78)), (168, .arr hd121 3 1 false (List.map I l79)), (16, .cells bb160 [.d (I c160.fLo), .d (I c160.fHi)]), (20, .cells y [.d (I c172.fLo), .d (I c172.fHi)])]) (fun _ => True) ?_ ?_
                              · obtain ⟨x398, hx1319, hx1318⟩ := obind hx1318
                                obtain ⟨r412, hx1320, hx1318⟩ := obind hx1318
                                conv => whnf
                                refine DrawG.mk (.take 0 (.take 1 (.take 2 (.take 3 (.take 4 (.alt 5 [3, 2, 1] (.alt 6 [3, 2, 1] (.alt 7 [] .done .nil) .nil) (.alt 6 [4, 3, 2, 1, 0] (.alt 5 [3, 2, 1] (.alt 7 [] .done .nil) .nil) .nil))))))) (by kernel_rfl) ?_
                                conv => whnf
                                refine Side.mk rfl ⟨_, idx_0 hx1319, idx_map _ hx1319, ?_⟩
                                conv => whnf
                                refine Both.mk ?_ ?_
                                · conv => whnf
                                  refine CallG.pure _ (ref01SpanC hN hx1320) ?_
                                  conv => whnf
                                  refine Side.mk rfl ⟨_, idx_0 hx1319, idx_map _ hx1319, ?_⟩
                                  conv => whnf
                                  refine Need.mk (AV.le_refl _) ?_
                                  conv => whnf
                                  refine Need.mk (AV.le_refl _) ?_
                                  conv => whnf
                                  refine Need.mk (AV.le_refl _) ?_
                                  conv => whnf
                                  refine Both.mk ?_ trivial
                                  conv => whnf
                                  intro b1031
                                  conv => whnf
                                  refine Side.mk rfl ⟨_, idx_0 hx1319, idx_map _ hx1319, ?_⟩
                                  conv => whnf
                                  refine Need.mk (AV.le_refl _) ?_
                                  conv => whnf
                                  refine Need.mk (AV.le_refl _) ?_
                                  conv => whnf
                                  refine Need.mk (AV.le_refl _) ?_
                                  conv => whnf
                                  refine Both.mk ?_ trivial
                                  conv => whnf
                                  refine Side.mk rfl ?_
                                  cases hx1318
                                  conv => whnf
                                  refine ⟨b1031, trivial, Sub.eq rfl ?_ ?_⟩
                                  · repeat ((conv => whnf); refine Need.mk rfl ?_)
                                    exact trivial
                                  · conv => whnf
                                    refine Need.mk (OLe.refl _) ?_
                                    conv => whnf
                                    refine Need.mk (OLe.refl _) ?_
                                    conv => whnf
                                    refine Need.mk (OLe.refl _) ?_
                                    conv => whnf
                                    refine Need.mk (OLe.refl _) ?_
                                    exact trivial
                                · conv => whnf
                                  refine Both.mk ?_ trivial
                                  conv => whnf
                                  intro b1032
                                  conv => whnf
                                  refine Need.mk (AV.le_refl _) ?_
                                  conv => whnf
                                  refine Side.mk rfl ⟨_, idx_0 hx1319, idx_map _ hx1319, ?_⟩
                                  conv => whnf
                                  refine Need.mk (AV.le_refl _) ?_
                                  conv => whnf
                                  refine Need.mk (AV.le_refl _) ?_
                                  conv => whnf
                                  refine Need.mk (AV.le_refl _) ?_
                                  conv => whnf
                                  refine Need.mk (AV.le_refl _) ?_
                                  conv => whnf
                                  refine Both.mk ?_ trivial
                                  conv => whnf
                                  refine CallG.pure _ (ref01SpanC hN hx1320) ?_
                                  conv => whnf
                                  refine Side.mk rfl ⟨_, idx_0 hx1319, idx_map _ hx1319, ?_⟩
                                  conv => whnf
                                  refine Need.mk (AV.le_refl _) ?_
                                  conv => whnf
                                  refine Need.mk (AV.le_refl _) ?_
                                  conv => whnf
                                  refine Need.mk (AV.le_refl _) ?_
                                  conv => whnf
                                  refine Both.mk ?_ trivial
                                  conv => whnf
                                  refine Side.mk rfl ?_
                                  cases hx1318
                                  conv => whnf
                                  refine ⟨b1032, trivial, Sub.eq rfl ?_ ?_⟩
                                  · repeat ((conv => whnf); refine Need.mk rfl ?_)
                                    exact trivial
                                  · conv => whnf
                                    refine Need.mk (OLe.refl _) ?_
                                    conv => whnf
                                    refine Need.mk (OLe.refl _) ?_
                                    conv => whnf
                                    refine Need.mk (OLe.refl _) ?_
                                    conv => whnf
                                    refine Need.mk (OLe.refl _) ?_
                                    exact trivial
                              · rintro bb172 _
                                obtain ⟨v966, hx1321, hx1315⟩ := obind hx1315
                                conv => whnf
                                refine SeqG.mk Unit (fun y => [(1, .d (.list 1 (List.map (fun x => .list 1 (List.map I x)) a2))), (2, .d (.ref (.agg [I a1.fFrames, I a1.fPins, I a1.fBalls, I a1.fTap]))), (8, .d (.list 1 (List.map I ra2))), (9, .d (.list 1 (List.map I rb2))), (10, .d (I rc2)), (13, .sl 163 hd120), (14, .sl 168 hd121), (15, .d (I v818)), (16, .ptr 16 bb160 0), (17, .d (.bool v966)), (18, .d (.bool v961)), (19, .d (I v962)), (20, .ptr 20 bb172 0)]) (fun y => [(163, .arr hd120 3 1 false (List.map I l78)), (168, .arr hd121 3 1 false (List.map I l79)), (16, .cells bb160 [.d (I c160.fLo), .d (I c160.fHi)]), (20, .cells bb172 [.d (I c172.fLo), .d (I c172.fHi)])]) (fun _ => True) ?_ ?_
                                · conv => whnf
                                  refine Br.mk (fun hc1018 => ?_) (fun hc1018 => ?_)
                                  · replace hx1321 := ite_t hc1018 hx1321
                                    conv => whnf
                                    refine Br.mk (fun hc1019 => ?_) (fun hc1019 => ?_)
                                    · replace hx1321 := ite_f hc1019 hx1321
                                      conv => whnf
                                      refine Side.mk rfl ?_
                                      conv => whnf
                                      refine Side.mk rfl ?_
                                      cases hx1321
                                      conv => whnf
                                      refine ⟨(), trivial, Sub.eq rfl ?_ ?_⟩
                                      · repeat ((conv => whnf); refine Need.mk rfl ?_)
                                        exact trivial
                                      · conv => whnf
                                        refine Need.mk (OLe.refl _) ?_
                                        conv => whnf
                                        refine Need.mk (OLe.refl _) ?_
                                        conv => whnf
                                        refine Need.mk (OLe.refl _) ?_
                                        conv => whnf
                                        refine Need.mk (OLe.refl _) ?_
                                        exact trivial
                                    · replace hx1321 := ite_t hc1019 hx1321
                                      cases hx1321
                                      conv => whnf
                                      refine ⟨(), trivial, Sub.eq rfl ?_ ?_⟩
                                      · repeat ((conv => whnf); refine Need.mk rfl ?_)
                                        exact trivial
                                      · conv => whnf
                                        refine Need.mk (OLe.refl _) ?_
                                        conv => whnf
                                        refine Need.mk (OLe.refl _) ?_
                                        conv => whnf
                                        refine Need.mk (OLe.refl _) ?_
                                        conv => whnf
                                        refine Need.mk (OLe.refl _) ?_
                                        exact trivial
                                  · replace hx1321 := ite_f hc1018 hx1321
                                    cases hx1321
                                    conv => whnf
                                    refine ⟨(), trivial, Sub.eq rfl ?_ ?_⟩
                                    · repeat ((conv => whnf); refine Need.mk rfl ?_)
                                      exact trivial
                                    · conv => whnf
                                      refine Need.mk (OLe.refl _) ?_
                                      conv => whnf
                                      refine Need.mk (OLe.refl _) ?_
                                      conv => whnf
                                      refine Need.mk (OLe.refl _) ?_
                                      conv => whnf
                                      refine Need.mk (OLe.refl _) ?_
                                      exact trivial
                                · rintro _ _
                                  conv => whnf
                                  refine Br.mk (fun hc1020 => ?_) (fun hc1020 => ?_)
                                  · replace hx1315 := ite_t hc1020 hx1315
                                    conv => whnf
                                    refine Br.mk (fun hc1021 => ?_) (fun hc1021 => ?_)
                                    · replace hx1315 := ite_f hc1021 hx1315
                                      conv => whnf
                                      refine Side.mk rfl ?_
                                      conv => whnf
                                      refine Side.mk rfl ?_
                                      cases hx1315
                                      conv => whnf
                                      refine ⟨(), trivial, Sub.eq rfl ?_ ?_⟩
                                      · repeat ((conv => whnf); refine Need.mk rfl ?_)
                                        exact trivial
                                      · conv => whnf
                                        refine Need.mk (OLe.refl _) ?_
                                        conv => whnf
                                        refine Need.mk (OLe.refl _) ?_
                                        conv => whnf
                                        refine Need.mk (OLe.refl _) ?_
                                        exact trivial
                                    · replace hx1315 := ite_t hc1021 hx1315
                                      cases hx1315
                                      conv => whnf
                                      refine ⟨(), trivial, Sub.eq rfl ?_ ?_⟩
                                      · repeat ((conv => whnf); refine Need.mk rfl ?_)
                                        exact trivial
                                      · conv => whnf
                                        refine Need.mk (OLe.refl _) ?_
                                        conv => whnf
                                        refine Need.mk (OLe.refl _) ?_
                                        conv => whnf
                                        refine Need.mk (OLe.refl _) ?_
                                        exact trivial
                                  · replace hx1315 := ite_f hc1020 hx1315
                                    cases hx1315
                                    conv => whnf
                                    refine ⟨(), trivial, Sub.eq rfl ?_ ?_⟩
                                    · repeat ((conv => whnf); refine Need.mk rfl ?_)
                                      exact trivial
                                    · conv => whnf
                                      refine Need.mk (OLe.refl _) ?_
                                      conv => whnf
                                      refine Need.mk (OLe.refl _) ?_
                                      conv => whnf
                                      refine Need.mk (OLe.refl _) ?_
                                      exact trivial
                            · rintro _ _
                              conv => whnf
                              refine ⟨(n29, (v964, v965, w64 (v962 + 1))), hl29, Sub.eq rfl ?_ ?_, Nat.lt_succ_self _⟩
                              · repeat ((conv => whnf); refine Need.mk rfl ?_)
                                exact trivial
                              · conv => whnf
                                refine Need.mk (OLe.refl _) ?_
                                conv => whnf
                                refine Need.mk (OLe.refl _) ?_
                                conv => whnf
                                refine Need.mk (OLe.refl _) ?_
                                exact trivial
                          · replace hl29 := ite_f hc1009 hl29
                            cases hl29
                            conv => whnf
                            refine ⟨(), trivial, Sub.eq rfl ?_ ?_⟩
                            · repeat ((conv => whnf); refine Need.mk rfl ?_)
                              exact trivial
                            · conv => whnf
                              refine Need.mk (OLe.refl _) ?_
                              conv => whnf
                              refine Need.mk (OLe.refl _) ?_
                              exact trivial
                      · rintro _ _
                        obtain ⟨l87, hx1323, hx1237⟩ := obind hx1237
                        conv => whnf
                        refine SeqG.mk Value (fun y => [(1, .d (.list 1 (List.map (fun x => .list 1 (List.map I x)) a2))), (2, .d (.ref (.agg [I a1.fFrames, I a1.fPins, I a1.fBalls, I a1.fTap]))), (8, .d (.list 1 (List.map I ra2))), (9, .d (.list 1 (List.map I rb2))), (10, .d (I rc2)), (13, .sl 163 y), (14, .sl 168 hd121), (15, .d (I v818)), (18, .d (.bool v930))]) (fun y => [(163, .arr y 3 1 false (List.map I l87)), (168, .arr hd121 3 1 false (List.map I l79))]) (fun _ => True) ?_ ?_
                        · conv => whnf
                          refine Br.mk (fun hc1023 => ?_) (fun hc1023 => ?_)
                          · replace hx1323 := ite_t hc1023 hx1323
                            conv => whnf
                            intro hd134
                            obtain ⟨l88, hx1324, hx1323⟩ := obind hx1323
                            conv => whnf
                            refine Side.mk ⟨rfl, rfl⟩ ?_
                            conv => whnf
                            refine Side.mk ⟨rfl, rfl, rfl⟩ (Need.mk (app_need hN hx1324 (by decide)) (Eqv.mk (List.map I l88) (app_map _ hx1324) ?_))
                            conv => whnf
                            intro hd135
                            cases hx1323
                            conv => whnf
                            refine ⟨hd135, trivial, Sub.eq rfl ?_ ?_⟩
                            · repeat ((conv => whnf); refine Need.mk rfl ?_)
                              exact trivial
                            · conv => whnf
                              refine Need.mk (OLe.refl _) ?_
                              conv => whnf
                              refine Need.mk (OLe.refl _) ?_
                              exact trivial
                          · replace hx1323 := ite_f hc1023 hx1323
                            cases hx1323
                            conv => whnf
                            refine ⟨hd120, trivial, Sub.eq rfl ?_ ?_⟩
                            · repeat ((conv => whnf); refine Need.mk rfl ?_)
                              exact trivial
                            · conv => whnf
                              refine Need.mk (OLe.refl _) ?_
                              conv => whnf
                              refine Need.mk (OLe.refl _) ?_
                              exact trivial
                        · rintro hd133 _
                          conv => whnf
                          refine Br.mk (fun hc1024 => ?_) (fun hc1024 => ?_)
                          · replace hx1237 := ite_t hc1024 hx1237
                            conv => whnf
                            intro hd136
                            obtain ⟨l89, hx1325, hx1237⟩ := obind hx1237
                            conv => whnf
                            refine Side.mk ⟨rfl, rfl⟩ ?_
                            conv => whnf
                            refine Side.mk ⟨rfl, rfl, rfl⟩ (Need.mk (app_need hN hx1325 (by decide)) (Eqv.mk (List.map I l89) (app_map _ hx1325) ?_))
                            conv => whnf
                            intro hd137
                            cases hx1237
                            conv => whnf
                            refine ⟨(hd133, hd137), trivial, Sub.eq rfl ?_ ?_⟩
                            · repeat ((conv => whnf); refine Need.mk rfl ?_)
                              exact trivial
                            · conv => whnf
                              refine Need.mk (OLe.refl _) ?_
                              conv => whnf
                              refine Need.mk (OLe.refl _) ?_
                              exact trivial
                          · replace hx1237 := ite_f hc1024 hx1237
                            cases hx1237
                            conv => whnf
                            refine ⟨(hd133, hd121), trivial, Sub.eq rfl ?_ ?_⟩
                            · repeat ((conv => whnf); refine Need.mk rfl ?_)
                              exact trivial
                            · conv => whnf
                              refine Need.mk (OLe.refl _) ?_
                              conv => whnf
                              refine Need.mk (OLe.refl _) ?_
                              exact trivial
                  · rintro ⟨hd129, hd130⟩ _
                    conv => whnf
                    refine ⟨(n25, (w64 (v818 + 1), l84, l85), hd129, hd130), hl25, Sub.eq rfl ?_ ?_, Nat.lt_succ_self _⟩
                    · repeat ((conv => whnf); refine Need.mk rfl ?_)
                      exact trivial
                    · conv => whnf
                      refine Need.mk (OLe.refl _) ?_
                      conv => whnf
                      refine Need.mk (OLe.refl _) ?_
                      exact trivial
                · replace hl25 := ite_f hc874 hl25
                  cases hl25
                  conv => whnf
                  refine ⟨(hd120, hd121), trivial, Sub.eq rfl ?_ ?_⟩
                  · repeat ((conv => whnf); refine Need.mk rfl ?_)
                    exact trivial
                  · conv => whnf
                    refine Need.mk (OLe.refl _) ?_
                    conv => whnf
                    refine Need.mk (OLe.refl _) ?_
                    exact trivial
            · rintro ⟨hd80, hd81⟩ _
              obtain ⟨v967, hx1329, h⟩ := obind h
              conv => whnf
              refine SeqG.mk Unit (fun y => [(4, .d (.bool v967))]) (fun y => []) (fun _ => True) ?_ ?_
              · conv => whnf
                refine Br.mk (fun hc1028 => ?_) (fun hc1028 => ?_)
                · replace hx1329 := ite_t hc1028 hx1329
                  obtain ⟨r416, hx1330, hx1329⟩ := obind hx1329
                  conv => whnf
                  refine Side.mk rfl ?_
                  conv => whnf
                  refine CallG.pure _ (law01IntsC hN hx1330) ?_
                  conv => whnf
                  refine Br.mk (fun hc1029 => ?_) (fun hc1029 => ?_)
                  · replace hx1329 := ite_t hc1029 hx1329
                    obtain ⟨r417, hx1331, hx1329⟩ := obind hx1329
                    conv => whnf
                    refine Side.mk rfl ?_
                    conv => whnf
                    refine CallG.pure _ (law01IntsC hN hx1331) ?_
                    conv => whnf
                    refine Br.mk (fun hc1030 => ?_) (fun hc1030 => ?_)
                    · replace hx1329 := ite_t hc1030 hx1329
                      obtain ⟨r418, hx1332, hx1329⟩ := obind hx1329
                      conv => whnf
                      refine CallG.pure _ (law01WakesC hN hx1332) ?_
                      cases hx1329
                      conv => whnf
                      refine ⟨(), trivial, Sub.eq rfl ?_ ?_⟩
                      · repeat ((conv => whnf); refine Need.mk rfl ?_)
                        exact trivial
                      · exact trivial
                    · replace hx1329 := ite_f hc1030 hx1329
                      cases hx1329
                      conv => whnf
                      refine ⟨(), trivial, Sub.eq rfl ?_ ?_⟩
                      · repeat ((conv => whnf); refine Need.mk rfl ?_)
                        exact trivial
                      · exact trivial
                  · replace hx1329 := ite_f hc1029 hx1329
                    cases hx1329
                    conv => whnf
                    refine ⟨(), trivial, Sub.eq rfl ?_ ?_⟩
                    · repeat ((conv => whnf); refine Need.mk rfl ?_)
                      exact trivial
                    · exact trivial
                · replace hx1329 := ite_f hc1028 hx1329
                  cases hx1329
                  conv => whnf
                  refine ⟨(), trivial, Sub.eq rfl ?_ ?_⟩
                  · repeat ((conv => whnf); refine Need.mk rfl ?_)
                    exact trivial
                  · exact trivial
              · rintro _ _
                conv => whnf
                cases h
                exact rfl
end Go.Proofs.Ythjafigloabfpaa
