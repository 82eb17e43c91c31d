/-
  Walks: what the typed functions compute, the program’s functions return.
-/
import Derived.Test.YthjafigloabfpaaWe
import Derived.Test.YthjafigloabfpaaWb
namespace Go.Proofs.Ythjafigloabfpaa
open Go Go.Abs Go.Kp
set_option maxRecDepth 100000
set_option maxHeartbeats 8000000
set_option linter.all false

theorem ref01ReadC {N : Nat} (hN : N ≤ 1073741824) {a1 : Ref01Law} {a2 : List Int} {r : Ref01Game} (h : ref01Read N a1 a2 = some r) :
    ACalls Try.prog 27 [.d (.agg [I a1.fFrames, I a1.fPins, I a1.fBalls, I a1.fTap]), .d (.list 1 (List.map I a2))] [] fun e os => e = .ret (.d (.agg [.list 1 (List.map (fun x => .list 1 (List.map I x)) r.fFrames), .list 1 (List.map I r.fCounts), I r.fStanding, .bool r.fDone])) ∧ os = [] := by
  refine acalls_f (fresh := false) tt_ok dr_ok ⟨[2], [41], [], [], [2, 1003, 1006, 1009], 0⟩ Try.func27 rfl Try.call27 rfl ?_
  unfold ref01Read at h
  conv => whnf
  intro b2
  obtain ⟨⟨ra2, rb2⟩, hx2, h⟩ := obind h
  conv => whnf
  refine CallG.pure _ (ref01PlayC hN hx2) ?_
  conv => whnf
  intro b4
  conv => whnf
  refine Side.mk rfl ?_
  obtain ⟨⟨c1, c2⟩, hx4, h⟩ := obind h
  conv => whnf
  refine SeqG.mk Nat (fun y => [(1, .d (.list 1 (List.map I a2))), (4, .ptr 4 b2 0), (5, .ptr 5 b4 0), (6, .d (.list 2 (List.map Ref01Ball.enc rb2))), (7, .ptr 7 y 0)]) (fun y => [(4, .cells b2 [.nils 1, .nils 1, .d (I 0), .d (.bool false)]), (5, .cells b4 [.d (I ra2.fFrame), .d (I ra2.fThrown), .d (I ra2.fStanding), .d (.bool ra2.fSet), .d (I ra2.fHas)]), (7, .cells y [.nils 1, .d (.list 1 (List.map I c1)), .d (I 0), .d (.bool c2)])]) (fun _ => True) ?_ ?_
  · obtain ⟨r2, hx5, hx4⟩ := obind hx4
    conv => whnf
    refine DrawG.mk (.take 0 (.take 1 (.take 3 (.take 4 (.take 5 (.take 6 (.take 7 (.alt 2 [7, 6, 5, 4, 3] (.alt 8 [6, 5, 4, 3] (.alt 9 [6, 5, 4, 3] (.alt 10 [] .done .nil) .nil) (.alt 9 [7, 6, 5, 4, 3] (.alt 8 [6, 5, 4, 3] (.alt 10 [] .done .nil) .nil) .nil)) (.alt 9 [7, 6, 5, 4, 3, 1, 0] (.alt 2 [7, 6, 5, 4, 3] (.alt 8 [6, 5, 4, 3] (.alt 10 [] .done .nil) .nil) .nil) .nil))))))))) (by kernel_rfl) ?_
    conv => whnf
    refine Side.mk rfl ?_
    conv => whnf
    refine Both.mk ?_ ?_
    · conv => whnf
      refine CallG.pure _ (ref01CountsC hN hx5) ?_
      conv => whnf
      refine Need.mk (AV.le_refl _) ?_
      conv => whnf
      refine Need.mk (AV.le_refl _) ?_
      conv => whnf
      refine Need.mk (AV.le_refl _) ?_
      conv => whnf
      refine Side.mk rfl ?_
      conv => whnf
      refine Need.mk (AV.le_refl _) ?_
      conv => whnf
      refine Need.mk (AV.le_refl _) ?_
      conv => whnf
      refine Both.mk ?_ ?_
      · conv => whnf
        refine Need.mk (AV.le_refl _) ?_
        conv => whnf
        refine Need.mk (AV.le_refl _) ?_
        conv => whnf
        refine Side.mk rfl ?_
        conv => whnf
        refine Need.mk (AV.le_refl _) ?_
        conv => whnf
        refine Need.mk (AV.le_refl _) ?_
        conv => whnf
        refine Both.mk ?_ trivial
        conv => whnf
        intro b10
        conv => whnf
        refine Need.mk (AV.le_refl _) ?_
        conv => whnf
        refine Need.mk (AV.le_refl _) ?_
        conv => whnf
        refine Side.mk rfl ?_
        conv => whnf
        refine Need.mk (AV.le_refl _) ?_
        conv => whnf
        refine Need.mk (AV.le_refl _) ?_
        conv => whnf
        refine Both.mk ?_ trivial
        conv => whnf
        refine Side.mk rfl ?_
        cases hx4
        conv => whnf
        refine ⟨b10, trivial, Sub.eq rfl ?_ ?_⟩
        · repeat ((conv => whnf); refine Need.mk rfl ?_)
          exact trivial
        · conv => whnf
          refine Need.mk (OLe.refl _) ?_
          conv => whnf
          refine Need.mk (OLe.refl _) ?_
          conv => whnf
          refine Need.mk (OLe.refl _) ?_
          exact trivial
      · conv => whnf
        refine Both.mk ?_ trivial
        conv => whnf
        intro b11
        conv => whnf
        refine Need.mk (AV.le_refl _) ?_
        conv => whnf
        refine Need.mk (AV.le_refl _) ?_
        conv => whnf
        refine Need.mk (AV.le_refl _) ?_
        conv => whnf
        refine Side.mk rfl ?_
        conv => whnf
        refine Need.mk (AV.le_refl _) ?_
        conv => whnf
        refine Need.mk (AV.le_refl _) ?_
        conv => whnf
        refine Both.mk ?_ trivial
        conv => whnf
        refine Need.mk (AV.le_refl _) ?_
        conv => whnf
        refine Need.mk (AV.le_refl _) ?_
        conv => whnf
        refine Side.mk rfl ?_
        conv => whnf
        refine Need.mk (AV.le_refl _) ?_
        conv => whnf
        refine Need.mk (AV.le_refl _) ?_
        conv => whnf
        refine Both.mk ?_ trivial
        conv => whnf
        refine Side.mk rfl ?_
        cases hx4
        conv => whnf
        refine ⟨b11, trivial, Sub.eq rfl ?_ ?_⟩
        · repeat ((conv => whnf); refine Need.mk rfl ?_)
          exact trivial
        · conv => whnf
          refine Need.mk (OLe.refl _) ?_
          conv => whnf
          refine Need.mk (OLe.refl _) ?_
          conv => whnf
          refine Need.mk (OLe.refl _) ?_
          exact trivial
    · conv => whnf
      refine Both.mk ?_ trivial
      conv => whnf
      intro b12
      conv => whnf
      refine Need.mk (AV.le_refl _) ?_
      conv => whnf
      refine Need.mk (AV.le_refl _) ?_
      conv => whnf
      refine Need.mk (AV.le_refl _) ?_
      conv => whnf
      refine Side.mk rfl ?_
      conv => whnf
      refine Need.mk (AV.le_refl _) ?_
      conv => whnf
      refine Need.mk (AV.le_refl _) ?_
      conv => whnf
      refine Need.mk (AV.le_refl _) ?_
      conv => whnf
      refine Need.mk (AV.le_refl _) ?_
      conv => whnf
      refine Both.mk ?_ trivial
      conv => whnf
      refine CallG.pure _ (ref01CountsC hN hx5) ?_
      conv => whnf
      refine Need.mk (AV.le_refl _) ?_
      conv => whnf
      refine Need.mk (AV.le_refl _) ?_
      conv => whnf
      refine Need.mk (AV.le_refl _) ?_
      conv => whnf
      refine Side.mk rfl ?_
      conv => whnf
      refine Need.mk (AV.le_refl _) ?_
      conv => whnf
      refine Need.mk (AV.le_refl _) ?_
      conv => whnf
      refine Both.mk ?_ trivial
      conv => whnf
      refine Need.mk (AV.le_refl _) ?_
      conv => whnf
      refine Need.mk (AV.le_refl _) ?_
      conv => whnf
      refine Side.mk rfl ?_
      conv => whnf
      refine Need.mk (AV.le_refl _) ?_
      conv => whnf
      refine Need.mk (AV.le_refl _) ?_
      conv => whnf
      refine Both.mk ?_ trivial
      conv => whnf
      refine Side.mk rfl ?_
      cases hx4
      conv => whnf
      refine ⟨b12, trivial, Sub.eq rfl ?_ ?_⟩
      · repeat ((conv => whnf); refine Need.mk rfl ?_)
        exact trivial
      · conv => whnf
        refine Need.mk (OLe.refl _) ?_
        conv => whnf
        refine Need.mk (OLe.refl _) ?_
        conv => whnf
        refine Need.mk (OLe.refl _) ?_
        exact trivial
  · rintro bb1 _
    obtain ⟨l28, hx71, h⟩ := obind h
    conv => whnf
    refine SeqG.mk (Value × (Nat → Value)) (fun y => [(4, .ptr 4 b2 0), (5, .ptr 5 b4 0), (7, .ptr 7 bb1 0)]) (fun y => [(4, .cells b2 [.nils 1, .nils 1, .d (I 0), .d (.bool false)]), (5, .cells b4 [.d (I ra2.fFrame), .d (I ra2.fThrown), .d (I ra2.fStanding), .d (.bool ra2.fSet), .d (I ra2.fHas)]), (7, .cells bb1 [.sl 42 y.1, .d (.list 1 (List.map I c1)), .d (I 0), .d (.bool c2)]), (42, .rows y.1 24 3 1 y.2 none (List.map (List.map I) l28))]) (fun _ => True) ?_ ?_
    · conv => whnf
      refine LoopG.mk (Nat × (Int × (List (List Int))) × Value × (Nat → Value)) (fun y => [(1, .d (.list 1 (List.map I a2))), (4, .ptr 4 b2 0), (5, .ptr 5 b4 0), (6, .d (.list 2 (List.map Ref01Ball.enc rb2))), (7, .ptr 7 bb1 0), (8, .d (I y.2.1.1))]) (fun y => [(4, .cells b2 [.nils 1, .nils 1, .d (I 0), .d (.bool false)]), (5, .cells b4 [.d (I ra2.fFrame), .d (I ra2.fThrown), .d (I ra2.fStanding), .d (.bool ra2.fSet), .d (I ra2.fHas)]), (7, .cells bb1 [.sl 42 y.2.2.1, .d (.list 1 (List.map I c1)), .d (I 0), .d (.bool c2)]), (42, .rows y.2.2.1 24 3 1 y.2.2.2 none (List.map (List.map I) y.2.1.2))]) (fun y => loopN (fun rr x => ref01Read_b1 N a2 rb2 rr x.1 x.2) y.1 y.2.1 = some l28) (fun y => y.1) (N, (0, []), (.slice none 0 0), (fun _ => .slice none 0 0)) hx71 (Sub.eq rfl ?_ ?_) ?_
      · repeat ((conv => whnf); refine Need.mk rfl ?_)
        exact trivial
      · conv => whnf
        refine Need.mk (OLe.refl _) ?_
        conv => whnf
        refine Need.mk (OLe.refl _) ?_
        conv => whnf
        refine Need.mk (OLe.cells _ _ _ (by repeat (first | exact trivial | ((conv => whnf); refine Need.mk rfl ?_)))) ?_
        conv => whnf
        refine Need.mk (OLe.nilrows _ _ _ _ _) ?_
        exact trivial
      · rintro ⟨n2, ⟨v8, l46⟩, hd96, hs56⟩ hl2
        obtain ⟨n2, rfl, hl2⟩ := loopN_some hl2
        replace hl2 : ref01Read_b1 N a2 rb2 (loopN (fun rr x => ref01Read_b1 N a2 rb2 rr x.1 x.2) n2) v8 l46 = some l28 := hl2
        rw [ref01Read_b1] at hl2
        conv => whnf
        refine Ln.mk _ (List.length_map _) ?_
        conv => whnf
        refine Br.mk (fun hc32 => ?_) (fun hc32 => ?_)
        · replace hl2 := ite_t hc32 hl2
          obtain ⟨l51, hx125, hl2⟩ := obind hl2
          conv => whnf
          refine SeqG.mk (Value × (Nat → Value)) (fun y => [(1, .d (.list 1 (List.map I a2))), (4, .ptr 4 b2 0), (5, .ptr 5 b4 0), (6, .d (.list 2 (List.map Ref01Ball.enc rb2))), (7, .ptr 7 bb1 0), (8, .d (I v8))]) (fun y => [(4, .cells b2 [.nils 1, .nils 1, .d (I 0), .d (.bool false)]), (5, .cells b4 [.d (I ra2.fFrame), .d (I ra2.fThrown), .d (I ra2.fStanding), .d (.bool ra2.fSet), .d (I ra2.fHas)]), (7, .cells bb1 [.sl 42 y.1, .d (.list 1 (List.map I c1)), .d (I 0), .d (.bool c2)]), (42, .rows y.1 24 3 1 y.2 none (List.map (List.map I) l51))]) (fun _ => True) ?_ ?_
          · obtain ⟨l53, hx129, hx125⟩ := obind hx125
            conv => whnf
            refine SeqG.mk (Value × (Nat → Value)) (fun y => [(1, .d (.list 1 (List.map I a2))), (4, .ptr 4 b2 0), (5, .ptr 5 b4 0), (6, .d (.list 2 (List.map Ref01Ball.enc rb2))), (7, .ptr 7 bb1 0), (8, .d (I v8))]) (fun y => [(4, .cells b2 [.nils 1, .nils 1, .d (I 0), .d (.bool false)]), (5, .cells b4 [.d (I ra2.fFrame), .d (I ra2.fThrown), .d (I ra2.fStanding), .d (.bool ra2.fSet), .d (I ra2.fHas)]), (7, .cells bb1 [.sl 42 y.1, .d (.list 1 (List.map I c1)), .d (I 0), .d (.bool c2)]), (42, .rows y.1 24 3 1 y.2 none (List.map (List.map I) l53))]) (fun _ => True) ?_ ?_
            · obtain ⟨x81, hx131, hx129⟩ := obind hx129
              conv => whnf
              refine DrawG.mk (.take 0 (.take 1 (.take 2 (.take 3 (.take 4 (.take 5 (.take 6 (.take 7 (.take 8 .done))))))))) (by kernel_rfl) ?_
              conv => whnf
              refine Side.mk rfl ?_
              conv => whnf
              refine Side.mk rfl (LnN.mk _ (List.length_map _) ?_)
              conv => whnf
              refine Side.mk rfl ⟨_, idx_0 hx131, idx_map _ hx131, ?_⟩
              conv => whnf
              refine Br.mk (fun hc36 => ?_) (fun hc36 => ?_)
              · replace hx129 := ite_t hc36 hx129
                conv => whnf
                refine Side.mk rfl ?_
                conv => whnf
                intro hd110
                obtain ⟨l54, hx132, hx129⟩ := obind hx129
                conv => whnf
                refine Side.mk ⟨rfl, rfl⟩ ?_
                conv => whnf
                refine Side.mk ⟨rfl, rfl, rfl⟩ (Need.mk (app_need (f := List.map I) hN hx132 (by decide)) (REqv.mk (List.map (List.map I) l54) (app_map (List.map I) hx132) ?_))
                conv => whnf
                intro hd111 hs65
                conv => whnf
                refine Side.mk rfl ?_
                cases hx129
                conv => whnf
                refine ⟨(hd111, hs65), trivial, Sub.eq rfl ?_ ?_⟩
                · repeat ((conv => whnf); refine Need.mk rfl ?_)
                  exact trivial
                · conv => whnf
                  refine Need.mk (OLe.refl _) ?_
                  conv => whnf
                  refine Need.mk (OLe.refl _) ?_
                  conv => whnf
                  refine Need.mk (OLe.refl _) ?_
                  conv => whnf
                  refine Need.mk (OLe.refl _) ?_
                  exact trivial
              · replace hx129 := ite_f hc36 hx129
                cases hx129
                conv => whnf
                refine ⟨(hd96, hs56), trivial, Sub.eq rfl ?_ ?_⟩
                · repeat ((conv => whnf); refine Need.mk rfl ?_)
                  exact trivial
                · conv => whnf
                  refine Need.mk (OLe.refl _) ?_
                  conv => whnf
                  refine Need.mk (OLe.refl _) ?_
                  conv => whnf
                  refine Need.mk (OLe.refl _) ?_
                  conv => whnf
                  refine Need.mk (OLe.refl _) ?_
                  exact trivial
            · rintro ⟨hd109, hs64⟩ _
              obtain ⟨x82, hx133, hx125⟩ := obind hx125
              obtain ⟨x83, hx134, hx125⟩ := obind hx125
              obtain ⟨x84, hx135, hx125⟩ := obind hx125
              obtain ⟨l55, hx136, hx125⟩ := obind hx125
              conv => whnf
              refine DrawG.mk (.take 0 (.take 1 (.take 2 (.take 3 (.take 4 (.take 5 (.take 6 (.take 7 (.take 8 (.take 9 (.take 10 (.take 11 (.take 12 (.take 13 (.take 14 (.take 15 (.take 16 (.take 17 (.take 18 (.take 19 (.alt 20 [18, 17, 16, 15, 14, 13, 12, 11, 10, 9, 8, 7, 6, 5, 4, 3, 2, 1, 0] (.alt 21 [18, 17, 16, 14, 13, 12, 11, 10, 9, 8, 7, 6, 5, 4, 3, 2, 1, 0] (.take 22 (.alt 23 [] .done .nil)) .nil) .nil))))))))))))))))))))) (by kernel_rfl) ?_
              conv => whnf
              refine Side.mk rfl ?_
              conv => whnf
              refine Side.mk rfl ⟨_, idx_0 hx133, idx_map _ hx133, ?_⟩
              conv => whnf
              refine Side.mk rfl ?_
              conv => whnf
              refine Side.mk rfl ⟨_, idx_0 hx133, idx_map _ hx133, ?_⟩
              conv => whnf
              refine Side.mk ⟨rfl, rfl⟩ (Need.mk (idx_need _ hx134) ?_)
              conv => whnf
              refine Side.mk ⟨rfl, rfl⟩ (Need.mk (idx_len _ hx134) ?_)
              conv => whnf
              refine Side.mk rfl ⟨_, idx_0 hx135, idx_map _ hx135, ?_⟩
              conv => whnf
              refine Both.mk ?_ trivial
              conv => whnf
              intro hd114
              conv => whnf
              refine Side.mk rfl ⟨_, idx_0 hx135, idx_map _ hx135, ?_⟩
              conv => whnf
              refine Need.mk (AV.le_refl _) ?_
              conv => whnf
              refine Need.mk (AV.le_refl _) ?_
              conv => whnf
              refine Need.mk (AV.le_refl _) ?_
              conv => whnf
              refine Side.mk ⟨rfl, rfl⟩ (Need.mk (idx_len _ hx134) ?_)
              conv => whnf
              refine Need.mk (AV.le_refl _) ?_
              conv => whnf
              refine Side.mk ⟨rfl, rfl⟩ (Need.mk (idx_need _ hx134) ?_)
              conv => whnf
              refine Need.mk (AV.le_refl _) ?_
              conv => whnf
              refine Need.mk (AV.le_refl _) ?_
              conv => whnf
              refine Need.mk (AV.le_refl _) ?_
              conv => whnf
              refine Side.mk rfl ⟨_, idx_0 hx133, idx_map _ hx133, ?_⟩
              conv => whnf
              refine Need.mk (AV.le_refl _) ?_
              conv => whnf
              refine Need.mk (AV.le_refl _) ?_
              conv => whnf
              refine Need.mk (AV.le_refl _) ?_
              conv => whnf
              refine Side.mk rfl ?_
              conv => whnf
              refine Need.mk (AV.le_refl _) ?_
              conv => whnf
              refine Need.mk (AV.le_refl _) ?_
              conv => whnf
              refine Need.mk (AV.le_refl _) ?_
              conv => whnf
              refine Need.mk (AV.le_refl _) ?_
              conv => whnf
              refine Side.mk rfl ⟨_, idx_0 hx133, idx_map _ hx133, ?_⟩
              conv => whnf
              refine Need.mk (AV.le_refl _) ?_
              conv => whnf
              refine Need.mk (AV.le_refl _) ?_
              conv => whnf
              refine Need.mk (AV.le_refl _) ?_
              conv => whnf
              refine Side.mk rfl ?_
              conv => whnf
              refine Need.mk (AV.le_refl _) ?_
              conv => whnf
              refine Need.mk (AV.le_refl _) ?_
              conv => whnf
              refine Both.mk ?_ trivial
              conv => whnf
              refine Side.mk ⟨rfl, rfl⟩ ?_
              conv => whnf
              refine Side.mk ⟨rfl, rfl, rfl⟩ ⟨_, idx_map _ hx134, Need.mk (app_need hN hx136 (by decide)) (Eqv.mk (List.map I l55) (app_map _ hx136) ?_)⟩
              conv => whnf
              intro hd115
              conv => whnf
              refine Side.mk rfl ⟨_, idx_0 hx135, idx_map _ hx135, ?_⟩
              conv => whnf
              refine Need.mk (AV.le_refl _) ?_
              conv => whnf
              refine Need.mk (AV.le_refl _) ?_
              conv => whnf
              refine Need.mk (AV.le_refl _) ?_
              conv => whnf
              refine Side.mk ⟨rfl, rfl⟩ (Need.mk (idx_need _ hx134) ?_)
              conv => whnf
              refine Need.mk (AV.le_refl _) ?_
              conv => whnf
              refine Need.mk (AV.le_refl _) ?_
              conv => whnf
              refine Need.mk (AV.le_refl _) ?_
              conv => whnf
              refine Side.mk rfl ⟨_, idx_0 hx133, idx_map _ hx133, ?_⟩
              conv => whnf
              refine Need.mk (AV.le_refl _) ?_
              conv => whnf
              refine Need.mk (AV.le_refl _) ?_
              conv => whnf
              refine Need.mk (AV.le_refl _) ?_
              conv => whnf
              refine Side.mk rfl ?_
              conv => whnf
              refine Need.mk (AV.le_refl _) ?_
              conv => whnf
              refine Need.mk (AV.le_refl _) ?_
              conv => whnf
              refine Need.mk (AV.le_refl _) ?_
              conv => whnf
              refine Need.mk (AV.le_refl _) ?_
              conv => whnf
              refine Side.mk rfl ⟨_, idx_0 hx133, idx_map _ hx133, ?_⟩
              conv => whnf
              refine Need.mk (AV.le_refl _) ?_
              conv => whnf
              refine Need.mk (AV.le_refl _) ?_
              conv => whnf
              refine Need.mk (AV.le_refl _) ?_
              conv => whnf
              refine Side.mk rfl ?_
              conv => whnf
              refine Need.mk (AV.le_refl _) ?_
              conv => whnf
              refine Need.mk (AV.le_refl _) ?_
              conv => whnf
              refine Side.mk ⟨rfl, rfl⟩ (Need.mk (idx_need _ hx134) ?_)
              conv => whnf
              refine Both.mk ?_ trivial
              conv => whnf
              refine Side.mk ⟨rfl, rfl, rfl, rfl, rfl, rfl⟩ (Need.mk (idx_len _ hx134) (REqv.mk (List.map (List.map I) (List.set l53 (Int.toNat x82.fFrame) l55)) (set_map _ _ _ _ rfl) ?_))
              conv => whnf
              intro hs67
              cases hx125
              conv => whnf
              refine ⟨(hd109, hs67), trivial, Sub.eq rfl ?_ ?_⟩
              · repeat ((conv => whnf); refine Need.mk rfl ?_)
                exact trivial
              · conv => whnf
                refine Need.mk (OLe.refl _) ?_
                conv => whnf
                refine Need.mk (OLe.refl _) ?_
                conv => whnf
                refine Need.mk (OLe.refl _) ?_
                conv => whnf
                refine Need.mk (OLe.refl _) ?_
                exact trivial
          · rintro ⟨hd106, hs62⟩ _
            conv => whnf
            refine ⟨(n2, (w64 (v8 + 1), l51), hd106, hs62), hl2, Sub.eq rfl ?_ ?_, Nat.lt_succ_self _⟩
            · repeat ((conv => whnf); refine Need.mk rfl ?_)
              exact trivial
            · conv => whnf
              refine Need.mk (OLe.refl _) ?_
              conv => whnf
              refine Need.mk (OLe.refl _) ?_
              conv => whnf
              refine Need.mk (OLe.refl _) ?_
              conv => whnf
              refine Need.mk (OLe.refl _) ?_
              exact trivial
        · replace hl2 := ite_f hc32 hl2
          cases hl2
          conv => whnf
          refine ⟨(hd96, hs56), trivial, Sub.eq rfl ?_ ?_⟩
          · repeat ((conv => whnf); refine Need.mk rfl ?_)
            exact trivial
          · conv => whnf
            refine Need.mk (OLe.refl _) ?_
            conv => whnf
            refine Need.mk (OLe.refl _) ?_
            conv => whnf
            refine Need.mk (OLe.refl _) ?_
            conv => whnf
            refine Need.mk (OLe.refl _) ?_
            exact trivial
    · rintro ⟨hd58, hs34⟩ _
      obtain ⟨c3, hx137, h⟩ := obind h
      conv => whnf
      refine SeqG.mk Unit (fun y => [(4, .ptr 4 b2 0), (7, .ptr 7 bb1 0)]) (fun y => [(4, .cells b2 [.nils 1, .nils 1, .d (I 0), .d (.bool false)]), (7, .cells bb1 [.sl 42 hd58, .d (.list 1 (List.map I c1)), .d (I c3), .d (.bool c2)]), (42, .rows hd58 24 3 1 hs34 none (List.map (List.map I) l28))]) (fun _ => True) ?_ ?_
      · conv => whnf
        refine Side.mk rfl ?_
        conv => whnf
        refine Br.mk (fun hc38 => ?_) (fun hc38 => ?_)
        · replace hx137 := ite_t hc38 hx137
          conv => whnf
          refine Side.mk rfl ?_
          conv => whnf
          refine Side.mk rfl ?_
          cases hx137
          conv => whnf
          refine ⟨(), trivial, Sub.eq rfl ?_ ?_⟩
          · repeat ((conv => whnf); refine Need.mk rfl ?_)
            exact trivial
          · conv => whnf
            refine Need.mk (OLe.refl _) ?_
            conv => whnf
            refine Need.mk (OLe.refl _) ?_
            conv => whnf
            refine Need.mk (OLe.refl _) ?_
            exact trivial
        · replace hx137 := ite_f hc38 hx137
          cases hx137
          conv => whnf
          refine ⟨(), trivial, Sub.eq rfl ?_ ?_⟩
          · repeat ((conv => whnf); refine Need.mk rfl ?_)
            exact trivial
          · conv => whnf
            refine Need.mk (OLe.refl _) ?_
            conv => whnf
            refine Need.mk (OLe.refl _) ?_
            conv => whnf
            refine Need.mk (OLe.refl _) ?_
            exact trivial
      · rintro _ _
        conv => whnf
        refine Side.mk rfl ?_
        conv => whnf
        refine Side.mk rfl ?_
        conv => whnf
        refine Side.mk rfl ?_
        conv => whnf
        refine Side.mk rfl (Eqv.mk (List.map (fun x => .list 1 (List.map I x)) l28) (rows_view I (D.list 1) _) ?_)
        conv => whnf
        cases h
        exact rfl

theorem ref01TailC {N : Nat} (hN : N ≤ 1073741824) {a1 : Ref01Law} {a2 : List Int} {r : Ref01Tail} (h : ref01Tail N a1 a2 = some r) :
    ACalls Try.prog 60 [.d (.agg [I a1.fFrames, I a1.fPins, I a1.fBalls, I a1.fTap]), .d (.list 1 (List.map I a2))] [] fun e os => e = .ret (.d (.agg [I r.fStand.fFrame, I r.fStand.fThrown, I r.fStand.fStanding, .bool r.fStand.fSet, I r.fStand.fHas, I r.fOne, I r.fTwo])) ∧ os = [] := by
  refine acalls_f (fresh := false) tt_ok dr_ok ⟨[2], [], [], [], [4, 13, 1003, 1006, 1007, 1010, 1013, 1016], 0⟩ Try.func60 rfl Try.call60 rfl ?_
  unfold ref01Tail at h
  conv => whnf
  intro b2
  obtain ⟨⟨ra2, rb2⟩, hx2, h⟩ := obind h
  conv => whnf
  refine CallG.pure _ (ref01PlayC hN hx2) ?_
  conv => whnf
  intro b4
  conv => whnf
  refine Side.mk rfl ?_
  conv => whnf
  refine Side.mk rfl ?_
  conv => whnf
  intro b6
  conv => whnf
  refine Side.mk rfl ?_
  obtain ⟨c14, hx282, h⟩ := obind h
  conv => whnf
  refine SeqG.mk Unit (fun y => [(4, .ptr 4 b2 0), (7, .ptr 7 b6 0)]) (fun y => [(4, .cells b2 [.d (I 0), .d (I 0), .d (I 0), .d (.bool false), .d (I 0), .d (I 0), .d (I 0)]), (7, .cells b6 [.d (I c14.fStand.fFrame), .d (I c14.fStand.fThrown), .d (I c14.fStand.fStanding), .d (.bool c14.fStand.fSet), .d (I c14.fStand.fHas), .d (I c14.fOne), .d (I c14.fTwo)])]) (fun _ => True) ?_ ?_
  · conv => whnf
    refine LoopG.mk (Nat × (Int × Ref01Tail)) (fun y => [(2, .d (.ref (.agg [I a1.fFrames, I a1.fPins, I a1.fBalls, I a1.fTap]))), (4, .ptr 4 b2 0), (5, .ptr 5 b4 0), (6, .d (.list 2 (List.map Ref01Ball.enc rb2))), (7, .ptr 7 b6 0), (8, .d (I y.2.1))]) (fun y => [(4, .cells b2 [.d (I 0), .d (I 0), .d (I 0), .d (.bool false), .d (I 0), .d (I 0), .d (I 0)]), (5, .cells b4 [.d (I ra2.fFrame), .d (I ra2.fThrown), .d (I ra2.fStanding), .d (.bool ra2.fSet), .d (I ra2.fHas)]), (7, .cells b6 [.d (I y.2.2.fStand.fFrame), .d (I y.2.2.fStand.fThrown), .d (I y.2.2.fStand.fStanding), .d (.bool y.2.2.fStand.fSet), .d (I y.2.2.fStand.fHas), .d (I y.2.2.fOne), .d (I y.2.2.fTwo)])]) (fun y => loopN (fun rr x => ref01Tail_b2 N a1 ra2 rb2 rr x.1 x.2) y.1 y.2 = some c14) (fun y => y.1) (N, (0, (Ref01Tail.mk ra2 0 0))) hx282 (Sub.eq rfl ?_ ?_) ?_
    · repeat ((conv => whnf); refine Need.mk rfl ?_)
      exact trivial
    · conv => whnf
      refine Need.mk (OLe.refl _) ?_
      conv => whnf
      refine Need.mk (OLe.refl _) ?_
      conv => whnf
      refine Need.mk (OLe.refl _) ?_
      exact trivial
    · rintro ⟨n22, ⟨v748, c24⟩⟩ hl22
      obtain ⟨n22, rfl, hl22⟩ := loopN_some hl22
      replace hl22 : ref01Tail_b2 N a1 ra2 rb2 (loopN (fun rr x => ref01Tail_b2 N a1 ra2 rb2 rr x.1 x.2) n22) v748 c24 = some c14 := hl22
      rw [ref01Tail_b2] at hl22
      obtain ⟨v750, hx470, hl22⟩ := obind hl22
      conv => whnf
      refine SeqG.mk Unit (fun y => [(2, .d (.ref (.agg [I a1.fFrames, I a1.fPins, I a1.fBalls, I a1.fTap]))), (4, .ptr 4 b2 0), (5, .ptr 5 b4 0), (6, .d (.list 2 (List.map Ref01Ball.enc rb2))), (7, .ptr 7 b6 0), (8, .d (I v748)), (33, .d (.bool v750))]) (fun y => [(4, .cells b2 [.d (I 0), .d (I 0), .d (I 0), .d (.bool false), .d (I 0), .d (I 0), .d (I 0)]), (5, .cells b4 [.d (I ra2.fFrame), .d (I ra2.fThrown), .d (I ra2.fStanding), .d (.bool ra2.fSet), .d (I ra2.fHas)]), (7, .cells b6 [.d (I c24.fStand.fFrame), .d (I c24.fStand.fThrown), .d (I c24.fStand.fStanding), .d (.bool c24.fStand.fSet), .d (I c24.fStand.fHas), .d (I c24.fOne), .d (I c24.fTwo)])]) (fun _ => True) ?_ ?_
      · conv => whnf
        refine Side.mk rfl ?_
        conv => whnf
        refine Br.mk (fun hc445 => ?_) (fun hc445 => ?_)
        · replace hx470 := ite_t hc445 hx470
          cases hx470
          conv => whnf
          refine ⟨(), trivial, Sub.eq rfl ?_ ?_⟩
          · repeat ((conv => whnf); refine Need.mk rfl ?_)
            exact trivial
          · conv => whnf
            refine Need.mk (OLe.refl _) ?_
            conv => whnf
            refine Need.mk (OLe.refl _) ?_
            conv => whnf
            refine Need.mk (OLe.refl _) ?_
            exact trivial
        · replace hx470 := ite_f hc445 hx470
          cases hx470
          conv => whnf
          refine ⟨(), trivial, Sub.eq rfl ?_ ?_⟩
          · repeat ((conv => whnf); refine Need.mk rfl ?_)
            exact trivial
          · conv => whnf
            refine Need.mk (OLe.refl _) ?_
            conv => whnf
            refine Need.mk (OLe.refl _) ?_
            conv => whnf
            refine Need.mk (OLe.refl _) ?_
            exact trivial
      · rintro _ _
        conv => whnf
        refine Br.mk (fun hc446 => ?_) (fun hc446 => ?_)
        · replace hl22 := ite_t hc446 hl22
          obtain ⟨c26, hx516, hl22⟩ := obind hl22
          conv => whnf
          refine SeqG.mk Unit (fun y => [(2, .d (.ref (.agg [I a1.fFrames, I a1.fPins, I a1.fBalls, I a1.fTap]))), (4, .ptr 4 b2 0), (5, .ptr 5 b4 0), (6, .d (.list 2 (List.map Ref01Ball.enc rb2))), (7, .ptr 7 b6 0), (8, .d (I v748))]) (fun y => [(4, .cells b2 [.d (I 0), .d (I 0), .d (I 0), .d (.bool false), .d (I 0), .d (I 0), .d (I 0)]), (5, .cells b4 [.d (I ra2.fFrame), .d (I ra2.fThrown), .d (I ra2.fStanding), .d (.bool ra2.fSet), .d (I ra2.fHas)]), (7, .cells b6 [.d (I c26.fStand.fFrame), .d (I c26.fStand.fThrown), .d (I c26.fStand.fStanding), .d (.bool c26.fStand.fSet), .d (I c26.fStand.fHas), .d (I c26.fOne), .d (I c26.fTwo)])]) (fun _ => True) ?_ ?_
          · obtain ⟨⟨v857, v858, v859⟩, hx537, hx516⟩ := obind hx516
            conv => whnf
            refine SeqG.mk Unit (fun y => [(2, .d (.ref (.agg [I a1.fFrames, I a1.fPins, I a1.fBalls, I a1.fTap]))), (4, .ptr 4 b2 0), (5, .ptr 5 b4 0), (6, .d (.list 2 (List.map Ref01Ball.enc rb2))), (7, .ptr 7 b6 0), (8, .d (I v748)), (9, .d (I v857)), (10, .d (I v858)), (11, .d (I v859))]) (fun y => [(4, .cells b2 [.d (I 0), .d (I 0), .d (I 0), .d (.bool false), .d (I 0), .d (I 0), .d (I 0)]), (5, .cells b4 [.d (I ra2.fFrame), .d (I ra2.fThrown), .d (I ra2.fStanding), .d (.bool ra2.fSet), .d (I ra2.fHas)]), (7, .cells b6 [.d (I c24.fStand.fFrame), .d (I c24.fStand.fThrown), .d (I c24.fStand.fStanding), .d (.bool c24.fStand.fSet), .d (I c24.fStand.fHas), .d (I c24.fOne), .d (I c24.fTwo)])]) (fun _ => True) ?_ ?_
            · conv => whnf
              refine LoopG.mk (Nat × (Int × Int × Int × Int)) (fun y => [(2, .d (.ref (.agg [I a1.fFrames, I a1.fPins, I a1.fBalls, I a1.fTap]))), (4, .ptr 4 b2 0), (5, .ptr 5 b4 0), (6, .d (.list 2 (List.map Ref01Ball.enc rb2))), (7, .ptr 7 b6 0), (8, .d (I v748)), (9, .d (I y.2.1)), (10, .d (I y.2.2.1)), (11, .d (I y.2.2.2.1)), (12, .d (I y.2.2.2.2))]) (fun y => [(4, .cells b2 [.d (I 0), .d (I 0), .d (I 0), .d (.bool false), .d (I 0), .d (I 0), .d (I 0)]), (5, .cells b4 [.d (I ra2.fFrame), .d (I ra2.fThrown), .d (I ra2.fStanding), .d (.bool ra2.fSet), .d (I ra2.fHas)]), (7, .cells b6 [.d (I c24.fStand.fFrame), .d (I c24.fStand.fThrown), .d (I c24.fStand.fStanding), .d (.bool c24.fStand.fSet), .d (I c24.fStand.fHas), .d (I c24.fOne), .d (I c24.fTwo)])]) (fun y => loopN (fun rr x => ref01Tail_b1 N rb2 v748 rr x.1 x.2.1 x.2.2.1 x.2.2.2) y.1 y.2 = some (v857, v858, v859)) (fun y => y.1) (N, (0, 0, 0, 0)) hx537 (Sub.eq rfl ?_ ?_) ?_
              · repeat ((conv => whnf); refine Need.mk rfl ?_)
                exact trivial
              · conv => whnf
                refine Need.mk (OLe.refl _) ?_
                conv => whnf
                refine Need.mk (OLe.refl _) ?_
                conv => whnf
                refine Need.mk (OLe.refl _) ?_
                exact trivial
              · rintro ⟨n26, ⟨v886, v887, v888, v889⟩⟩ hl26
                obtain ⟨n26, rfl, hl26⟩ := loopN_some hl26
                replace hl26 : ref01Tail_b1 N rb2 v748 (loopN (fun rr x => ref01Tail_b1 N rb2 v748 rr x.1 x.2.1 x.2.2.1 x.2.2.2) n26) v886 v887 v888 v889 = some (v857, v858, v859) := hl26
                rw [ref01Tail_b1] at hl26
                conv => whnf
                refine Ln.mk _ (List.length_map _) ?_
                conv => whnf
                refine Br.mk (fun hc517 => ?_) (fun hc517 => ?_)
                · replace hl26 := ite_t hc517 hl26
                  obtain ⟨⟨v890, v891, v892⟩, hx555, hl26⟩ := obind hl26
                  conv => whnf
                  refine SeqG.mk Unit (fun y => [(2, .d (.ref (.agg [I a1.fFrames, I a1.fPins, I a1.fBalls, I a1.fTap]))), (4, .ptr 4 b2 0), (5, .ptr 5 b4 0), (6, .d (.list 2 (List.map Ref01Ball.enc rb2))), (7, .ptr 7 b6 0), (8, .d (I v748)), (9, .d (I v890)), (10, .d (I v891)), (11, .d (I v892)), (12, .d (I v889))]) (fun y => [(4, .cells b2 [.d (I 0), .d (I 0), .d (I 0), .d (.bool false), .d (I 0), .d (I 0), .d (I 0)]), (5, .cells b4 [.d (I ra2.fFrame), .d (I ra2.fThrown), .d (I ra2.fStanding), .d (.bool ra2.fSet), .d (I ra2.fHas)]), (7, .cells b6 [.d (I c24.fStand.fFrame), .d (I c24.fStand.fThrown), .d (I c24.fStand.fStanding), .d (.bool c24.fStand.fSet), .d (I c24.fStand.fHas), .d (I c24.fOne), .d (I c24.fTwo)])]) (fun _ => True) ?_ ?_
                  · obtain ⟨x384, hx557, hx555⟩ := obind hx555
                    conv => whnf
                    refine Side.mk rfl ⟨_, idx_0 hx557, idx_map _ hx557, ?_⟩
                    conv => whnf
                    refine Br.mk (fun hc519 => ?_) (fun hc519 => ?_)
                    · replace hx555 := ite_t hc519 hx555
                      conv => whnf
                      refine Side.mk rfl ⟨_, idx_0 hx557, idx_map _ hx557, ?_⟩
                      cases hx555
                      conv => whnf
                      refine ⟨(), trivial, Sub.eq rfl ?_ ?_⟩
                      · repeat ((conv => whnf); refine Need.mk rfl ?_)
                        exact trivial
                      · conv => whnf
                        refine Need.mk (OLe.refl _) ?_
                        conv => whnf
                        refine Need.mk (OLe.refl _) ?_
                        conv => whnf
                        refine Need.mk (OLe.refl _) ?_
                        exact trivial
                    · replace hx555 := ite_f hc519 hx555
                      cases hx555
                      conv => whnf
                      refine ⟨(), trivial, Sub.eq rfl ?_ ?_⟩
                      · repeat ((conv => whnf); refine Need.mk rfl ?_)
                        exact trivial
                      · conv => whnf
                        refine Need.mk (OLe.refl _) ?_
                        conv => whnf
                        refine Need.mk (OLe.refl _) ?_
                        conv => whnf
                        refine Need.mk (OLe.refl _) ?_
                        exact trivial
                  · rintro _ _
                    conv => whnf
                    refine ⟨(n26, (v890, v891, v892, w64 (v889 + 1))), hl26, Sub.eq rfl ?_ ?_, Nat.lt_succ_self _⟩
                    · repeat ((conv => whnf); refine Need.mk rfl ?_)
                      exact trivial
                    · conv => whnf
                      refine Need.mk (OLe.refl _) ?_
                      conv => whnf
                      refine Need.mk (OLe.refl _) ?_
                      conv => whnf
                      refine Need.mk (OLe.refl _) ?_
                      exact trivial
                · replace hl26 := ite_f hc517 hl26
                  cases hl26
                  conv => whnf
                  refine ⟨(), trivial, Sub.eq rfl ?_ ?_⟩
                  · repeat ((conv => whnf); refine Need.mk rfl ?_)
                    exact trivial
                  · conv => whnf
                    refine Need.mk (OLe.refl _) ?_
                    conv => whnf
                    refine Need.mk (OLe.refl _) ?_
                    conv => whnf
                    refine Need.mk (OLe.refl _) ?_
                    exact trivial
            · rintro _ _
              obtain ⟨v894, hx559, hx516⟩ := obind hx516
              conv => whnf
              refine SeqG.mk Unit (fun y => [(2, .d (.ref (.agg [I a1.fFrames, I a1.fPins, I a1.fBalls, I a1.fTap]))), (4, .ptr 4 b2 0), (5, .ptr 5 b4 0), (6, .d (.list 2 (List.map Ref01Ball.enc rb2))), (7, .ptr 7 b6 0), (8, .d (I v748)), (11, .d (I v859)), (13, .d (I v894))]) (fun y => [(4, .cells b2 [.d (I 0), .d (I 0), .d (I 0), .d (.bool false), .d (I 0), .d (I 0), .d (I 0)]), (5, .cells b4 [.d (I ra2.fFrame), .d (I ra2.fThrown), .d (I ra2.fStanding), .d (.bool ra2.fSet), .d (I ra2.fHas)]), (7, .cells b6 [.d (I c24.fStand.fFrame), .d (I c24.fStand.fThrown), .d (I c24.fStand.fStanding), .d (.bool c24.fStand.fSet), .d (I c24.fStand.fHas), .d (I c24.fOne), .d (I c24.fTwo)])]) (fun _ => True) ?_ ?_
              · obtain ⟨v895, hx560, hx559⟩ := obind hx559
                conv => whnf
                refine SeqG.mk Unit (fun y => [(2, .d (.ref (.agg [I a1.fFrames, I a1.fPins, I a1.fBalls, I a1.fTap]))), (4, .ptr 4 b2 0), (5, .ptr 5 b4 0), (6, .d (.list 2 (List.map Ref01Ball.enc rb2))), (7, .ptr 7 b6 0), (8, .d (I v748)), (10, .d (I v858)), (11, .d (I v859)), (13, .i .i64 0), (66, .d (.bool v895))]) (fun y => [(4, .cells b2 [.d (I 0), .d (I 0), .d (I 0), .d (.bool false), .d (I 0), .d (I 0), .d (I 0)]), (5, .cells b4 [.d (I ra2.fFrame), .d (I ra2.fThrown), .d (I ra2.fStanding), .d (.bool ra2.fSet), .d (I ra2.fHas)]), (7, .cells b6 [.d (I c24.fStand.fFrame), .d (I c24.fStand.fThrown), .d (I c24.fStand.fStanding), .d (.bool c24.fStand.fSet), .d (I c24.fStand.fHas), .d (I c24.fOne), .d (I c24.fTwo)])]) (fun _ => True) ?_ ?_
                · conv => whnf
                  refine Br.mk (fun hc524 => ?_) (fun hc524 => ?_)
                  · replace hx560 := ite_t hc524 hx560
                    cases hx560
                    conv => whnf
                    refine ⟨(), trivial, Sub.eq rfl ?_ ?_⟩
                    · repeat ((conv => whnf); refine Need.mk rfl ?_)
                      exact trivial
                    · conv => whnf
                      refine Need.mk (OLe.refl _) ?_
                      conv => whnf
                      refine Need.mk (OLe.refl _) ?_
                      conv => whnf
                      refine Need.mk (OLe.refl _) ?_
                      exact trivial
                  · replace hx560 := ite_f hc524 hx560
                    cases hx560
                    conv => whnf
                    refine ⟨(), trivial, Sub.eq rfl ?_ ?_⟩
                    · repeat ((conv => whnf); refine Need.mk rfl ?_)
                      exact trivial
                    · conv => whnf
                      refine Need.mk (OLe.refl _) ?_
                      conv => whnf
                      refine Need.mk (OLe.refl _) ?_
                      conv => whnf
                      refine Need.mk (OLe.refl _) ?_
                      exact trivial
                · rintro _ _
                  conv => whnf
                  refine Br.mk (fun hc525 => ?_) (fun hc525 => ?_)
                  · replace hx559 := ite_t hc525 hx559
                    cases hx559
                    conv => whnf
                    refine ⟨(), trivial, Sub.eq rfl ?_ ?_⟩
                    · repeat ((conv => whnf); refine Need.mk rfl ?_)
                      exact trivial
                    · conv => whnf
                      refine Need.mk (OLe.refl _) ?_
                      conv => whnf
                      refine Need.mk (OLe.refl _) ?_
                      conv => whnf
                      refine Need.mk (OLe.refl _) ?_
                      exact trivial
                  · replace hx559 := ite_f hc525 hx559
                    cases hx559
                    conv => whnf
                    refine ⟨(), trivial, Sub.eq rfl ?_ ?_⟩
                    · repeat ((conv => whnf); refine Need.mk rfl ?_)
                      exact trivial
                    · conv => whnf
                      refine Need.mk (OLe.refl _) ?_
                      conv => whnf
                      refine Need.mk (OLe.refl _) ?_
                      conv => whnf
                      refine Need.mk (OLe.refl _) ?_
                      exact trivial
              · rintro _ _
                conv => whnf
                refine Ln.mk _ (List.length_map _) ?_
                obtain ⟨⟨v896, c27⟩, hx561, hx516⟩ := obind hx516
                conv => whnf
                refine SeqG.mk Unit (fun y => [(2, .d (.ref (.agg [I a1.fFrames, I a1.fPins, I a1.fBalls, I a1.fTap]))), (4, .ptr 4 b2 0), (5, .ptr 5 b4 0), (6, .d (.list 2 (List.map Ref01Ball.enc rb2))), (7, .ptr 7 b6 0), (8, .d (I v748)), (14, .d (I v896))]) (fun y => [(4, .cells b2 [.d (I 0), .d (I 0), .d (I 0), .d (.bool false), .d (I 0), .d (I 0), .d (I 0)]), (5, .cells b4 [.d (I ra2.fFrame), .d (I ra2.fThrown), .d (I ra2.fStanding), .d (.bool ra2.fSet), .d (I ra2.fHas)]), (7, .cells b6 [.d (I c27.fStand.fFrame), .d (I c27.fStand.fThrown), .d (I c27.fStand.fStanding), .d (.bool c27.fStand.fSet), .d (I c27.fStand.fHas), .d (I c27.fOne), .d (I c27.fTwo)])]) (fun _ => True) ?_ ?_
                · conv => whnf
                  refine Br.mk (fun hc527 => ?_) (fun hc527 => ?_)
                  · replace hx561 := ite_t hc527 hx561
                    conv => whnf
                    refine Side.mk rfl ?_
                    conv => whnf
                    refine Side.mk rfl ?_
                    cases hx561
                    conv => whnf
                    refine ⟨(), trivial, Sub.eq rfl ?_ ?_⟩
                    · repeat ((conv => whnf); refine Need.mk rfl ?_)
                      exact trivial
                    · conv => whnf
                      refine Need.mk (OLe.refl _) ?_
                      conv => whnf
                      refine Need.mk (OLe.refl _) ?_
                      conv => whnf
                      refine Need.mk (OLe.refl _) ?_
                      exact trivial
                  · replace hx561 := ite_f hc527 hx561
                    cases hx561
                    conv => whnf
                    refine ⟨(), trivial, Sub.eq rfl ?_ ?_⟩
                    · repeat ((conv => whnf); refine Need.mk rfl ?_)
                      exact trivial
                    · conv => whnf
                      refine Need.mk (OLe.refl _) ?_
                      conv => whnf
                      refine Need.mk (OLe.refl _) ?_
                      conv => whnf
                      refine Need.mk (OLe.refl _) ?_
                      exact trivial
                · rintro _ _
                  conv => whnf
                  refine Br.mk (fun hc528 => ?_) (fun hc528 => ?_)
                  · replace hx516 := ite_t hc528 hx516
                    conv => whnf
                    refine Side.mk rfl ?_
                    conv => whnf
                    refine Side.mk rfl ?_
                    cases hx516
                    conv => whnf
                    refine ⟨(), trivial, Sub.eq rfl ?_ ?_⟩
                    · repeat ((conv => whnf); refine Need.mk rfl ?_)
                      exact trivial
                    · conv => whnf
                      refine Need.mk (OLe.refl _) ?_
                      conv => whnf
                      refine Need.mk (OLe.refl _) ?_
                      conv => whnf
                      refine Need.mk (OLe.refl _) ?_
                      exact trivial
                  · replace hx516 := ite_f hc528 hx516
                    cases hx516
                    conv => whnf
                    refine ⟨(), trivial, Sub.eq rfl ?_ ?_⟩
                    · repeat ((conv => whnf); refine Need.mk rfl ?_)
                      exact trivial
                    · conv => whnf
                      refine Need.mk (OLe.refl _) ?_
                      conv => whnf
                      refine Need.mk (OLe.refl _) ?_
                      conv => whnf
                      refine Need.mk (OLe.refl _) ?_
                      exact trivial
          · rintro _ _
            conv => whnf
            refine ⟨(n22, (w64 (v748 + 1), c26)), hl22, Sub.eq rfl ?_ ?_, Nat.lt_succ_self _⟩
            · repeat ((conv => whnf); refine Need.mk rfl ?_)
              exact trivial
            · conv => whnf
              refine Need.mk (OLe.refl _) ?_
              conv => whnf
              refine Need.mk (OLe.refl _) ?_
              conv => whnf
              refine Need.mk (OLe.refl _) ?_
              exact trivial
        · replace hl22 := ite_f hc446 hl22
          cases hl22
          conv => whnf
          refine ⟨(), trivial, Sub.eq rfl ?_ ?_⟩
          · repeat ((conv => whnf); refine Need.mk rfl ?_)
            exact trivial
          · conv => whnf
            refine Need.mk (OLe.refl _) ?_
            conv => whnf
            refine Need.mk (OLe.refl _) ?_
            exact trivial
  · rintro _ _
    conv => whnf
    refine Side.mk rfl ?_
    conv => whnf
    refine Side.mk rfl ?_
    conv => whnf
    refine Side.mk rfl ?_
    conv => whnf
    cases h
    exact rfl

theorem ref01SumC {N : Nat} (hN : N ≤ 1073741824) {l1 : Ref01Law} {sheet1 : List Int} {r : Int} (h : ref01Sum N l1 sheet1 = some r) :
    ACalls Try.prog 58 [.d (.agg [I l1.fFrames, I l1.fPins, I l1.fBalls, I l1.fTap]), .d (.list 1 (List.map I sheet1))] [] fun e os => e = .ret (.d (I r)) ∧ os = [] := by
  refine acalls_f (fresh := false) tt_ok dr_ok ⟨[2], [], [], [], [5, 6, 1002], 0⟩ Try.func58 rfl Try.call58 rfl ?_
  unfold ref01Sum at h
  obtain ⟨n6, hx61, h⟩ := obind h
  conv => whnf
  refine SeqG.mk Unit (fun y => [(5, .d (I n6))]) (fun y => []) (fun _ => True) ?_ ?_
  · conv => whnf
    refine LoopG.mk (Nat × (Int × Int)) (fun y => [(1, .d (.list 1 (List.map I sheet1))), (2, .d (.ref (.agg [I l1.fFrames, I l1.fPins, I l1.fBalls, I l1.fTap]))), (5, .d (I y.2.1)), (6, .d (I y.2.2))]) (fun y => []) (fun y => loopN (fun rr x => ref01Sum_b1 N l1 sheet1 rr x.1 x.2) y.1 y.2 = some n6) (fun y => y.1) (N, (0, 0)) hx61 (Sub.eq rfl ?_ ?_) ?_
    · repeat ((conv => whnf); refine Need.mk rfl ?_)
      exact trivial
    · exact trivial
    · rintro ⟨n11, ⟨n10, i8⟩⟩ hl2
      obtain ⟨n11, rfl, hl2⟩ := loopN_some hl2
      replace hl2 : ref01Sum_b1 N l1 sheet1 (loopN (fun rr x => ref01Sum_b1 N l1 sheet1 rr x.1 x.2) n11) n10 i8 = some n6 := hl2
      rw [ref01Sum_b1] at hl2
      conv => whnf
      refine Ln.mk _ (List.length_map _) ?_
      conv => whnf
      refine Br.mk (fun hc12 => ?_) (fun hc12 => ?_)
      · replace hl2 := ite_t hc12 hl2
        obtain ⟨t12, hx114, hl2⟩ := obind hl2
        conv => whnf
        refine SeqG.mk Nat (fun y => [(1, .d (.list 1 (List.map I sheet1))), (2, .d (.ref (.agg [I l1.fFrames, I l1.fPins, I l1.fBalls, I l1.fTap]))), (5, .d (I n10)), (6, .d (I i8)), (7, .ptr 7 y 0)]) (fun y => [(7, .cells y [.d (I t12.fStand.fFrame), .d (I t12.fStand.fThrown), .d (I t12.fStand.fStanding), .d (.bool t12.fStand.fSet), .d (I t12.fStand.fHas), .d (I t12.fOne), .d (I t12.fTwo)])]) (fun _ => True) ?_ ?_
        · obtain ⟨l25, hx115, hx114⟩ := obind hx114
          obtain ⟨r24, hx116, hx114⟩ := obind hx114
          conv => whnf
          refine DrawG.mk (.take 0 (.take 1 (.take 2 (.alt 3 [0] (.alt 4 [] (.alt 5 [] (.alt 6 [] .done .nil) .nil) (.alt 5 [0] (.alt 4 [] (.alt 6 [] .done .nil) .nil) .nil)) (.alt 5 [2, 1, 0] (.alt 3 [0] (.alt 4 [] (.alt 6 [] .done .nil) .nil) .nil) .nil))))) (by kernel_rfl) ?_
          conv => whnf
          refine Both.mk ?_ ?_
          · conv => whnf
            refine Need.mk (slc_need _ hx115) (Eqv.mk (List.map I l25) (slc_map _ hx115) ?_)
            conv => whnf
            refine Need.mk (AV.le_refl _) ?_
            conv => whnf
            refine Both.mk ?_ ?_
            · conv => whnf
              refine CallG.pure _ (ref01TailC hN hx116) ?_
              conv => whnf
              refine Both.mk ?_ trivial
              conv => whnf
              intro b160
              conv => whnf
              refine Both.mk ?_ trivial
              conv => whnf
              refine Side.mk rfl ?_
              cases hx114
              conv => whnf
              refine ⟨b160, trivial, Sub.eq rfl ?_ ?_⟩
              · repeat ((conv => whnf); refine Need.mk rfl ?_)
                exact trivial
              · conv => whnf
                refine Need.mk (OLe.refl _) ?_
                exact trivial
            · conv => whnf
              refine Both.mk ?_ trivial
              conv => whnf
              intro b161
              conv => whnf
              refine Need.mk (AV.le_refl _) ?_
              conv => whnf
              refine Both.mk ?_ trivial
              conv => whnf
              refine CallG.pure _ (ref01TailC hN hx116) ?_
              conv => whnf
              refine Both.mk ?_ trivial
              conv => whnf
              refine Side.mk rfl ?_
              cases hx114
              conv => whnf
              refine ⟨b161, trivial, Sub.eq rfl ?_ ?_⟩
              · repeat ((conv => whnf); refine Need.mk rfl ?_)
                exact trivial
              · conv => whnf
                refine Need.mk (OLe.refl _) ?_
                exact trivial
          · conv => whnf
            refine Both.mk ?_ trivial
            conv => whnf
            intro b162
            conv => whnf
            refine Need.mk (AV.le_refl _) ?_
            conv => whnf
            refine Need.mk (AV.le_refl _) ?_
            conv => whnf
            refine Need.mk (AV.le_refl _) ?_
            conv => whnf
            refine Both.mk ?_ trivial
            conv => whnf
            refine Need.mk (slc_need _ hx115) (Eqv.mk (List.map I l25) (slc_map _ hx115) ?_)
            conv => whnf
            refine Need.mk (AV.le_refl _) ?_
            conv => whnf
            refine Both.mk ?_ trivial
            conv => whnf
            refine CallG.pure _ (ref01TailC hN hx116) ?_
            conv => whnf
            refine Both.mk ?_ trivial
            conv => whnf
            refine Side.mk rfl ?_
            cases hx114
            conv => whnf
            refine ⟨b162, trivial, Sub.eq rfl ?_ ?_⟩
            · repeat ((conv => whnf); refine Need.mk rfl ?_)
              exact trivial
            · conv => whnf
              refine Need.mk (OLe.refl _) ?_
              exact trivial
        · rintro bb12 _
          obtain ⟨own12, hx119, hl2⟩ := obind hl2
          conv => whnf
          refine SeqG.mk Unit (fun y => [(1, .d (.list 1 (List.map I sheet1))), (2, .d (.ref (.agg [I l1.fFrames, I l1.fPins, I l1.fBalls, I l1.fTap]))), (5, .d (I n10)), (6, .d (I i8)), (7, .ptr 7 bb12 0), (9, .d (I own12))]) (fun y => [(7, .cells bb12 [.d (I t12.fStand.fFrame), .d (I t12.fStand.fThrown), .d (I t12.fStand.fStanding), .d (.bool t12.fStand.fSet), .d (I t12.fStand.fHas), .d (I t12.fOne), .d (I t12.fTwo)])]) (fun _ => True) ?_ ?_
          · obtain ⟨x24, hx120, hx119⟩ := obind hx119
            obtain ⟨⟨ra24, rb24⟩, hx121, hx119⟩ := obind hx119
            conv => whnf
            refine DrawG.mk (.take 0 (.take 1 (.take 2 (.take 3 (.take 4 (.take 5 (.take 6 (.alt 7 [5, 4, 3, 1] (.take 8 (.take 9 (.take 10 (.alt 11 [10, 9, 8, 5, 4, 3, 1] (.alt 12 [10] (.take 13 .done) .nil) .nil)))) (.alt 11 [6, 5, 4, 3, 2, 1, 0] (.alt 7 [5, 4, 3, 1] (.take 8 (.take 9 (.take 10 (.alt 12 [10] (.take 13 .done) .nil)))) .nil) .nil))))))))) (by kernel_rfl) ?_
            conv => whnf
            refine Side.mk rfl ?_
            conv => whnf
            refine Side.mk rfl ⟨_, idx_0 hx120, idx_map _ hx120, ?_⟩
            conv => whnf
            refine Both.mk ?_ ?_
            · conv => whnf
              refine CallG.pure _ (ref01ThrowC hN hx121) ?_
              conv => whnf
              refine Side.mk rfl ⟨_, idx_0 hx120, idx_map _ hx120, ?_⟩
              conv => whnf
              refine Need.mk (AV.le_refl _) ?_
              conv => whnf
              refine Need.mk (AV.le_refl _) ?_
              conv => whnf
              refine Need.mk (AV.le_refl _) ?_
              conv => whnf
              refine Need.mk (AV.le_refl _) ?_
              conv => whnf
              refine Both.mk ?_ trivial
              conv => whnf
              intro b167
              conv => whnf
              refine Need.mk (AV.le_refl _) ?_
              conv => whnf
              refine Need.mk (AV.le_refl _) ?_
              conv => whnf
              refine Need.mk (AV.le_refl _) ?_
              conv => whnf
              refine Side.mk rfl ⟨_, idx_0 hx120, idx_map _ hx120, ?_⟩
              conv => whnf
              refine Need.mk (AV.le_refl _) ?_
              conv => whnf
              refine Need.mk (AV.le_refl _) ?_
              conv => whnf
              refine Need.mk (AV.le_refl _) ?_
              conv => whnf
              refine Need.mk (AV.le_refl _) ?_
              conv => whnf
              refine Both.mk ?_ trivial
              conv => whnf
              refine Side.mk rfl ?_
              conv => whnf
              refine Need.mk (AV.le_refl _) ?_
              cases hx119
              conv => whnf
              refine ⟨(), trivial, Sub.eq rfl ?_ ?_⟩
              · repeat ((conv => whnf); refine Need.mk rfl ?_)
                exact trivial
              · conv => whnf
                refine Need.mk (OLe.refl _) ?_
                exact trivial
            · conv => whnf
              refine Both.mk ?_ trivial
              conv => whnf
              intro b168
              conv => whnf
              refine Need.mk (AV.le_refl _) ?_
              conv => whnf
              refine Side.mk rfl ⟨_, idx_0 hx120, idx_map _ hx120, ?_⟩
              conv => whnf
              refine Need.mk (AV.le_refl _) ?_
              conv => whnf
              refine Need.mk (AV.le_refl _) ?_
              conv => whnf
              refine Need.mk (AV.le_refl _) ?_
              conv => whnf
              refine Side.mk rfl ?_
              conv => whnf
              refine Need.mk (AV.le_refl _) ?_
              conv => whnf
              refine Need.mk (AV.le_refl _) ?_
              conv => whnf
              refine Need.mk (AV.le_refl _) ?_
              conv => whnf
              refine Both.mk ?_ trivial
              conv => whnf
              refine CallG.pure _ (ref01ThrowC hN hx121) ?_
              conv => whnf
              refine Side.mk rfl ⟨_, idx_0 hx120, idx_map _ hx120, ?_⟩
              conv => whnf
              refine Need.mk (AV.le_refl _) ?_
              conv => whnf
              refine Need.mk (AV.le_refl _) ?_
              conv => whnf
              refine Need.mk (AV.le_refl _) ?_
              conv => whnf
              refine Need.mk (AV.le_refl _) ?_
              conv => whnf
              refine Both.mk ?_ trivial
              conv => whnf
              refine Side.mk rfl ?_
              conv => whnf
              refine Need.mk (AV.le_refl _) ?_
              cases hx119
              conv => whnf
              refine ⟨(), trivial, Sub.eq rfl ?_ ?_⟩
              · repeat ((conv => whnf); refine Need.mk rfl ?_)
                exact trivial
              · conv => whnf
                refine Need.mk (OLe.refl _) ?_
                exact trivial
          · rintro _ _
            conv => whnf
            refine Side.mk rfl ?_
            conv => whnf
            refine ⟨(n11, (w64 (n10 + (w64 (own12 * (w64 (1 + t12.fOne))))), w64 (i8 + 1))), hl2, Sub.eq rfl ?_ ?_, Nat.lt_succ_self _⟩
            · repeat ((conv => whnf); refine Need.mk rfl ?_)
              exact trivial
            · exact trivial
      · replace hl2 := ite_f hc12 hl2
        cases hl2
        conv => whnf
        refine ⟨(), trivial, Sub.eq rfl ?_ ?_⟩
        · repeat ((conv => whnf); refine Need.mk rfl ?_)
          exact trivial
        · exact trivial
  · rintro _ _
    conv => whnf
    cases h
    exact rfl

theorem ref01ThrowXC {N : Nat} (hN : N ≤ 1073741824) {l1 : Ref01Law} {t1 : Ref01Tail} {ball1 : Int} {r : Ref01Tail × Int} (h : ref01ThrowX N l1 t1 ball1 = some r) :
    ACalls Try.prog 71 [.d (.agg [I l1.fFrames, I l1.fPins, I l1.fBalls, I l1.fTap]), .d (.agg [I t1.fStand.fFrame, I t1.fStand.fThrown, I t1.fStand.fStanding, .bool t1.fStand.fSet, I t1.fStand.fHas, I t1.fOne, I t1.fTwo]), .d (I ball1)] [] fun e os => e = .ret (.d (.tup [.agg [I r.1.fStand.fFrame, I r.1.fStand.fThrown, I r.1.fStand.fStanding, .bool r.1.fStand.fSet, I r.1.fStand.fHas, I r.1.fOne, I r.1.fTwo], I r.2])) ∧ os = [] := by
  refine acalls_f (fresh := false) tt_ok dr_ok ⟨[3, 4], [], [], [], [5, 1004, 1006], 0⟩ Try.func71 rfl Try.call71 rfl ?_
  unfold ref01ThrowX at h
  conv => whnf
  intro b2
  obtain ⟨⟨ra2, rb2⟩, hx2, h⟩ := obind h
  conv => whnf
  refine CallG.pure _ (ref01ThrowC hN hx2) ?_
  conv => whnf
  intro b4
  conv => whnf
  refine Side.mk rfl ?_
  conv => whnf
  refine Side.mk rfl ?_
  conv => whnf
  intro b6
  conv => whnf
  refine Side.mk rfl ?_
  obtain ⟨⟨worth2, out2⟩, hx5, h⟩ := obind h
  conv => whnf
  refine SeqG.mk Unit (fun y => [(6, .ptr 6 b2 0), (10, .d (I worth2)), (11, .ptr 11 b6 0)]) (fun y => [(6, .cells b2 [.d (I 0), .d (I 0), .d (I 0), .d (.bool false), .d (I 0), .d (I 0), .d (I 0)]), (11, .cells b6 [.d (I out2.fStand.fFrame), .d (I out2.fStand.fThrown), .d (I out2.fStand.fStanding), .d (.bool out2.fStand.fSet), .d (I out2.fStand.fHas), .d (I out2.fOne), .d (I out2.fTwo)])]) (fun _ => True) ?_ ?_
  · obtain ⟨⟨worth3, v2⟩, hx6, hx5⟩ := obind hx5
    conv => whnf
    refine SeqG.mk Unit (fun y => [(4, .d (.ref (.agg [I t1.fStand.fFrame, I t1.fStand.fThrown, I t1.fStand.fStanding, .bool t1.fStand.fSet, I t1.fStand.fHas, I t1.fOne, I t1.fTwo]))), (6, .ptr 6 b2 0), (10, .d (I worth3)), (11, .ptr 11 b6 0), (44, .d (.bool v2))]) (fun y => [(6, .cells b2 [.d (I 0), .d (I 0), .d (I 0), .d (.bool false), .d (I 0), .d (I 0), .d (I 0)]), (11, .cells b6 [.d (I ra2.fFrame), .d (I ra2.fThrown), .d (I ra2.fStanding), .d (.bool ra2.fSet), .d (I ra2.fHas), .d (I t1.fTwo), .d (I 0)])]) (fun _ => True) ?_ ?_
    · conv => whnf
      refine Br.mk (fun hc8 => ?_) (fun hc8 => ?_)
      · replace hx6 := ite_t hc8 hx6
        cases hx6
        conv => whnf
        refine ⟨(), trivial, Sub.eq rfl ?_ ?_⟩
        · repeat ((conv => whnf); refine Need.mk rfl ?_)
          exact trivial
        · conv => whnf
          refine Need.mk (OLe.refl _) ?_
          conv => whnf
          refine Need.mk (OLe.refl _) ?_
          exact trivial
      · replace hx6 := ite_f hc8 hx6
        cases hx6
        conv => whnf
        refine ⟨(), trivial, Sub.eq rfl ?_ ?_⟩
        · repeat ((conv => whnf); refine Need.mk rfl ?_)
          exact trivial
        · conv => whnf
          refine Need.mk (OLe.refl _) ?_
          conv => whnf
          refine Need.mk (OLe.refl _) ?_
          exact trivial
    · rintro _ _
      conv => whnf
      refine Br.mk (fun hc9 => ?_) (fun hc9 => ?_)
      · replace hx5 := ite_t hc9 hx5
        obtain ⟨out3, hx7, hx5⟩ := obind hx5
        conv => whnf
        refine SeqG.mk Unit (fun y => [(4, .d (.ref (.agg [I t1.fStand.fFrame, I t1.fStand.fThrown, I t1.fStand.fStanding, .bool t1.fStand.fSet, I t1.fStand.fHas, I t1.fOne, I t1.fTwo]))), (6, .ptr 6 b2 0), (10, .d (I worth3)), (11, .ptr 11 b6 0)]) (fun y => [(6, .cells b2 [.d (I 0), .d (I 0), .d (I 0), .d (.bool false), .d (I 0), .d (I 0), .d (I 0)]), (11, .cells b6 [.d (I out3.fStand.fFrame), .d (I out3.fStand.fThrown), .d (I out3.fStand.fStanding), .d (.bool out3.fStand.fSet), .d (I out3.fStand.fHas), .d (I out3.fOne), .d (I out3.fTwo)])]) (fun _ => True) ?_ ?_
        · conv => whnf
          refine Br.mk (fun hc11 => ?_) (fun hc11 => ?_)
          · replace hx7 := ite_t hc11 hx7
            conv => whnf
            refine Side.mk rfl ?_
            conv => whnf
            refine Side.mk rfl ?_
            conv => whnf
            refine Side.mk rfl ?_
            cases hx7
            conv => whnf
            refine ⟨(), trivial, Sub.eq rfl ?_ ?_⟩
            · repeat ((conv => whnf); refine Need.mk rfl ?_)
              exact trivial
            · conv => whnf
              refine Need.mk (OLe.refl _) ?_
              conv => whnf
              refine Need.mk (OLe.refl _) ?_
              exact trivial
          · replace hx7 := ite_f hc11 hx7
            cases hx7
            conv => whnf
            refine ⟨(), trivial, Sub.eq rfl ?_ ?_⟩
            · repeat ((conv => whnf); refine Need.mk rfl ?_)
              exact trivial
            · conv => whnf
              refine Need.mk (OLe.refl _) ?_
              conv => whnf
              refine Need.mk (OLe.refl _) ?_
              exact trivial
        · rintro _ _
          conv => whnf
          refine Br.mk (fun hc12 => ?_) (fun hc12 => ?_)
          · replace hx5 := ite_t hc12 hx5
            conv => whnf
            refine Side.mk rfl ?_
            conv => whnf
            refine Side.mk rfl ?_
            cases hx5
            conv => whnf
            refine ⟨(), trivial, Sub.eq rfl ?_ ?_⟩
            · repeat ((conv => whnf); refine Need.mk rfl ?_)
              exact trivial
            · conv => whnf
              refine Need.mk (OLe.refl _) ?_
              conv => whnf
              refine Need.mk (OLe.refl _) ?_
              exact trivial
          · replace hx5 := ite_f hc12 hx5
            cases hx5
            conv => whnf
            refine ⟨(), trivial, Sub.eq rfl ?_ ?_⟩
            · repeat ((conv => whnf); refine Need.mk rfl ?_)
              exact trivial
            · conv => whnf
              refine Need.mk (OLe.refl _) ?_
              conv => whnf
              refine Need.mk (OLe.refl _) ?_
              exact trivial
      · replace hx5 := ite_f hc9 hx5
        cases hx5
        conv => whnf
        refine ⟨(), trivial, Sub.eq rfl ?_ ?_⟩
        · repeat ((conv => whnf); refine Need.mk rfl ?_)
          exact trivial
        · conv => whnf
          refine Need.mk (OLe.refl _) ?_
          conv => whnf
          refine Need.mk (OLe.refl _) ?_
          exact trivial
  · rintro _ _
    conv => whnf
    refine Side.mk rfl ?_
    conv => whnf
    refine Side.mk rfl ?_
    conv => whnf
    refine Side.mk rfl ?_
    conv => whnf
    cases h
    exact rfl

theorem ref01RestC_n {N : Nat} (hN : N ≤ 1073741824) (nrec : Nat) : ∀ {a1 : Ref01Law} {a2 : Ref01Tail} {m1 : List (Ref01Tail × List Bool)} {bo1 : Nat} {r : (List Bool) × (List (Ref01Tail × List Bool))} (h : loopN (fun rr x => ref01Rest_f N rr x.1 x.2.1 x.2.2) nrec (a1, a2, m1) = some r),
    ACalls Try.prog 59 [.d (.agg [I a1.fFrames, I a1.fPins, I a1.fBalls, I a1.fTap]), .d (.agg [I a2.fStand.fFrame, I a2.fStand.fThrown, I a2.fStand.fStanding, .bool a2.fStand.fSet, I a2.fStand.fHas, I a2.fOne, I a2.fTwo]), .mp 16 bo1] [(16, .map bo1 (List.map (fun p => (.agg [I p.1.fStand.fFrame, I p.1.fStand.fThrown, I p.1.fStand.fStanding, .bool p.1.fStand.fSet, I p.1.fStand.fHas, I p.1.fOne, I p.1.fTwo], .list 1 (List.map D.bool p.2))) m1))] fun ae os => ∃ y : Unit, True ∧ ae = .ret (.d (.list 1 (List.map D.bool r.1))) ∧ os = [(16, .map bo1 (List.map (fun p => (.agg [I p.1.fStand.fFrame, I p.1.fStand.fThrown, I p.1.fStand.fStanding, .bool p.1.fStand.fSet, I p.1.fStand.fHas, I p.1.fOne, I p.1.fTwo], .list 1 (List.map D.bool p.2))) r.2))] := by
  induction nrec with
  | zero => intro a1 a2 m1 bo1 r h; cases h
  | succ nrec ih =>
  intro a1 a2 m1 bo1 r h
  replace h : ref01Rest_f N (loopN (fun rr x => ref01Rest_f N rr x.1 x.2.1 x.2.2) nrec) a1 a2 m1 = some r := h
  refine acalls_own tt_ok dr_ok ⟨[3, 4], [], [], [], [1007, 1010, 1015], 10000⟩ Try.func59 rfl Try.call59 rfl ?_
  unfold ref01Rest_f at h
  conv => whnf
  refine Br.mk (fun hc2 => ?_) (fun hc2 => ?_)
  · replace h := ite_t hc2 h
    conv => whnf
    intro hd4
    conv => whnf
    refine Side.mk rfl ?_
    conv => whnf
    cases h
    exact ⟨(), trivial, rfl, inO_at (ren := id) (And.intro rfl trivial)⟩
  · replace h := ite_f hc2 h
    obtain ⟨⟨v4, is4⟩, hx4, h⟩ := obind h
    conv => whnf
    refine Side.mk rfl (Need.mk rfl (Need.mk (fit_all (fun x : Ref01Tail => .agg [I x.fStand.fFrame, I x.fStand.fThrown, I x.fStand.fStanding, .bool x.fStand.fSet, I x.fStand.fHas, I x.fOne, I x.fTwo]) (fun x : List Bool => .list 1 (List.map D.bool x)) fun _ => rfl) (LkG.mk (.list 1 (List.map D.bool v4)) is4 (mgt_v (eK := (fun x : Ref01Tail => .agg [I x.fStand.fFrame, I x.fStand.fThrown, I x.fStand.fStanding, .bool x.fStand.fSet, I x.fStand.fHas, I x.fOne, I x.fTwo])) (eV := (fun x : List Bool => .list 1 (List.map D.bool x))) Ref01Tail.eqc hx4) (mgt_b (eK := (fun x : Ref01Tail => .agg [I x.fStand.fFrame, I x.fStand.fThrown, I x.fStand.fStanding, .bool x.fStand.fSet, I x.fStand.fHas, I x.fOne, I x.fTwo])) (eV := (fun x : List Bool => .list 1 (List.map D.bool x))) Ref01Tail.eqc hx4) ?_)))
    conv => whnf
    refine Br.mk (fun hc4 => ?_) (fun hc4 => ?_)
    · replace h := ite_t hc4 h
      conv => whnf
      cases h
      exact ⟨(), trivial, rfl, inO_at (ren := id) (And.intro rfl trivial)⟩
    · replace h := ite_f hc4 h
      obtain ⟨⟨m9, l590⟩, hx374, h⟩ := obind h
      conv => whnf
      refine SeqG.mk Value (fun y => [(2, .mp 16 bo1), (4, .d (.ref (.agg [I a2.fStand.fFrame, I a2.fStand.fThrown, I a2.fStand.fStanding, .bool a2.fStand.fSet, I a2.fStand.fHas, I a2.fOne, I a2.fTwo]))), (9, .sl 10062 y)]) (fun y => [(16, .map bo1 (List.map (fun p => (.agg [I p.1.fStand.fFrame, I p.1.fStand.fThrown, I p.1.fStand.fStanding, .bool p.1.fStand.fSet, I p.1.fStand.fHas, I p.1.fOne, I p.1.fTwo], .list 1 (List.map D.bool p.2))) m9)), (10062, .arr y 4 1 false (List.map D.bool l590))]) (fun _ => True) ?_ ?_
      · conv => whnf
        refine LoopG.mk (Nat × (Int × (List (Ref01Tail × List Bool)) × (List Bool)) × Value) (fun y => [(2, .mp 16 bo1), (3, .d (.ref (.agg [I a1.fFrames, I a1.fPins, I a1.fBalls, I a1.fTap]))), (4, .d (.ref (.agg [I a2.fStand.fFrame, I a2.fStand.fThrown, I a2.fStand.fStanding, .bool a2.fStand.fSet, I a2.fStand.fHas, I a2.fOne, I a2.fTwo]))), (9, .sl 10062 y.2.2), (10, .d (I y.2.1.1))]) (fun y => [(16, .map bo1 (List.map (fun p => (.agg [I p.1.fStand.fFrame, I p.1.fStand.fThrown, I p.1.fStand.fStanding, .bool p.1.fStand.fSet, I p.1.fStand.fHas, I p.1.fOne, I p.1.fTwo], .list 1 (List.map D.bool p.2))) y.2.1.2.1)), (10062, .arr y.2.2 4 1 false (List.map D.bool y.2.1.2.2))]) (fun y => loopN (fun rr x => ref01Rest_b4 N (loopN (fun rr x => ref01Rest_f N rr x.1 x.2.1 x.2.2) nrec) a1 a2 rr x.1 x.2.1 x.2.2) y.1 y.2.1 = some (m9, l590)) (fun y => y.1) (N, (0, m1, []), (.slice none 0 0)) hx374 (Sub.eq rfl ?_ ?_) ?_
        · repeat ((conv => whnf); refine Need.mk rfl ?_)
          exact trivial
        · conv => whnf
          refine Need.mk (OLe.refl _) ?_
          conv => whnf
          refine Need.mk (OLe.nil _ _ _ _) ?_
          exact trivial
        · rintro ⟨n132, ⟨v52, m15, l984⟩, hd1348⟩ hl132
          obtain ⟨n132, rfl, hl132⟩ := loopN_some hl132
          replace hl132 : ref01Rest_b4 N (loopN (fun rr x => ref01Rest_f N rr x.1 x.2.1 x.2.2) nrec) a1 a2 (loopN (fun rr x => ref01Rest_b4 N (loopN (fun rr x => ref01Rest_f N rr x.1 x.2.1 x.2.2) nrec) a1 a2 rr x.1 x.2.1 x.2.2) n132) v52 m15 l984 = some (m9, l590) := hl132
          rw [ref01Rest_b4] at hl132
          conv => whnf
          refine Br.mk (fun hc856 => ?_) (fun hc856 => ?_)
          · replace hl132 := ite_t hc856 hl132
            obtain ⟨⟨m16, l1082⟩, hx682, hl132⟩ := obind hl132
            conv => whnf
            refine SeqG.mk Value (fun y => [(2, .mp 16 bo1), (3, .d (.ref (.agg [I a1.fFrames, I a1.fPins, I a1.fBalls, I a1.fTap]))), (4, .d (.ref (.agg [I a2.fStand.fFrame, I a2.fStand.fThrown, I a2.fStand.fStanding, .bool a2.fStand.fSet, I a2.fStand.fHas, I a2.fOne, I a2.fTwo]))), (9, .sl 10062 y), (10, .d (I v52))]) (fun y => [(16, .map bo1 (List.map (fun p => (.agg [I p.1.fStand.fFrame, I p.1.fStand.fThrown, I p.1.fStand.fStanding, .bool p.1.fStand.fSet, I p.1.fStand.fHas, I p.1.fOne, I p.1.fTwo], .list 1 (List.map D.bool p.2))) m16)), (10062, .arr y 4 1 false (List.map D.bool l1082))]) (fun _ => True) ?_ ?_
            · obtain ⟨⟨ra46, rb46⟩, hx684, hx682⟩ := obind hx682
              conv => whnf
              refine CallG.pure _ (ref01ThrowXC hN hx684) ?_
              conv => whnf
              intro b24
              conv => whnf
              refine Side.mk rfl ?_
              conv => whnf
              refine Side.mk rfl ?_
              obtain ⟨⟨ra48, rb48⟩, hx686, hx682⟩ := obind hx682
              conv => whnf
              refine CallG.own (ih (bo1 := bo1) hx686) id [(10062, .arr hd1348 4 1 false (List.map D.bool l984)), (10011, .cells b24 [.d (I ra46.fStand.fFrame), .d (I ra46.fStand.fThrown), .d (I ra46.fStand.fStanding), .d (.bool ra46.fStand.fSet), .d (I ra46.fStand.fHas), .d (I ra46.fOne), .d (I ra46.fTwo)])] _ (fun y => [(16, .map bo1 (List.map (fun p => (.agg [I p.1.fStand.fFrame, I p.1.fStand.fThrown, I p.1.fStand.fStanding, .bool p.1.fStand.fSet, I p.1.fStand.fHas, I p.1.fOne, I p.1.fTwo], .list 1 (List.map D.bool p.2))) rb48)), (10062, .arr hd1348 4 1 false (List.map D.bool l984)), (10011, .cells b24 [.d (I ra46.fStand.fFrame), .d (I ra46.fStand.fThrown), .d (I ra46.fStand.fStanding), .d (.bool ra46.fStand.fSet), .d (I ra46.fStand.fHas), .d (I ra46.fOne), .d (I ra46.fTwo)])]) (all2_le_refl _) (And.intro rfl trivial) rfl (And.intro rfl trivial) (And.intro rfl (And.intro rfl trivial)) (fun _ => AV.le_refl _) (fun _ => rfl) ?_
              rintro _ _
              conv => whnf
              refine LoopG.mk (Nat × (Int × (List Bool)) × Value) (fun y => [(2, .mp 16 bo1), (3, .d (.ref (.agg [I a1.fFrames, I a1.fPins, I a1.fBalls, I a1.fTap]))), (4, .d (.ref (.agg [I a2.fStand.fFrame, I a2.fStand.fThrown, I a2.fStand.fStanding, .bool a2.fStand.fSet, I a2.fStand.fHas, I a2.fOne, I a2.fTwo]))), (9, .sl 10062 y.2.2), (10, .d (I v52)), (12, .d (I rb46)), (13, .d (.list 1 (List.map D.bool ra48))), (14, .d (I y.2.1.1))]) (fun y => [(16, .map bo1 (List.map (fun p => (.agg [I p.1.fStand.fFrame, I p.1.fStand.fThrown, I p.1.fStand.fStanding, .bool p.1.fStand.fSet, I p.1.fStand.fHas, I p.1.fOne, I p.1.fTwo], .list 1 (List.map D.bool p.2))) rb48)), (10062, .arr y.2.2 4 1 false (List.map D.bool y.2.1.2))]) (fun y => loopN (fun rr x => ref01Rest_b3 N rb46 ra48 rb48 rr x.1 x.2) y.1 y.2.1 = some (m16, l1082)) (fun y => y.1) (N, (0, l984), hd1348) hx682 (Sub.eq rfl ?_ ?_) ?_
              · repeat ((conv => whnf); refine Need.mk rfl ?_)
                exact trivial
              · conv => whnf
                refine Need.mk (OLe.refl _) ?_
                conv => whnf
                refine Need.mk (OLe.refl _) ?_
                exact trivial
              · rintro ⟨n154, ⟨v60, l1148⟩, hd1572⟩ hl154
                obtain ⟨n154, rfl, hl154⟩ := loopN_some hl154
                replace hl154 : ref01Rest_b3 N rb46 ra48 rb48 (loopN (fun rr x => ref01Rest_b3 N rb46 ra48 rb48 rr x.1 x.2) n154) v60 l1148 = some (m16, l1082) := hl154
                rw [ref01Rest_b3] at hl154
                conv => whnf
                refine Ln.mk _ (List.length_map _) ?_
                conv => whnf
                refine Br.mk (fun hc998 => ?_) (fun hc998 => ?_)
                · replace hl154 := ite_t hc998 hl154
                  obtain ⟨l1164, hx734, hl154⟩ := obind hl154
                  conv => whnf
                  refine SeqG.mk Value (fun y => [(2, .mp 16 bo1), (3, .d (.ref (.agg [I a1.fFrames, I a1.fPins, I a1.fBalls, I a1.fTap]))), (4, .d (.ref (.agg [I a2.fStand.fFrame, I a2.fStand.fThrown, I a2.fStand.fStanding, .bool a2.fStand.fSet, I a2.fStand.fHas, I a2.fOne, I a2.fTwo]))), (9, .sl 10062 y), (10, .d (I v52)), (12, .d (I rb46)), (13, .d (.list 1 (List.map D.bool ra48))), (14, .d (I v60))]) (fun y => [(16, .map bo1 (List.map (fun p => (.agg [I p.1.fStand.fFrame, I p.1.fStand.fThrown, I p.1.fStand.fStanding, .bool p.1.fStand.fSet, I p.1.fStand.fHas, I p.1.fOne, I p.1.fTwo], .list 1 (List.map D.bool p.2))) rb48)), (10062, .arr y 4 1 false (List.map D.bool l1164))]) (fun _ => True) ?_ ?_
                  · obtain ⟨l1172, hx738, hx734⟩ := obind hx734
                    conv => whnf
                    refine SeqG.mk Value (fun y => [(2, .mp 16 bo1), (3, .d (.ref (.agg [I a1.fFrames, I a1.fPins, I a1.fBalls, I a1.fTap]))), (4, .d (.ref (.agg [I a2.fStand.fFrame, I a2.fStand.fThrown, I a2.fStand.fStanding, .bool a2.fStand.fSet, I a2.fStand.fHas, I a2.fOne, I a2.fTwo]))), (9, .sl 10062 y), (10, .d (I v52)), (12, .d (I rb46)), (13, .d (.list 1 (List.map D.bool ra48))), (14, .d (I v60))]) (fun y => [(16, .map bo1 (List.map (fun p => (.agg [I p.1.fStand.fFrame, I p.1.fStand.fThrown, I p.1.fStand.fStanding, .bool p.1.fStand.fSet, I p.1.fStand.fHas, I p.1.fOne, I p.1.fTwo], .list 1 (List.map D.bool p.2))) rb48)), (10062, .arr y 4 1 false (List.map D.bool l1172))]) (fun _ => True) ?_ ?_
                    · conv => whnf
                      refine LoopG.mk (Nat × (List Bool) × Value) (fun y => [(2, .mp 16 bo1), (3, .d (.ref (.agg [I a1.fFrames, I a1.fPins, I a1.fBalls, I a1.fTap]))), (4, .d (.ref (.agg [I a2.fStand.fFrame, I a2.fStand.fThrown, I a2.fStand.fStanding, .bool a2.fStand.fSet, I a2.fStand.fHas, I a2.fOne, I a2.fTwo]))), (9, .sl 10062 y.2.2), (10, .d (I v52)), (12, .d (I rb46)), (13, .d (.list 1 (List.map D.bool ra48))), (14, .d (I v60))]) (fun y => [(16, .map bo1 (List.map (fun p => (.agg [I p.1.fStand.fFrame, I p.1.fStand.fThrown, I p.1.fStand.fStanding, .bool p.1.fStand.fSet, I p.1.fStand.fHas, I p.1.fOne, I p.1.fTwo], .list 1 (List.map D.bool p.2))) rb48)), (10062, .arr y.2.2 4 1 false (List.map D.bool y.2.1))]) (fun y => loopN (fun rr x => ref01Rest_b2 N rb46 v60 rr x) y.1 y.2.1 = some l1172) (fun y => y.1) (N, l1148, hd1572) hx738 (Sub.eq rfl ?_ ?_) ?_
                      · repeat ((conv => whnf); refine Need.mk rfl ?_)
                        exact trivial
                      · conv => whnf
                        refine Need.mk (OLe.refl _) ?_
                        conv => whnf
                        refine Need.mk (OLe.refl _) ?_
                        exact trivial
                      · rintro ⟨n158, l1178, hd1613⟩ hl158
                        obtain ⟨n158, rfl, hl158⟩ := loopN_some hl158
                        replace hl158 : ref01Rest_b2 N rb46 v60 (loopN (fun rr x => ref01Rest_b2 N rb46 v60 rr x) n158) l1178 = some l1172 := hl158
                        rw [ref01Rest_b2] at hl158
                        conv => whnf
                        refine SeqG.mk Unit (fun y => [(2, .mp 16 bo1), (3, .d (.ref (.agg [I a1.fFrames, I a1.fPins, I a1.fBalls, I a1.fTap]))), (4, .d (.ref (.agg [I a2.fStand.fFrame, I a2.fStand.fThrown, I a2.fStand.fStanding, .bool a2.fStand.fSet, I a2.fStand.fHas, I a2.fOne, I a2.fTwo]))), (9, .sl 10062 hd1613), (10, .d (I v52)), (12, .d (I rb46)), (13, .d (.list 1 (List.map D.bool ra48))), (14, .d (I v60))]) (fun y => [(16, .map bo1 (List.map (fun p => (.agg [I p.1.fStand.fFrame, I p.1.fStand.fThrown, I p.1.fStand.fStanding, .bool p.1.fStand.fSet, I p.1.fStand.fHas, I p.1.fOne, I p.1.fTwo], .list 1 (List.map D.bool p.2))) rb48)), (10062, .arr hd1613 4 1 false (List.map D.bool l1178))]) (fun y => ref01Rest_k1 N l1178 (loopN (fun rr x => ref01Rest_b2 N rb46 v60 rr x) n158) = some l1172) ?_ ?_
                        · conv => whnf
                          refine Side.mk rfl (Ln.mk _ (List.length_map _) ?_)
                          conv => whnf
                          refine Br.mk (fun hc1023 => ?_) (fun hc1023 => ?_)
                          · replace hl158 := ite_t hc1023 hl158
                            conv => whnf
                            refine ⟨(), hl158, Sub.eq rfl ?_ ?_⟩
                            · repeat ((conv => whnf); refine Need.mk rfl ?_)
                              exact trivial
                            · conv => whnf
                              refine Need.mk (OLe.refl _) ?_
                              conv => whnf
                              refine Need.mk (OLe.refl _) ?_
                              exact trivial
                          · replace hl158 := ite_f hc1023 hl158
                            cases hl158
                            conv => whnf
                            refine ⟨hd1613, trivial, Sub.eq rfl ?_ ?_⟩
                            · repeat ((conv => whnf); refine Need.mk rfl ?_)
                              exact trivial
                            · conv => whnf
                              refine Need.mk (OLe.refl _) ?_
                              conv => whnf
                              refine Need.mk (OLe.refl _) ?_
                              exact trivial
                        · rintro _ h
                          unfold ref01Rest_k1 at h
                          conv => whnf
                          intro hd1614
                          obtain ⟨l1179, hx741, h⟩ := obind h
                          conv => whnf
                          refine Side.mk ⟨rfl, rfl⟩ ?_
                          conv => whnf
                          refine Side.mk ⟨rfl, rfl, rfl⟩ (Need.mk (app_need hN hx741 (by decide)) (Eqv.mk (List.map D.bool l1179) (app_map _ hx741) ?_))
                          conv => whnf
                          intro hd1615
                          conv => whnf
                          refine ⟨(n158, l1179, hd1615), h, Sub.eq rfl ?_ ?_, Nat.lt_succ_self _⟩
                          · repeat ((conv => whnf); refine Need.mk rfl ?_)
                            exact trivial
                          · conv => whnf
                            refine Need.mk (OLe.refl _) ?_
                            conv => whnf
                            refine Need.mk (OLe.refl _) ?_
                            exact trivial
                    · rintro hd1605 _
                      obtain ⟨x143, hx742, hx734⟩ := obind hx734
                      conv => whnf
                      refine Side.mk ⟨rfl, rfl⟩ (Need.mk (idx_need _ hx742) ?_)
                      conv => whnf
                      refine Side.mk ⟨rfl, rfl⟩ ⟨_, Int.natCast_nonneg _, idx_el _ hx742, ?_⟩
                      conv => whnf
                      refine Br.mk (fun hc1024 => ?_) (fun hc1024 => ?_)
                      · replace hx734 := ite_f hc1024 hx734
                        obtain ⟨x144, hx743, hx734⟩ := obind hx734
                        conv => whnf
                        refine Side.mk rfl ⟨_, idx_0 hx743, idx_map _ hx743, ?_⟩
                        conv => whnf
                        refine Side.mk ⟨rfl, rfl⟩ (Need.mk (idx_need _ hx742) ?_)
                        conv => whnf
                        refine Side.mk ⟨rfl, rfl⟩ ⟨_, Int.natCast_nonneg _, idx_el _ hx742, ?_⟩
                        conv => whnf
                        refine Eqv.mk (List.map D.bool (List.set l1172 (Int.toNat (w64 (rb46 + v60))) x144)) (set_map _ _ _ _ rfl) ?_
                        cases hx734
                        conv => whnf
                        refine ⟨hd1605, trivial, Sub.eq rfl ?_ ?_⟩
                        · repeat ((conv => whnf); refine Need.mk rfl ?_)
                          exact trivial
                        · conv => whnf
                          refine Need.mk (OLe.refl _) ?_
                          conv => whnf
                          refine Need.mk (OLe.refl _) ?_
                          exact trivial
                      · replace hx734 := ite_t hc1024 hx734
                        conv => whnf
                        refine Side.mk ⟨rfl, rfl⟩ (Need.mk (idx_need _ hx742) ?_)
                        conv => whnf
                        refine Side.mk ⟨rfl, rfl⟩ ⟨_, Int.natCast_nonneg _, idx_el _ hx742, ?_⟩
                        conv => whnf
                        refine Eqv.mk (List.map D.bool (List.set l1172 (Int.toNat (w64 (rb46 + v60))) true)) (set_map _ _ _ _ rfl) ?_
                        cases hx734
                        conv => whnf
                        refine ⟨hd1605, trivial, Sub.eq rfl ?_ ?_⟩
                        · repeat ((conv => whnf); refine Need.mk rfl ?_)
                          exact trivial
                        · conv => whnf
                          refine Need.mk (OLe.refl _) ?_
                          conv => whnf
                          refine Need.mk (OLe.refl _) ?_
                          exact trivial
                  · rintro hd1594 _
                    conv => whnf
                    refine ⟨(n154, (w64 (v60 + 1), l1164), hd1594), hl154, Sub.eq rfl ?_ ?_, Nat.lt_succ_self _⟩
                    · repeat ((conv => whnf); refine Need.mk rfl ?_)
                      exact trivial
                    · conv => whnf
                      refine Need.mk (OLe.refl _) ?_
                      conv => whnf
                      refine Need.mk (OLe.refl _) ?_
                      exact trivial
                · replace hl154 := ite_f hc998 hl154
                  cases hl154
                  conv => whnf
                  refine ⟨hd1572, trivial, Sub.eq rfl ?_ ?_⟩
                  · repeat ((conv => whnf); refine Need.mk rfl ?_)
                    exact trivial
                  · conv => whnf
                    refine Need.mk (OLe.refl _) ?_
                    conv => whnf
                    refine Need.mk (OLe.refl _) ?_
                    exact trivial
            · rintro hd1482 _
              conv => whnf
              refine ⟨(n132, (w64 (v52 + 1), m16, l1082), hd1482), hl132, Sub.eq rfl ?_ ?_, Nat.lt_succ_self _⟩
              · repeat ((conv => whnf); refine Need.mk rfl ?_)
                exact trivial
              · conv => whnf
                refine Need.mk (OLe.refl _) ?_
                conv => whnf
                refine Need.mk (OLe.refl _) ?_
                exact trivial
          · replace hl132 := ite_f hc856 hl132
            cases hl132
            conv => whnf
            refine ⟨hd1348, trivial, Sub.eq rfl ?_ ?_⟩
            · repeat ((conv => whnf); refine Need.mk rfl ?_)
              exact trivial
            · conv => whnf
              refine Need.mk (OLe.refl _) ?_
              conv => whnf
              refine Need.mk (OLe.refl _) ?_
              exact trivial
      · rintro hd810 _
        conv => whnf
        refine Side.mk rfl ?_
        conv => whnf
        refine Side.mk rfl (Need.mk rfl (Need.mk (fit_all (fun x : Ref01Tail => .agg [I x.fStand.fFrame, I x.fStand.fThrown, I x.fStand.fStanding, .bool x.fStand.fSet, I x.fStand.fHas, I x.fOne, I x.fTwo]) (fun x : List Bool => .list 1 (List.map D.bool x)) fun _ => rfl) (MEqv.mk (List.map (fun p => (.agg [I p.1.fStand.fFrame, I p.1.fStand.fThrown, I p.1.fStand.fStanding, .bool p.1.fStand.fSet, I p.1.fStand.fHas, I p.1.fOne, I p.1.fTwo], .list 1 (List.map D.bool p.2))) (mput m9 a2 l590)) (mput_D (eK := (fun x : Ref01Tail => .agg [I x.fStand.fFrame, I x.fStand.fThrown, I x.fStand.fStanding, .bool x.fStand.fSet, I x.fStand.fHas, I x.fOne, I x.fTwo])) (eV := (fun x : List Bool => .list 1 (List.map D.bool x))) Ref01Tail.eqc m9 a2 l590) ?_)))
        conv => whnf
        refine Side.mk rfl ?_
        conv => whnf
        cases h
        exact ⟨(), trivial, rfl, inO_at (ren := id) (And.intro rfl trivial)⟩

theorem ref01RestC {N : Nat} (hN : N ≤ 1073741824) {a1 : Ref01Law} {a2 : Ref01Tail} {m1 : List (Ref01Tail × List Bool)} {bo1 : Nat} {r : (List Bool) × (List (Ref01Tail × List Bool))} (h : ref01Rest N a1 a2 m1 = some r) :
    ACalls Try.prog 59 [.d (.agg [I a1.fFrames, I a1.fPins, I a1.fBalls, I a1.fTap]), .d (.agg [I a2.fStand.fFrame, I a2.fStand.fThrown, I a2.fStand.fStanding, .bool a2.fStand.fSet, I a2.fStand.fHas, I a2.fOne, I a2.fTwo]), .mp 16 bo1] [(16, .map bo1 (List.map (fun p => (.agg [I p.1.fStand.fFrame, I p.1.fStand.fThrown, I p.1.fStand.fStanding, .bool p.1.fStand.fSet, I p.1.fStand.fHas, I p.1.fOne, I p.1.fTwo], .list 1 (List.map D.bool p.2))) m1))] fun ae os => ∃ y : Unit, True ∧ ae = .ret (.d (.list 1 (List.map D.bool r.1))) ∧ os = [(16, .map bo1 (List.map (fun p => (.agg [I p.1.fStand.fFrame, I p.1.fStand.fThrown, I p.1.fStand.fStanding, .bool p.1.fStand.fSet, I p.1.fStand.fHas, I p.1.fOne, I p.1.fTwo], .list 1 (List.map D.bool p.2))) r.2))] := ref01RestC_n hN N h

theorem ref01FinalsC {N : Nat} (hN : N ≤ 1073741824) {l1 : Ref01Law} {sheet1 : List Int} {r : (List Int)} (h : ref01Finals N l1 sheet1 = some r) :
    ACalls Try.prog 31 [.d (.agg [I l1.fFrames, I l1.fPins, I l1.fBalls, I l1.fTap]), .d (.list 1 (List.map I sheet1))] [] fun e os => e = .ret (.d (.list 1 (List.map I r))) ∧ os = [] := by
  refine acalls_f (fresh := false) tt_ok dr_ok ⟨[2], [], [], [], [1, 1003, 1006], 0⟩ Try.func31 rfl Try.call31 rfl ?_
  unfold ref01Finals at h
  obtain ⟨⟨n1, rest1⟩, hx4, h⟩ := obind h
  conv => whnf
  refine SeqG.mk Unit (fun y => [(5, .d (I n1)), (6, .d (.list 1 (List.map D.bool rest1)))]) (fun y => []) (fun _ => True) ?_ ?_
  · obtain ⟨r3, hx5, hx4⟩ := obind hx4
    obtain ⟨r4, hx6, hx4⟩ := obind hx4
    obtain ⟨⟨ra2, rb2⟩, hx7, hx4⟩ := obind hx4
    conv => whnf
    refine DrawG.mk (.take 0 (.take 1 (.take 3 (.take 4 (.take 5 (.alt 2 [5, 4, 3] (.alt 6 [3] (.alt 7 [3] (.alt 8 [] (.take 9 (.take 10 .done)) .nil) .nil) (.alt 7 [5, 4, 3] (.alt 6 [3] (.alt 8 [] (.take 9 (.take 10 .done)) .nil) .nil) .nil)) (.alt 7 [5, 4, 3, 1, 0] (.alt 2 [5, 4, 3] (.alt 6 [3] (.alt 8 [] (.take 9 (.take 10 .done)) .nil) .nil) .nil) .nil))))))) (by kernel_rfl) ?_
    conv => whnf
    refine Both.mk ?_ ?_
    · conv => whnf
      refine CallG.pure _ (ref01SumC hN hx5) ?_
      conv => whnf
      refine Need.mk (AV.le_refl _) ?_
      conv => whnf
      refine Need.mk (AV.le_refl _) ?_
      conv => whnf
      refine Need.mk (AV.le_refl _) ?_
      conv => whnf
      refine Both.mk ?_ ?_
      · conv => whnf
        refine CallG.pure _ (ref01TailC hN hx6) ?_
        conv => whnf
        refine Need.mk (AV.le_refl _) ?_
        conv => whnf
        refine Both.mk ?_ trivial
        conv => whnf
        intro b6
        conv => whnf
        refine Need.mk (AV.le_refl _) ?_
        conv => whnf
        refine Both.mk ?_ trivial
        conv => whnf
        refine CallG.own (ref01RestC (bo1 := b6) hN hx7) id [] _ (fun y => [(16, .map b6 (List.map (fun p => (.agg [I p.1.fStand.fFrame, I p.1.fStand.fThrown, I p.1.fStand.fStanding, .bool p.1.fStand.fSet, I p.1.fStand.fHas, I p.1.fOne, I p.1.fTwo], .list 1 (List.map D.bool p.2))) rb2))]) (all2_le_refl _) (And.intro rfl trivial) rfl (And.intro rfl trivial) trivial (fun _ => AV.le_refl _) (fun _ => rfl) ?_
        rintro _ _
        cases hx4
        conv => whnf
        refine ⟨(), trivial, Sub.eq rfl ?_ ?_⟩
        · repeat ((conv => whnf); refine Need.mk rfl ?_)
          exact trivial
        · exact trivial
      · conv => whnf
        refine Both.mk ?_ trivial
        conv => whnf
        intro b7
        conv => whnf
        refine Need.mk (AV.le_refl _) ?_
        conv => whnf
        refine Need.mk (AV.le_refl _) ?_
        conv => whnf
        refine Need.mk (AV.le_refl _) ?_
        conv => whnf
        refine Both.mk ?_ trivial
        conv => whnf
        refine CallG.pure _ (ref01TailC hN hx6) ?_
        conv => whnf
        refine Need.mk (AV.le_refl _) ?_
        conv => whnf
        refine Both.mk ?_ trivial
        conv => whnf
        refine CallG.own (ref01RestC (bo1 := b7) hN hx7) id [] _ (fun y => [(16, .map b7 (List.map (fun p => (.agg [I p.1.fStand.fFrame, I p.1.fStand.fThrown, I p.1.fStand.fStanding, .bool p.1.fStand.fSet, I p.1.fStand.fHas, I p.1.fOne, I p.1.fTwo], .list 1 (List.map D.bool p.2))) rb2))]) (all2_le_refl _) (And.intro rfl trivial) rfl (And.intro rfl trivial) trivial (fun _ => AV.le_refl _) (fun _ => rfl) ?_
        rintro _ _
        cases hx4
        conv => whnf
        refine ⟨(), trivial, Sub.eq rfl ?_ ?_⟩
        · repeat ((conv => whnf); refine Need.mk rfl ?_)
          exact trivial
        · exact trivial
    · conv => whnf
      refine Both.mk ?_ trivial
      conv => whnf
      intro b8
      conv => whnf
      refine Need.mk (AV.le_refl _) ?_
      conv => whnf
      refine Need.mk (AV.le_refl _) ?_
      conv => whnf
      refine Need.mk (AV.le_refl _) ?_
      conv => whnf
      refine Need.mk (AV.le_refl _) ?_
      conv => whnf
      refine Need.mk (AV.le_refl _) ?_
      conv => whnf
      refine Both.mk ?_ trivial
      conv => whnf
      refine CallG.pure _ (ref01SumC hN hx5) ?_
      conv => whnf
      refine Need.mk (AV.le_refl _) ?_
      conv => whnf
      refine Need.mk (AV.le_refl _) ?_
      conv => whnf
      refine Need.mk (AV.le_refl _) ?_
      conv => whnf
      refine Both.mk ?_ trivial
      conv => whnf
      refine CallG.pure _ (ref01TailC hN hx6) ?_
      conv => whnf
      refine Need.mk (AV.le_refl _) ?_
      conv => whnf
      refine Both.mk ?_ trivial
      conv => whnf
      refine CallG.own (ref01RestC (bo1 := b8) hN hx7) id [] _ (fun y => [(16, .map b8 (List.map (fun p => (.agg [I p.1.fStand.fFrame, I p.1.fStand.fThrown, I p.1.fStand.fStanding, .bool p.1.fStand.fSet, I p.1.fStand.fHas, I p.1.fOne, I p.1.fTwo], .list 1 (List.map D.bool p.2))) rb2))]) (all2_le_refl _) (And.intro rfl trivial) rfl (And.intro rfl trivial) trivial (fun _ => AV.le_refl _) (fun _ => rfl) ?_
      rintro _ _
      cases hx4
      conv => whnf
      refine ⟨(), trivial, Sub.eq rfl ?_ ?_⟩
      · repeat ((conv => whnf); refine Need.mk rfl ?_)
        exact trivial
      · exact trivial
  · rintro _ _
    obtain ⟨l15, hx29, h⟩ := obind h
    conv => whnf
    refine SeqG.mk Value (fun y => [(7, .sl 33 y)]) (fun y => [(33, .arr y 3 1 false (List.map I l15))]) (fun _ => True) ?_ ?_
    · conv => whnf
      refine LoopG.mk (Nat × (Int × (List Int)) × Value) (fun y => [(5, .d (I n1)), (6, .d (.list 1 (List.map D.bool rest1))), (7, .sl 33 y.2.2), (8, .d (I y.2.1.1))]) (fun y => [(33, .arr y.2.2 3 1 false (List.map I y.2.1.2))]) (fun y => loopN (fun rr x => ref01Finals_b1 N n1 rest1 rr x.1 x.2) y.1 y.2.1 = some l15) (fun y => y.1) (N, (0, []), (.slice none 0 0)) hx29 (Sub.eq rfl ?_ ?_) ?_
      · repeat ((conv => whnf); refine Need.mk rfl ?_)
        exact trivial
      · conv => whnf
        refine Need.mk (OLe.nil _ _ _ _) ?_
        exact trivial
      · rintro ⟨n3, ⟨k8, l25⟩, hd34⟩ hl2
        obtain ⟨n3, rfl, hl2⟩ := loopN_some hl2
        replace hl2 : ref01Finals_b1 N n1 rest1 (loopN (fun rr x => ref01Finals_b1 N n1 rest1 rr x.1 x.2) n3) k8 l25 = some l15 := hl2
        rw [ref01Finals_b1] at hl2
        conv => whnf
        refine Ln.mk _ (List.length_map _) ?_
        conv => whnf
        refine Br.mk (fun hc22 => ?_) (fun hc22 => ?_)
        · replace hl2 := ite_t hc22 hl2
          obtain ⟨l27, hx47, hl2⟩ := obind hl2
          conv => whnf
          refine SeqG.mk Value (fun y => [(5, .d (I n1)), (6, .d (.list 1 (List.map D.bool rest1))), (7, .sl 33 y), (8, .d (I k8))]) (fun y => [(33, .arr y 3 1 false (List.map I l27))]) (fun _ => True) ?_ ?_
          · obtain ⟨x24, hx49, hx47⟩ := obind hx47
            conv => whnf
            refine Side.mk rfl ⟨_, idx_0 hx49, idx_map _ hx49, ?_⟩
            conv => whnf
            refine Br.mk (fun hc24 => ?_) (fun hc24 => ?_)
            · replace hx47 := ite_t hc24 hx47
              conv => whnf
              intro hd38
              obtain ⟨l28, hx50, hx47⟩ := obind hx47
              conv => whnf
              refine Side.mk ⟨rfl, rfl⟩ ?_
              conv => whnf
              refine Side.mk ⟨rfl, rfl, rfl⟩ (Need.mk (app_need hN hx50 (by decide)) (Eqv.mk (List.map I l28) (app_map _ hx50) ?_))
              conv => whnf
              intro hd39
              cases hx47
              conv => whnf
              refine ⟨hd39, trivial, Sub.eq rfl ?_ ?_⟩
              · repeat ((conv => whnf); refine Need.mk rfl ?_)
                exact trivial
              · conv => whnf
                refine Need.mk (OLe.refl _) ?_
                exact trivial
            · replace hx47 := ite_f hc24 hx47
              cases hx47
              conv => whnf
              refine ⟨hd34, trivial, Sub.eq rfl ?_ ?_⟩
              · repeat ((conv => whnf); refine Need.mk rfl ?_)
                exact trivial
              · conv => whnf
                refine Need.mk (OLe.refl _) ?_
                exact trivial
          · rintro hd37 _
            conv => whnf
            refine ⟨(n3, (w64 (k8 + 1), l27), hd37), hl2, Sub.eq rfl ?_ ?_, Nat.lt_succ_self _⟩
            · repeat ((conv => whnf); refine Need.mk rfl ?_)
              exact trivial
            · conv => whnf
              refine Need.mk (OLe.refl _) ?_
              exact trivial
        · replace hl2 := ite_f hc22 hl2
          cases hl2
          conv => whnf
          refine ⟨hd34, trivial, Sub.eq rfl ?_ ?_⟩
          · repeat ((conv => whnf); refine Need.mk rfl ?_)
            exact trivial
          · conv => whnf
            refine Need.mk (OLe.refl _) ?_
            exact trivial
    · rintro hd20 _
      conv => whnf
      refine Side.mk rfl ?_
      conv => whnf
      cases h
      exact rfl

theorem ref01SpanC {N : Nat} (hN : N ≤ 1073741824) {l1 : Ref01Law} {sheet1 : List Int} {r : Ref01Range} (h : ref01Span N l1 sheet1 = some r) :
    ACalls Try.prog 29 [.d (.agg [I l1.fFrames, I l1.fPins, I l1.fBalls, I l1.fTap]), .d (.list 1 (List.map I sheet1))] [] fun e os => e = .ret (.d (.agg [I r.fLo, I r.fHi])) ∧ os = [] := by
  refine acalls_f (fresh := false) tt_ok dr_ok ⟨[2], [], [], [], [], 0⟩ Try.func29 rfl Try.call29 rfl ?_
  unfold ref01Span at h
  conv => whnf
  intro b2
  obtain ⟨r2, hx2, h⟩ := obind h
  conv => whnf
  refine CallG.pure _ (ref01FinalsC hN hx2) ?_
  obtain ⟨x3, hx5, h⟩ := obind h
  obtain ⟨x4, hx6, h⟩ := obind h
  conv => whnf
  refine DrawG.mk (.take 0 (.take 1 (.take 2 (.take 3 (.take 4 (.take 5 (.take 6 (.take 7 (.take 8 (.alt 9 [7, 6, 5, 4, 3, 1, 0] (.alt 10 [] .done .nil) .nil)))))))))) (by kernel_rfl) ?_
  conv => whnf
  refine Side.mk rfl ⟨_, idx_0 hx5, idx_map _ hx5, ?_⟩
  conv => whnf
  refine Ln.mk _ (List.length_map _) ?_
  conv => whnf
  refine Side.mk rfl ⟨_, idx_0 hx6, idx_map _ hx6, ?_⟩
  conv => whnf
  refine Both.mk ?_ trivial
  conv => whnf
  refine Side.mk rfl ⟨_, idx_0 hx6, idx_map _ hx6, ?_⟩
  conv => whnf
  refine Need.mk (AV.le_refl _) ?_
  conv => whnf
  refine Need.mk (AV.le_refl _) ?_
  conv => whnf
  refine Ln.mk _ (List.length_map _) ?_
  conv => whnf
  refine Need.mk (AV.le_refl _) ?_
  conv => whnf
  refine Need.mk (AV.le_refl _) ?_
  conv => whnf
  refine Need.mk (AV.le_refl _) ?_
  conv => whnf
  refine Side.mk rfl ⟨_, idx_0 hx5, idx_map _ hx5, ?_⟩
  conv => whnf
  refine Need.mk (AV.le_refl _) ?_
  conv => whnf
  refine Need.mk (AV.le_refl _) ?_
  conv => whnf
  refine Both.mk ?_ trivial
  conv => whnf
  refine Side.mk rfl ?_
  conv => whnf
  refine Side.mk rfl ?_
  conv => whnf
  cases h
  exact rfl

theorem ref01FinalC {N : Nat} (hN : N ≤ 1073741824) {l1 : Ref01Law} {sheet1 : List Int} {r : Int} (h : ref01Final N l1 sheet1 = some r) :
    ACalls Try.prog 32 [.d (.agg [I l1.fFrames, I l1.fPins, I l1.fBalls, I l1.fTap]), .d (.list 1 (List.map I sheet1))] [] fun e os => e = .ret (.d (I r)) ∧ os = [] := by
  refine acalls_f (fresh := false) tt_ok dr_ok ⟨[2], [], [], [], [2], 0⟩ Try.func32 rfl Try.call32 rfl ?_
  unfold ref01Final at h
  obtain ⟨⟨ra4, rb4⟩, hx5, h⟩ := obind h
  conv => whnf
  refine CallG.pure _ (ref01PlayC hN hx5) ?_
  conv => whnf
  intro b4
  conv => whnf
  refine Side.mk rfl ?_
  obtain ⟨v2, hx6, h⟩ := obind h
  conv => whnf
  refine SeqG.mk Unit (fun y => [(1, .d (.list 1 (List.map I sheet1))), (2, .d (.ref (.agg [I l1.fFrames, I l1.fPins, I l1.fBalls, I l1.fTap]))), (24, .d (.bool v2))]) (fun y => []) (fun _ => True) ?_ ?_
  · conv => whnf
    refine Side.mk rfl ?_
    conv => whnf
    refine Br.mk (fun hc5 => ?_) (fun hc5 => ?_)
    · replace hx6 := ite_f hc5 hx6
      conv => whnf
      refine Ln.mk _ (List.length_map _) ?_
      conv => whnf
      refine Ln.mk _ (List.length_map _) ?_
      cases hx6
      conv => whnf
      refine ⟨(), trivial, Sub.eq rfl ?_ ?_⟩
      · repeat ((conv => whnf); refine Need.mk rfl ?_)
        exact trivial
      · exact trivial
    · replace hx6 := ite_t hc5 hx6
      cases hx6
      conv => whnf
      refine ⟨(), trivial, Sub.eq rfl ?_ ?_⟩
      · repeat ((conv => whnf); refine Need.mk rfl ?_)
        exact trivial
      · exact trivial
  · rintro _ _
    conv => whnf
    refine Br.mk (fun hc6 => ?_) (fun hc6 => ?_)
    · replace h := ite_t hc6 h
      conv => whnf
      cases h
      exact rfl
    · replace h := ite_f hc6 h
      obtain ⟨r2, hx9, h⟩ := obind h
      obtain ⟨x2, hx10, h⟩ := obind h
      conv => whnf
      refine DrawG.mk (.take 0 (.take 1 (.take 3 (.take 4 (.take 5 (.alt 2 [5, 4, 3] (.take 6 (.take 7 (.take 8 .done))) .nil)))))) (by kernel_rfl) ?_
      conv => whnf
      refine Both.mk ?_ trivial
      conv => whnf
      refine CallG.pure _ (ref01CountsC hN hx9) ?_
      conv => whnf
      refine Need.mk (AV.le_refl _) ?_
      conv => whnf
      refine Need.mk (AV.le_refl _) ?_
      conv => whnf
      refine Need.mk (AV.le_refl _) ?_
      conv => whnf
      refine Side.mk rfl ⟨_, idx_0 hx10, idx_map _ hx10, ?_⟩
      conv => whnf
      cases h
      exact rfl

theorem law01ReadyC {N : Nat} (hN : N ≤ 1073741824) {l1 : Ref01Law} {sheet1 : List Int} {r : Bool} (h : law01Ready N l1 sheet1 = some r) :
    ACalls Try.prog 33 [.d (.agg [I l1.fFrames, I l1.fPins, I l1.fBalls, I l1.fTap]), .d (.list 1 (List.map I sheet1))] [] fun e os => e = .ret (.d (.bool r)) ∧ os = [] := by
  refine acalls_f (fresh := false) tt_ok dr_ok ⟨[2], [], [], [], [1], 0⟩ Try.func33 rfl Try.call33 rfl ?_
  unfold law01Ready at h
  obtain ⟨v1, hx3, h⟩ := obind h
  conv => whnf
  refine SeqG.mk Unit (fun y => [(4, .d (.bool v1))]) (fun y => []) (fun _ => True) ?_ ?_
  · obtain ⟨r3, hx4, hx3⟩ := obind hx3
    conv => whnf
    refine CallG.pure _ (ref01IsLawC hN hx4) ?_
    conv => whnf
    refine Br.mk (fun hc3 => ?_) (fun hc3 => ?_)
    · replace hx3 := ite_t hc3 hx3
      conv => whnf
      refine Ln.mk _ (List.length_map _) ?_
      conv => whnf
      refine Br.mk (fun hc4 => ?_) (fun hc4 => ?_)
      · replace hx3 := ite_t hc4 hx3
        obtain ⟨r4, hx5, hx3⟩ := obind hx3
        conv => whnf
        refine CallG.pure _ (ref01IsC hN hx5) ?_
        cases hx3
        conv => whnf
        refine ⟨(), trivial, Sub.eq rfl ?_ ?_⟩
        · repeat ((conv => whnf); refine Need.mk rfl ?_)
          exact trivial
        · exact trivial
      · replace hx3 := ite_f hc4 hx3
        cases hx3
        conv => whnf
        refine ⟨(), trivial, Sub.eq rfl ?_ ?_⟩
        · repeat ((conv => whnf); refine Need.mk rfl ?_)
          exact trivial
        · exact trivial
    · replace hx3 := ite_f hc3 hx3
      cases hx3
      conv => whnf
      refine ⟨(), trivial, Sub.eq rfl ?_ ?_⟩
      · repeat ((conv => whnf); refine Need.mk rfl ?_)
        exact trivial
      · exact trivial
  · rintro _ _
    conv => whnf
    cases h
    exact rfl

theorem law01EndedC {N : Nat} (hN : N ≤ 1073741824) {l1 : Ref01Law} {sheet1 : List Int} {words1 : List Int} {r : (List Int)} (h : law01Ended N l1 sheet1 words1 = some r) :
    ACalls Try.prog 34 [.d (.agg [I l1.fFrames, I l1.fPins, I l1.fBalls, I l1.fTap]), .d (.list 1 (List.map I sheet1)), .d (.list 1 (List.map (fun x => .int .u8 x) words1))] [] fun e os => e = .ret (.d (.list 1 (List.map I r))) ∧ os = [] := by
  refine acalls_f (fresh := false) tt_ok dr_ok ⟨[3], [], [], [], [4, 1003, 1007], 0⟩ Try.func34 rfl Try.call34 rfl ?_
  unfold law01Ended at h
  obtain ⟨r2, hx2, h⟩ := obind h
  conv => whnf
  refine CallG.fresh 14 (law01ListC hN hx2) ?_
  intro hd2
  obtain ⟨⟨ra2, rb2⟩, hx4, h⟩ := obind h
  conv => whnf
  refine CallG.pure _ (ref01PlayC hN hx4) ?_
  conv => whnf
  intro b2
  conv => whnf
  refine Side.mk rfl ?_
  obtain ⟨l18, hx71, h⟩ := obind h
  conv => whnf
  refine SeqG.mk Value (fun y => [(7, .sl 14 y)]) (fun y => [(14, .arr y 3 1 false (List.map I l18))]) (fun _ => True) ?_ ?_
  · conv => whnf
    refine LoopG.mk (Nat × (Int × (List Int) × Ref01Stand) × Value) (fun y => [(2, .d (.list 1 (List.map (fun x => .int .u8 x) words1))), (3, .d (.ref (.agg [I l1.fFrames, I l1.fPins, I l1.fBalls, I l1.fTap]))), (7, .sl 14 y.2.2), (8, .ptr 8 b2 0), (10, .d (I y.2.1.1))]) (fun y => [(14, .arr y.2.2 3 1 false (List.map I y.2.1.2.1)), (8, .cells b2 [.d (I y.2.1.2.2.fFrame), .d (I y.2.1.2.2.fThrown), .d (I y.2.1.2.2.fStanding), .d (.bool y.2.1.2.2.fSet), .d (I y.2.1.2.2.fHas)])]) (fun y => loopN (fun rr x => law01Ended_b1 N l1 words1 rr x.1 x.2.1 x.2.2) y.1 y.2.1 = some l18) (fun y => y.1) (N, (0, r2, ra2), hd2) hx71 (Sub.eq rfl ?_ ?_) ?_
    · repeat ((conv => whnf); refine Need.mk rfl ?_)
      exact trivial
    · conv => whnf
      refine Need.mk (OLe.refl _) ?_
      conv => whnf
      refine Need.mk (OLe.refl _) ?_
      exact trivial
    · rintro ⟨n2, ⟨k8, l30, s8⟩, hd51⟩ hl2
      obtain ⟨n2, rfl, hl2⟩ := loopN_some hl2
      replace hl2 : law01Ended_b1 N l1 words1 (loopN (fun rr x => law01Ended_b1 N l1 words1 rr x.1 x.2.1 x.2.2) n2) k8 l30 s8 = some l18 := hl2
      rw [law01Ended_b1] at hl2
      obtain ⟨v16, hx117, hl2⟩ := obind hl2
      conv => whnf
      refine SeqG.mk Unit (fun y => [(2, .d (.list 1 (List.map (fun x => .int .u8 x) words1))), (3, .d (.ref (.agg [I l1.fFrames, I l1.fPins, I l1.fBalls, I l1.fTap]))), (7, .sl 14 hd51), (8, .ptr 8 b2 0), (10, .d (I k8)), (29, .d (.bool v16))]) (fun y => [(14, .arr hd51 3 1 false (List.map I l30)), (8, .cells b2 [.d (I s8.fFrame), .d (I s8.fThrown), .d (I s8.fStanding), .d (.bool s8.fSet), .d (I s8.fHas)])]) (fun _ => True) ?_ ?_
      · conv => whnf
        refine Br.mk (fun hc47 => ?_) (fun hc47 => ?_)
        · replace hx117 := ite_t hc47 hx117
          conv => whnf
          refine Side.mk rfl ?_
          cases hx117
          conv => whnf
          refine ⟨(), trivial, Sub.eq rfl ?_ ?_⟩
          · repeat ((conv => whnf); refine Need.mk rfl ?_)
            exact trivial
          · conv => whnf
            refine Need.mk (OLe.refl _) ?_
            conv => whnf
            refine Need.mk (OLe.refl _) ?_
            exact trivial
        · replace hx117 := ite_f hc47 hx117
          cases hx117
          conv => whnf
          refine ⟨(), trivial, Sub.eq rfl ?_ ?_⟩
          · repeat ((conv => whnf); refine Need.mk rfl ?_)
            exact trivial
          · conv => whnf
            refine Need.mk (OLe.refl _) ?_
            conv => whnf
            refine Need.mk (OLe.refl _) ?_
            exact trivial
      · rintro _ _
        conv => whnf
        refine Br.mk (fun hc48 => ?_) (fun hc48 => ?_)
        · replace hl2 := ite_t hc48 hl2
          obtain ⟨w12, hx130, hl2⟩ := obind hl2
          conv => whnf
          refine SeqG.mk Unit (fun y => [(2, .d (.list 1 (List.map (fun x => .int .u8 x) words1))), (3, .d (.ref (.agg [I l1.fFrames, I l1.fPins, I l1.fBalls, I l1.fTap]))), (7, .sl 14 hd51), (8, .ptr 8 b2 0), (10, .d (I k8)), (11, .d (I w12))]) (fun y => [(14, .arr hd51 3 1 false (List.map I l30)), (8, .cells b2 [.d (I s8.fFrame), .d (I s8.fThrown), .d (I s8.fStanding), .d (.bool s8.fSet), .d (I s8.fHas)])]) (fun _ => True) ?_ ?_
          · conv => whnf
            refine Ln.mk _ (List.length_map _) ?_
            conv => whnf
            refine Br.mk (fun hc52 => ?_) (fun hc52 => ?_)
            · replace hx130 := ite_t hc52 hx130
              conv => whnf
              refine Ln.mk _ (List.length_map _) ?_
              obtain ⟨_, hx131, hx130⟩ := obind hx130
              conv => whnf
              refine Need.mk (nz_ne hx131) ?_
              obtain ⟨x24, hx132, hx130⟩ := obind hx130
              conv => whnf
              refine Side.mk rfl ⟨_, idx_0 hx132, idx_map _ hx132, ?_⟩
              cases hx130
              conv => whnf
              refine ⟨(), trivial, Sub.eq rfl ?_ ?_⟩
              · repeat ((conv => whnf); refine Need.mk rfl ?_)
                exact trivial
              · conv => whnf
                refine Need.mk (OLe.refl _) ?_
                conv => whnf
                refine Need.mk (OLe.refl _) ?_
                exact trivial
            · replace hx130 := ite_f hc52 hx130
              cases hx130
              conv => whnf
              refine ⟨(), trivial, Sub.eq rfl ?_ ?_⟩
              · repeat ((conv => whnf); refine Need.mk rfl ?_)
                exact trivial
              · conv => whnf
                refine Need.mk (OLe.refl _) ?_
                conv => whnf
                refine Need.mk (OLe.refl _) ?_
                exact trivial
          · rintro _ _
            conv => whnf
            refine Side.mk rfl ?_
            obtain ⟨_, hx134, hl2⟩ := obind hl2
            conv => whnf
            refine Need.mk (nz_ne hx134) ?_
            conv => whnf
            intro hd58
            obtain ⟨l34, hx136, hl2⟩ := obind hl2
            conv => whnf
            refine Side.mk ⟨rfl, rfl⟩ ?_
            conv => whnf
            refine Side.mk ⟨rfl, rfl, rfl⟩ (Need.mk (app_need hN hx136 (by decide)) (Eqv.mk (List.map I l34) (app_map _ hx136) ?_))
            conv => whnf
            intro hd59
            conv => whnf
            refine Side.mk rfl ?_
            obtain ⟨⟨ra14, rb14⟩, hx137, hl2⟩ := obind hl2
            conv => whnf
            refine CallG.pure _ (ref01ThrowC hN hx137) ?_
            conv => whnf
            refine Side.mk rfl ?_
            conv => whnf
            refine ⟨(n2, (w64 (k8 + 1), l34, ra14), hd59), hl2, Sub.eq rfl ?_ ?_, Nat.lt_succ_self _⟩
            · repeat ((conv => whnf); refine Need.mk rfl ?_)
              exact trivial
            · conv => whnf
              refine Need.mk (OLe.refl _) ?_
              conv => whnf
              refine Need.mk (OLe.refl _) ?_
              exact trivial
        · replace hl2 := ite_f hc48 hl2
          cases hl2
          conv => whnf
          refine ⟨hd51, trivial, Sub.eq rfl ?_ ?_⟩
          · repeat ((conv => whnf); refine Need.mk rfl ?_)
            exact trivial
          · conv => whnf
            refine Need.mk (OLe.refl _) ?_
            exact trivial
  · rintro hd31 _
    conv => whnf
    refine Side.mk rfl ?_
    conv => whnf
    cases h
    exact rfl

theorem frameAhead1C {N : Nat} (hN : N ≤ 1073741824) {sheet1 : List Int} {r : Bool} (h : frameAhead1 N sheet1 = some r) :
    ACalls Try.prog 61 [.d (.list 1 (List.map I sheet1))] [] fun e os => e = .ret (.d (.bool r)) ∧ os = [] := by
  refine acalls_f (fresh := false) tt_ok dr_ok ⟨[], [], [], [], [], 0⟩ Try.func61 rfl Try.call61 rfl ?_
  unfold frameAhead1 at h
  conv => whnf
  refine Ln.mk _ (List.length_map _) ?_
  conv => whnf
  cases h
  exact rfl

theorem frameAll1C {N : Nat} (hN : N ≤ 1073741824) {x1 : List Int} {r : Bool} (h : frameAll1 N x1 = some r) :
    ACalls Try.prog 73 [.d (.list 1 (List.map I x1)), .d (.ref (.agg [.fn (.func 61) [] []]))] [] fun e os => e = .ret (.d (.bool r)) ∧ os = [] := by
  refine acalls_f (fresh := false) tt_ok dr_ok ⟨[], [], [], [], [], 0⟩ Try.func73 rfl Try.call73 rfl ?_
  unfold frameAll1 at h
  obtain ⟨r2, hx2, h⟩ := obind h
  conv => whnf
  refine CallG.pure _ (frameAhead1C hN hx2) ?_
  conv => whnf
  cases h
  exact rfl

theorem slicesIndexFuncC {N : Nat} (hN : N ≤ 1073741824) {s1 : List (List Int)} {r : Int} (h : slicesIndexFunc N s1 = some r) :
    ACalls Try.prog 74 [.d (.list 1 (List.map (fun x => .list 1 (List.map I x)) s1)), .d (.fn (.func 73) [] [.ref (.agg [.fn (.func 61) [] []])])] [] fun e os => e = .ret (.d (I r)) ∧ os = [] := by
  refine acalls_f (fresh := false) tt_ok dr_ok ⟨[], [], [], [], [1001], 0⟩ Try.func74 rfl Try.call74 rfl ?_
  unfold slicesIndexFunc at h
  conv => whnf
  refine SeqG.mk Unit (fun y => []) (fun y => []) (fun y => slicesIndexFunc_k1 N = some r) ?_ ?_
  · conv => whnf
    refine Ln.mk _ (List.length_map _) ?_
    conv => whnf
    refine LoopG.mk (Nat × (Int × Int)) (fun y => [(0, .d (.list 1 (List.map (fun x => .list 1 (List.map I x)) s1))), (1, .d (.fn (.func 73) [] [.ref (.agg [.fn (.func 61) [] []])])), (7, .d (I y.2.1)), (8, .d (I y.2.2))]) (fun y => []) (fun y => loopN (fun rr x => slicesIndexFunc_b2 N s1 rr x.1 x.2) y.1 y.2 = some r) (fun y => y.1) (N, ((s1.length : Int), 0)) h (Sub.eq rfl ?_ ?_) ?_
    · repeat ((conv => whnf); refine Need.mk rfl ?_)
      exact trivial
    · exact trivial
    · rintro ⟨n2, ⟨v17, v18⟩⟩ hl2
      obtain ⟨n2, rfl, hl2⟩ := loopN_some hl2
      replace hl2 : slicesIndexFunc_b2 N s1 (loopN (fun rr x => slicesIndexFunc_b2 N s1 rr x.1 x.2) n2) v17 v18 = some r := hl2
      rw [slicesIndexFunc_b2] at hl2
      conv => whnf
      refine Br.mk (fun hc22 => ?_) (fun hc22 => ?_)
      · replace hl2 := ite_t hc22 hl2
        obtain ⟨x24, hx47, hl2⟩ := obind hl2
        conv => whnf
        refine Side.mk rfl ⟨_, idx_0 hx47, idx_map _ hx47, ?_⟩
        obtain ⟨r24, hx48, hl2⟩ := obind hl2
        conv => whnf
        refine CallG.pure _ (frameAll1C hN hx48) ?_
        conv => whnf
        refine Br.mk (fun hc24 => ?_) (fun hc24 => ?_)
        · replace hl2 := ite_t hc24 hl2
          conv => whnf
          cases hl2
          exact rfl
        · replace hl2 := ite_f hc24 hl2
          conv => whnf
          refine ⟨(n2, (v17, w64 (v18 + 1))), hl2, Sub.eq rfl ?_ ?_, Nat.lt_succ_self _⟩
          · repeat ((conv => whnf); refine Need.mk rfl ?_)
            exact trivial
          · exact trivial
      · replace hl2 := ite_f hc22 hl2
        conv => whnf
        refine ⟨(), hl2, Sub.eq rfl ?_ ?_⟩
        · repeat ((conv => whnf); refine Need.mk rfl ?_)
          exact trivial
        · exact trivial
  · clear h
    rintro _ h
    unfold slicesIndexFunc_k1 at h
    conv => whnf
    cases h
    exact rfl

theorem slicesContainsFuncC {N : Nat} (hN : N ≤ 1073741824) {s1 : List (List Int)} {r : Bool} (h : slicesContainsFunc N s1 = some r) :
    ACalls Try.prog 72 [.d (.list 1 (List.map (fun x => .list 1 (List.map I x)) s1)), .d (.fn (.func 73) [] [.ref (.agg [.fn (.func 61) [] []])])] [] fun e os => e = .ret (.d (.bool r)) ∧ os = [] := by
  refine acalls_f (fresh := false) tt_ok dr_ok ⟨[], [], [], [], [], 0⟩ Try.func72 rfl Try.call72 rfl ?_
  unfold slicesContainsFunc at h
  obtain ⟨r2, hx2, h⟩ := obind h
  conv => whnf
  refine CallG.pure _ (slicesIndexFuncC hN hx2) ?_
  conv => whnf
  cases h
  exact rfl

theorem frameAllC {N : Nat} (hN : N ≤ 1073741824) {l1 : List (List Int)} {r : Bool} (h : frameAll N l1 = some r) :
    ACalls Try.prog 63 [.d (.list 1 (List.map (fun x => .list 1 (List.map I x)) l1)), .d (.fn (.func 61) [] [])] [] fun e os => e = .ret (.d (.bool r)) ∧ os = [] := by
  refine acalls_f (fresh := false) tt_ok dr_ok ⟨[3], [], [], [], [], 0⟩ Try.func63 rfl Try.call63 rfl ?_
  unfold frameAll at h
  obtain ⟨r2, hx2, h⟩ := obind h
  conv => whnf
  refine CallG.pure _ (slicesContainsFuncC hN hx2) ?_
  conv => whnf
  cases h
  exact rfl

theorem frameAhead2C {N : Nat} (hN : N ≤ 1073741824) {sheet1 : List Int} {a1 : FrameLaw} {r : Bool} (h : frameAhead2 N sheet1 a1 = some r) :
    ACalls Try.prog 62 [.d (.list 1 (List.map I sheet1)), .d (.ref (.agg [I a1.fFrames, I a1.fPins, I a1.fBalls, I a1.fTap]))] [] fun e os => e = .ret (.d (.bool r)) ∧ os = [] := by
  refine acalls_f (fresh := false) tt_ok dr_ok ⟨[], [], [], [], [], 0⟩ Try.func62 rfl Try.call62 rfl ?_
  unfold frameAhead2 at h
  obtain ⟨r2, hx2, h⟩ := obind h
  conv => whnf
  refine CallG.pure _ (frameLawCheckC hN hx2) ?_
  conv => whnf
  cases h
  exact rfl

theorem frameAll1XC {N : Nat} (hN : N ≤ 1073741824) {x1 : List Int} {a1 : FrameLaw} {r : Bool} (h : frameAll1X N x1 a1 = some r) :
    ACalls Try.prog 73 [.d (.list 1 (List.map I x1)), .d (.ref (.agg [.fn (.func 62) [] [.ref (.agg [I a1.fFrames, I a1.fPins, I a1.fBalls, I a1.fTap])]]))] [] fun e os => e = .ret (.d (.bool r)) ∧ os = [] := by
  refine acalls_f (fresh := false) tt_ok dr_ok ⟨[], [], [], [], [], 0⟩ Try.func73 rfl Try.call73 rfl ?_
  unfold frameAll1X at h
  obtain ⟨r2, hx2, h⟩ := obind h
  conv => whnf
  refine CallG.pure _ (frameAhead2C hN hx2) ?_
  conv => whnf
  cases h
  exact rfl

theorem slicesIndexFuncXC {N : Nat} (hN : N ≤ 1073741824) {s1 : List (List Int)} {f1 : FrameLaw} {r : Int} (h : slicesIndexFuncX N s1 f1 = some r) :
    ACalls Try.prog 74 [.d (.list 1 (List.map (fun x => .list 1 (List.map I x)) s1)), .d (.fn (.func 73) [] [.ref (.agg [.fn (.func 62) [] [.ref (.agg [I f1.fFrames, I f1.fPins, I f1.fBalls, I f1.fTap])]])])] [] fun e os => e = .ret (.d (I r)) ∧ os = [] := by
  refine acalls_f (fresh := false) tt_ok dr_ok ⟨[], [], [], [], [1001], 0⟩ Try.func74 rfl Try.call74 rfl ?_
  unfold slicesIndexFuncX at h
  conv => whnf
  refine SeqG.mk Unit (fun y => []) (fun y => []) (fun y => slicesIndexFuncX_k1 N = some r) ?_ ?_
  · conv => whnf
    refine Ln.mk _ (List.length_map _) ?_
    conv => whnf
    refine LoopG.mk (Nat × (Int × Int)) (fun y => [(0, .d (.list 1 (List.map (fun x => .list 1 (List.map I x)) s1))), (1, .d (.fn (.func 73) [] [.ref (.agg [.fn (.func 62) [] [.ref (.agg [I f1.fFrames, I f1.fPins, I f1.fBalls, I f1.fTap])]])])), (7, .d (I y.2.1)), (8, .d (I y.2.2))]) (fun y => []) (fun y => loopN (fun rr x => slicesIndexFuncX_b2 N s1 f1 rr x.1 x.2) y.1 y.2 = some r) (fun y => y.1) (N, ((s1.length : Int), 0)) h (Sub.eq rfl ?_ ?_) ?_
    · repeat ((conv => whnf); refine Need.mk rfl ?_)
      exact trivial
    · exact trivial
    · rintro ⟨n2, ⟨v17, v18⟩⟩ hl2
      obtain ⟨n2, rfl, hl2⟩ := loopN_some hl2
      replace hl2 : slicesIndexFuncX_b2 N s1 f1 (loopN (fun rr x => slicesIndexFuncX_b2 N s1 f1 rr x.1 x.2) n2) v17 v18 = some r := hl2
      rw [slicesIndexFuncX_b2] at hl2
      conv => whnf
      refine Br.mk (fun hc22 => ?_) (fun hc22 => ?_)
      · replace hl2 := ite_t hc22 hl2
        obtain ⟨x24, hx47, hl2⟩ := obind hl2
        conv => whnf
        refine Side.mk rfl ⟨_, idx_0 hx47, idx_map _ hx47, ?_⟩
        obtain ⟨r24, hx48, hl2⟩ := obind hl2
        conv => whnf
        refine CallG.pure _ (frameAll1XC hN hx48) ?_
        conv => whnf
        refine Br.mk (fun hc24 => ?_) (fun hc24 => ?_)
        · replace hl2 := ite_t hc24 hl2
          conv => whnf
          cases hl2
          exact rfl
        · replace hl2 := ite_f hc24 hl2
          conv => whnf
          refine ⟨(n2, (v17, w64 (v18 + 1))), hl2, Sub.eq rfl ?_ ?_, Nat.lt_succ_self _⟩
          · repeat ((conv => whnf); refine Need.mk rfl ?_)
            exact trivial
          · exact trivial
      · replace hl2 := ite_f hc22 hl2
        conv => whnf
        refine ⟨(), hl2, Sub.eq rfl ?_ ?_⟩
        · repeat ((conv => whnf); refine Need.mk rfl ?_)
          exact trivial
        · exact trivial
  · clear h
    rintro _ h
    unfold slicesIndexFuncX_k1 at h
    conv => whnf
    cases h
    exact rfl

theorem slicesContainsFuncXC {N : Nat} (hN : N ≤ 1073741824) {s1 : List (List Int)} {f1 : FrameLaw} {r : Bool} (h : slicesContainsFuncX N s1 f1 = some r) :
    ACalls Try.prog 72 [.d (.list 1 (List.map (fun x => .list 1 (List.map I x)) s1)), .d (.fn (.func 73) [] [.ref (.agg [.fn (.func 62) [] [.ref (.agg [I f1.fFrames, I f1.fPins, I f1.fBalls, I f1.fTap])]])])] [] fun e os => e = .ret (.d (.bool r)) ∧ os = [] := by
  refine acalls_f (fresh := false) tt_ok dr_ok ⟨[], [], [], [], [], 0⟩ Try.func72 rfl Try.call72 rfl ?_
  unfold slicesContainsFuncX at h
  obtain ⟨r2, hx2, h⟩ := obind h
  conv => whnf
  refine CallG.pure _ (slicesIndexFuncXC hN hx2) ?_
  conv => whnf
  cases h
  exact rfl

theorem frameAllXC {N : Nat} (hN : N ≤ 1073741824) {l1 : List (List Int)} {right1 : FrameLaw} {r : Bool} (h : frameAllX N l1 right1 = some r) :
    ACalls Try.prog 63 [.d (.list 1 (List.map (fun x => .list 1 (List.map I x)) l1)), .d (.fn (.func 62) [] [.ref (.agg [I right1.fFrames, I right1.fPins, I right1.fBalls, I right1.fTap])])] [] fun e os => e = .ret (.d (.bool r)) ∧ os = [] := by
  refine acalls_f (fresh := false) tt_ok dr_ok ⟨[3], [], [], [], [], 0⟩ Try.func63 rfl Try.call63 rfl ?_
  unfold frameAllX at h
  obtain ⟨r2, hx2, h⟩ := obind h
  conv => whnf
  refine CallG.pure _ (slicesContainsFuncXC hN hx2) ?_
  conv => whnf
  cases h
  exact rfl
end Go.Proofs.Ythjafigloabfpaa
