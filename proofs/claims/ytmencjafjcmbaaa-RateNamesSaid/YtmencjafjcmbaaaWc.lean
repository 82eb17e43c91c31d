/-
  Walks: what the typed functions compute, the program’s functions return.
-/
import Derived.Test.YtmencjafjcmbaaaWe
import Derived.Test.YtmencjafjcmbaaaWb
namespace Go.Proofs.Ytmencjafjcmbaaa
open Go Go.Abs Go.Kp
set_option maxRecDepth 100000
set_option maxHeartbeats 8000000
set_option linter.all false

theorem rateSpanC {N : Nat} (hN : N ≤ 1073741824) {b1 : RateBook} {bowler1 : Int} {w1 : Int} {weeks1 : List Int} {r : RateRange × Int} (h : rateSpan N b1 bowler1 w1 weeks1 = some r) :
    ACalls Try.prog 35 [.d (.agg [I b1.fLaw.fBase, I b1.fLaw.fPercent, I b1.fLaw.fCap, I b1.fLaw.fLeast, I b1.fLaw.fBlind, .list 1 (List.map I b1.fBowlers), .list 6 (List.map RateSheet.enc b1.fSheets), .list 1 (List.map I b1.fWithdrawn)]), .d (I bowler1), .d (I w1), .d (.list 1 (List.map I weeks1))] [] fun e os => e = .ret (.d (.tup [.agg [I r.1.fLo, I r.1.fHi], I r.2])) ∧ os = [] := by
  refine acalls_f (fresh := false) tt_ok dr_ok ⟨[4, 5, 6], [], [], [], [4], 0, []⟩ Try.func35 rfl Try.call35 rfl ?_
  unfold rateSpan at h
  conv => whnf
  intro b3
  obtain ⟨z2, hx2, h⟩ := obind h
  rcases z2 with r2 | ⟨ra2, rb2, rc2, rd2, re2, rf2, rg2, rh2, ri2, rj2⟩
  ·conv => whnf
   refine CallG.own (rateBookAskedC hN hx2) id [(8, .cells b3 [.d (I 0), .d (I 0)])] _ (fun y => [(8, .cells b3 [.d (I 0), .d (I 0)])]) (all2_le_refl _) trivial rfl trivial (And.intro rfl trivial) (fun _ => AV.le_refl _) (fun _ => rfl) ?_
   rintro _ _
   conv => whnf
   intro b10
   conv => whnf
   refine Side.mk rfl ?_
   conv => whnf
   refine Br.mk (fun hc2 => ?_) (fun hc2 => ?_)
   ·replace h := ite_t hc2 h
    conv => whnf
    refine Side.mk rfl ?_
    conv => whnf
    refine Side.mk rfl ?_
    conv => whnf
    cases h
    exact rfl
   ·replace h := ite_f hc2 h
    obtain ⟨v2, hx10, h⟩ := obind h
    conv => whnf
    refine SeqG.mk Unit (fun y => [(3, .d (.list 1 (List.map I weeks1))), (5, .d (.ref (.agg [I bowler1]))), (6, .d (.ref (.agg [I w1]))), (8, .ptr 8 b3 0), (10, .ptr 10 b10 0), (35, .d (.bool v2))]) (fun y => [(8, .cells b3 [.d (I 0), .d (I 0)]), (10, .cells b10 [.d .nilptr])]) (fun _ => True) ?_ ?_
    ·obtain ⟨r9, hx11, hx10⟩ := obind hx10
     conv => whnf
     refine CallG.pure _ (rateRisingC hN hx11) ?_
     conv => whnf
     refine Br.mk (fun hc7 => ?_) (fun hc7 => ?_)
     ·replace hx10 := ite_f hc7 hx10
      obtain ⟨r10, hx12, hx10⟩ := obind hx10
      conv => whnf
      refine CallG.pure _ (rateAllXXXXC hN hx12) ?_
      cases hx10
      conv => whnf
      refine ⟨(), trivial, Sub.eq rfl ?_ ?_⟩
      ·repeat ((conv => whnf); refine Need.mk rfl ?_)
       exact trivial
      ·conv => whnf
       refine Need.mk (OLe.refl _) ?_
       conv => whnf
       refine Need.mk (OLe.refl _) ?_
       exact trivial
     ·replace hx10 := ite_t hc7 hx10
      cases hx10
      conv => whnf
      refine ⟨(), trivial, Sub.eq rfl ?_ ?_⟩
      ·repeat ((conv => whnf); refine Need.mk rfl ?_)
       exact trivial
      ·conv => whnf
       refine Need.mk (OLe.refl _) ?_
       conv => whnf
       refine Need.mk (OLe.refl _) ?_
       exact trivial
    ·rintro _ _
     conv => whnf
     refine Br.mk (fun hc8 => ?_) (fun hc8 => ?_)
     ·replace h := ite_t hc8 h
      conv => whnf
      refine Side.mk rfl ?_
      conv => whnf
      refine Side.mk rfl ?_
      conv => whnf
      cases h
      exact rfl
     ·replace h := ite_f hc8 h
      obtain ⟨r14, hx16, h⟩ := obind h
      conv => whnf
      refine CallG.own (rateAllXXXXXC (bo1 := b10) hN hx16) id [(8, .cells b3 [.d (I 0), .d (I 0)])] _ (fun y => [(10, .cells b10 [.d .nilptr]), (8, .cells b3 [.d (I 0), .d (I 0)])]) (all2_le_refl _) (And.intro rfl trivial) rfl (And.intro rfl trivial) (And.intro rfl trivial) (fun _ => AV.le_refl _) (fun _ => rfl) ?_
      rintro _ _
      conv => whnf
      refine Br.mk (fun hc10 => ?_) (fun hc10 => ?_)
      ·replace h := ite_t hc10 h
       conv => whnf
       refine Side.mk rfl ?_
       conv => whnf
       refine Side.mk rfl ?_
       conv => whnf
       cases h
       exact rfl
      ·replace h := ite_f hc10 h
       conv => whnf
       refine LnA.mk _ (List.length_map _) ?_
       conv => whnf
       intro b12
       conv => whnf
       intro hd4
       conv => whnf
       refine Side.mk rfl (LnA.lit 2 rfl ?_)
       conv => whnf
       refine LoopG.unr 1 ?_
       conv => whnf
       refine Side.mk ⟨rfl, rfl⟩ (Need.mk (by simp) ?_)
       conv => whnf
       refine Side.mk ⟨rfl, rfl⟩ ⟨_, Int.natCast_nonneg _, rfl, ?_⟩
       conv => whnf
       intro b20
       conv => whnf
       refine Side.mk rfl ?_
       cases h
  ·conv => whnf
   refine CallG.own (rateBookAskedC hN hx2) id [(8, .cells b3 [.d (I 0), .d (I 0)])] _ (fun y => [(260019, .cells y.1 [.d (I rb2), .d (I rc2), .d (I rd2), .d (I re2), .d (I rf2), .d (.list 1 (List.map I rg2)), .d (.list 6 (List.map RateSheet.enc rh2)), .d (.list 1 (List.map I ri2)), .mp 260017 y.2]), (260017, .map y.2 (List.map (fun p => (.agg [I p.1.fBowler, I p.1.fWeek], .agg [I p.2.fNumber, I p.2.fBowler, I p.2.fWeek, I p.2.fGames.a0, I p.2.fGames.a1, I p.2.fGames.a2])) rj2)), (8, .cells b3 [.d (I 0), .d (I 0)])]) (all2_le_refl _) trivial rfl trivial (And.intro rfl trivial) (fun _ => AV.le_refl _) (fun _ => rfl) ?_
   rintro ⟨b8, b9⟩ _
   conv => whnf
   intro b21
   conv => whnf
   refine Side.mk rfl ?_
   conv => whnf
   refine Br.mk (fun hc12 => ?_) (fun hc12 => ?_)
   ·replace h := ite_t hc12 h
    conv => whnf
    refine Side.mk rfl ?_
    conv => whnf
    refine Side.mk rfl ?_
    conv => whnf
    cases h
    exact rfl
   ·replace h := ite_f hc12 h
    obtain ⟨v4, hx24, h⟩ := obind h
    conv => whnf
    refine SeqG.mk Unit (fun y => [(3, .d (.list 1 (List.map I weeks1))), (5, .d (.ref (.agg [I bowler1]))), (6, .d (.ref (.agg [I w1]))), (8, .ptr 8 b3 0), (10, .ptr 10 b21 0), (35, .d (.bool v4))]) (fun y => [(8, .cells b3 [.d (I 0), .d (I 0)]), (10, .cells b21 [.ptr 260019 b8 0]), (260019, .cells b8 [.d (I rb2), .d (I rc2), .d (I rd2), .d (I re2), .d (I rf2), .d (.list 1 (List.map I rg2)), .d (.list 6 (List.map RateSheet.enc rh2)), .d (.list 1 (List.map I ri2)), .mp 260017 b9]), (260017, .map b9 (List.map (fun p => (.agg [I p.1.fBowler, I p.1.fWeek], .agg [I p.2.fNumber, I p.2.fBowler, I p.2.fWeek, I p.2.fGames.a0, I p.2.fGames.a1, I p.2.fGames.a2])) rj2))]) (fun _ => True) ?_ ?_
    ·obtain ⟨r21, hx25, hx24⟩ := obind hx24
     conv => whnf
     refine CallG.pure _ (rateRisingC hN hx25) ?_
     conv => whnf
     refine Br.mk (fun hc17 => ?_) (fun hc17 => ?_)
     ·replace hx24 := ite_f hc17 hx24
      obtain ⟨r22, hx26, hx24⟩ := obind hx24
      conv => whnf
      refine CallG.pure _ (rateAllXXXXC hN hx26) ?_
      cases hx24
      conv => whnf
      refine ⟨(), trivial, Sub.eq rfl ?_ ?_⟩
      ·repeat ((conv => whnf); refine Need.mk rfl ?_)
       exact trivial
      ·conv => whnf
       refine Need.mk (OLe.refl _) ?_
       conv => whnf
       refine Need.mk (OLe.refl _) ?_
       conv => whnf
       refine Need.mk (OLe.refl _) ?_
       conv => whnf
       refine Need.mk (OLe.refl _) ?_
       exact trivial
     ·replace hx24 := ite_t hc17 hx24
      cases hx24
      conv => whnf
      refine ⟨(), trivial, Sub.eq rfl ?_ ?_⟩
      ·repeat ((conv => whnf); refine Need.mk rfl ?_)
       exact trivial
      ·conv => whnf
       refine Need.mk (OLe.refl _) ?_
       conv => whnf
       refine Need.mk (OLe.refl _) ?_
       conv => whnf
       refine Need.mk (OLe.refl _) ?_
       conv => whnf
       refine Need.mk (OLe.refl _) ?_
       exact trivial
    ·rintro _ _
     conv => whnf
     refine Br.mk (fun hc18 => ?_) (fun hc18 => ?_)
     ·replace h := ite_t hc18 h
      conv => whnf
      refine Side.mk rfl ?_
      conv => whnf
      refine Side.mk rfl ?_
      conv => whnf
      cases h
      exact rfl
     ·replace h := ite_f hc18 h
      obtain ⟨r26, hx30, h⟩ := obind h
      conv => whnf
      refine CallG.own (rateAllXXXXXXC (bo1 := b21) (bo2 := b8) (bo3 := b9) hN hx30) id [(8, .cells b3 [.d (I 0), .d (I 0)])] _ (fun y => [(10, .cells b21 [.ptr 260019 b8 0]), (260019, .cells b8 [.d (I rb2), .d (I rc2), .d (I rd2), .d (I re2), .d (I rf2), .d (.list 1 (List.map I rg2)), .d (.list 6 (List.map RateSheet.enc rh2)), .d (.list 1 (List.map I ri2)), .mp 260017 b9]), (260017, .map b9 (List.map (fun p => (.agg [I p.1.fBowler, I p.1.fWeek], .agg [I p.2.fNumber, I p.2.fBowler, I p.2.fWeek, I p.2.fGames.a0, I p.2.fGames.a1, I p.2.fGames.a2])) rj2)), (8, .cells b3 [.d (I 0), .d (I 0)])]) (all2_le_refl _) (And.intro rfl (And.intro rfl (And.intro rfl trivial))) rfl (And.intro rfl (And.intro rfl (And.intro rfl trivial))) (And.intro rfl trivial) (fun _ => AV.le_refl _) (fun _ => rfl) ?_
      rintro _ _
      conv => whnf
      refine Br.mk (fun hc20 => ?_) (fun hc20 => ?_)
      ·replace h := ite_t hc20 h
       conv => whnf
       refine Side.mk rfl ?_
       conv => whnf
       refine Side.mk rfl ?_
       conv => whnf
       cases h
       exact rfl
      ·replace h := ite_f hc20 h
       conv => whnf
       refine LnA.mk _ (List.length_map _) ?_
       conv => whnf
       intro b23
       conv => whnf
       intro hd24
       conv => whnf
       refine Side.mk rfl (LnA.lit 2 rfl ?_)
       conv => whnf
       refine LoopG.unr 3 ?_
       conv => whnf
       refine Side.mk ⟨rfl, rfl⟩ (Need.mk (by simp) ?_)
       conv => whnf
       refine Side.mk ⟨rfl, rfl⟩ ⟨_, Int.natCast_nonneg _, rfl, ?_⟩
       conv => whnf
       intro b35
       conv => whnf
       refine Side.mk rfl ?_
       obtain ⟨r42, hx46, h⟩ := obind h
       obtain ⟨r43, hx47, h⟩ := obind h
       obtain ⟨r44, hx48, h⟩ := obind h
       conv => whnf
       refine DrawG.mk (.take 0 (.take 1 (.take 2 (.take 3 (.take 4 (.take 5 (.take 6 (.take 9 (.alt 7 [9, 4, 3, 2, 1, 0] (.alt 8 [9, 4, 3, 2, 1, 0] (.alt 10 [4, 3, 2, 1, 0] (.alt 11 [4, 0] (.take 12 (.alt 13 [] .done .nil)) .nil) .nil) .nil) .nil))))))))) (by kernel_rfl) ?_
       conv => whnf
       refine Side.mk rfl ?_
       conv => whnf
       refine Side.mk rfl ?_
       conv => whnf
       refine Side.mk rfl ?_
       conv => whnf
       refine Both.mk ?_ trivial
       conv => whnf
       refine CallG.own (rateReadWorstC (bo1 := b8) (bo2 := b9) hN hx46) id [(10, .cells b21 [.ptr 260019 b8 0]), (8, .cells b3 [.d (I 0), .d (I 0)]), (13, .cells b23 [.d (I 0), .d (I 0)]), (47, .arr hd24 112 1 false [.agg [.fn (.func 67) [] []], .agg [.fn (.func 68) [] []]]), (15, .cells b35 [.d (.fn (.func 67) [] [])])] _ (fun y => [(260019, .cells b8 [.d (I rb2), .d (I rc2), .d (I rd2), .d (I re2), .d (I rf2), .d (.list 1 (List.map I rg2)), .d (.list 6 (List.map RateSheet.enc rh2)), .d (.list 1 (List.map I ri2)), .mp 260017 b9]), (260017, .map b9 (List.map (fun p => (.agg [I p.1.fBowler, I p.1.fWeek], .agg [I p.2.fNumber, I p.2.fBowler, I p.2.fWeek, I p.2.fGames.a0, I p.2.fGames.a1, I p.2.fGames.a2])) rj2)), (10, .cells b21 [.ptr 260019 b8 0]), (8, .cells b3 [.d (I 0), .d (I 0)]), (13, .cells b23 [.d (I 0), .d (I 0)]), (47, .arr hd24 112 1 false [.agg [.fn (.func 67) [] []], .agg [.fn (.func 68) [] []]]), (15, .cells b35 [.d (.fn (.func 67) [] [])])]) (all2_le_refl _) (And.intro rfl (And.intro rfl trivial)) rfl (And.intro rfl (And.intro rfl trivial)) (And.intro rfl (And.intro rfl (And.intro rfl (And.intro rfl (And.intro rfl trivial))))) (fun _ => AV.le_refl _) (fun _ => rfl) ?_
       rintro _ _
       conv => whnf
       refine Need.mk (AV.le_refl _) ?_
       conv => whnf
       refine Need.mk (AV.le_refl _) ?_
       conv => whnf
       refine Need.mk (AV.le_refl _) ?_
       conv => whnf
       refine Need.mk (AV.le_refl _) ?_
       conv => whnf
       refine Side.mk rfl ?_
       conv => whnf
       refine Need.mk (AV.le_refl _) ?_
       conv => whnf
       refine Need.mk (AV.le_refl _) ?_
       conv => whnf
       refine Both.mk ?_ trivial
       conv => whnf
       intro hd31
       conv => whnf
       refine Need.mk (AV.le_refl _) ?_
       conv => whnf
       refine Need.mk (AV.le_refl _) ?_
       conv => whnf
       refine Need.mk (AV.le_refl _) ?_
       conv => whnf
       refine Need.mk (AV.le_refl _) ?_
       conv => whnf
       refine Side.mk rfl ?_
       conv => whnf
       refine Need.mk (AV.le_refl _) ?_
       conv => whnf
       refine Need.mk (AV.le_refl _) ?_
       conv => whnf
       refine Both.mk ?_ trivial
       conv => whnf
       refine Side.mk rfl ?_
       conv => whnf
       refine CallG.fresh 64 (slicesRepeatC hN hx47) ?_
       intro hd32
       conv => whnf
       refine Need.mk (AV.le_refl _) ?_
       conv => whnf
       refine Need.mk (AV.le_refl _) ?_
       conv => whnf
       refine Need.mk (AV.le_refl _) ?_
       conv => whnf
       refine Side.mk rfl ?_
       conv => whnf
       refine Need.mk (AV.le_refl _) ?_
       conv => whnf
       refine Need.mk (AV.le_refl _) ?_
       conv => whnf
       refine Both.mk ?_ trivial
       conv => whnf
       refine Side.mk rfl ?_
       conv => whnf
       refine CallG.own (rateReadAverageC (bo1 := b8) (bo2 := b9) hN hx48) id [(10, .cells b21 [.ptr 260019 b8 0]), (8, .cells b3 [.d (I 0), .d (I 0)]), (13, .cells b23 [.d (I 0), .d (I 0)]), (47, .arr hd24 112 1 false [.agg [.fn (.func 67) [] []], .agg [.fn (.func 68) [] []]]), (15, .cells b35 [.d (.fn (.func 67) [] [])]), (62, .arr hd31 3 1 true (List.map I ([r42]))), (64, .arr hd32 3 1 true (List.map I r43))] _ (fun y => [(260019, .cells b8 [.d (I rb2), .d (I rc2), .d (I rd2), .d (I re2), .d (I rf2), .d (.list 1 (List.map I rg2)), .d (.list 6 (List.map RateSheet.enc rh2)), .d (.list 1 (List.map I ri2)), .mp 260017 b9]), (260017, .map b9 (List.map (fun p => (.agg [I p.1.fBowler, I p.1.fWeek], .agg [I p.2.fNumber, I p.2.fBowler, I p.2.fWeek, I p.2.fGames.a0, I p.2.fGames.a1, I p.2.fGames.a2])) rj2)), (10, .cells b21 [.ptr 260019 b8 0]), (8, .cells b3 [.d (I 0), .d (I 0)]), (13, .cells b23 [.d (I 0), .d (I 0)]), (47, .arr hd24 112 1 false [.agg [.fn (.func 67) [] []], .agg [.fn (.func 68) [] []]]), (15, .cells b35 [.d (.fn (.func 67) [] [])]), (62, .arr hd31 3 1 true (List.map I ([r42]))), (64, .arr hd32 3 1 true (List.map I r43))]) (all2_le_refl _) (And.intro rfl (And.intro rfl trivial)) rfl (And.intro rfl (And.intro rfl trivial)) (And.intro rfl (And.intro rfl (And.intro rfl (And.intro rfl (And.intro rfl (And.intro rfl (And.intro rfl trivial))))))) (fun _ => AV.le_refl _) (fun _ => rfl) ?_
       rintro _ _
       conv => whnf
       refine Need.mk (AV.le_refl _) ?_
       conv => whnf
       refine Need.mk (AV.le_refl _) ?_
       conv => whnf
       refine IxG.mk 0 rfl (by decide) ?_
       conv => whnf
       refine Both.mk ?_ trivial
       conv => whnf
       refine Side.mk rfl ?_
       conv => whnf
       refine Side.mk ⟨rfl, rfl⟩ (Need.mk (by simp) ?_)
       conv => whnf
       refine Side.mk ⟨rfl, rfl⟩ ⟨_, Int.natCast_nonneg _, rfl, ?_⟩
       conv => whnf
       intro b39
       conv => whnf
       refine Side.mk rfl ?_
       obtain ⟨r48, hx52, h⟩ := obind h
       obtain ⟨r49, hx53, h⟩ := obind h
       obtain ⟨r50, hx54, h⟩ := obind h
       conv => whnf
       refine DrawG.mk (.take 0 (.take 1 (.take 2 (.take 3 (.take 4 (.take 5 (.take 6 (.take 9 (.alt 7 [9, 4, 3, 2, 1, 0] (.alt 8 [9, 4, 3, 2, 1, 0] (.alt 10 [4, 3, 2, 1, 0] (.alt 11 [4, 0] (.take 12 (.alt 13 [] .done .nil)) .nil) .nil) .nil) .nil))))))))) (by kernel_rfl) ?_
       conv => whnf
       refine Side.mk rfl ?_
       conv => whnf
       refine Side.mk rfl ?_
       conv => whnf
       refine Side.mk rfl ?_
       conv => whnf
       refine Both.mk ?_ trivial
       conv => whnf
       refine CallG.own (rateReadBestC (bo1 := b8) (bo2 := b9) hN hx52) id [(10, .cells b21 [.ptr 260019 b8 0]), (8, .cells b3 [.d (I 0), .d (I 0)]), (13, .cells b23 [.d (I r44), .d (I 0)]), (47, .arr hd24 112 1 false [.agg [.fn (.func 67) [] []], .agg [.fn (.func 68) [] []]]), (15, .cells b39 [.d (.fn (.func 68) [] [])]), (62, .arr hd31 3 1 true (List.map I ([r42]))), (64, .arr hd32 3 1 true (List.map I r43))] _ (fun y => [(260019, .cells b8 [.d (I rb2), .d (I rc2), .d (I rd2), .d (I re2), .d (I rf2), .d (.list 1 (List.map I rg2)), .d (.list 6 (List.map RateSheet.enc rh2)), .d (.list 1 (List.map I ri2)), .mp 260017 b9]), (260017, .map b9 (List.map (fun p => (.agg [I p.1.fBowler, I p.1.fWeek], .agg [I p.2.fNumber, I p.2.fBowler, I p.2.fWeek, I p.2.fGames.a0, I p.2.fGames.a1, I p.2.fGames.a2])) rj2)), (10, .cells b21 [.ptr 260019 b8 0]), (8, .cells b3 [.d (I 0), .d (I 0)]), (13, .cells b23 [.d (I r44), .d (I 0)]), (47, .arr hd24 112 1 false [.agg [.fn (.func 67) [] []], .agg [.fn (.func 68) [] []]]), (15, .cells b39 [.d (.fn (.func 68) [] [])]), (62, .arr hd31 3 1 true (List.map I ([r42]))), (64, .arr hd32 3 1 true (List.map I r43))]) (all2_le_refl _) (And.intro rfl (And.intro rfl trivial)) rfl (And.intro rfl (And.intro rfl trivial)) (And.intro rfl (And.intro rfl (And.intro rfl (And.intro rfl (And.intro rfl (And.intro rfl (And.intro rfl trivial))))))) (fun _ => AV.le_refl _) (fun _ => rfl) ?_
       rintro _ _
       conv => whnf
       refine Need.mk (AV.le_refl _) ?_
       conv => whnf
       refine Need.mk (AV.le_refl _) ?_
       conv => whnf
       refine Need.mk (AV.le_refl _) ?_
       conv => whnf
       refine Need.mk (AV.le_refl _) ?_
       conv => whnf
       refine Side.mk rfl ?_
       conv => whnf
       refine Need.mk (AV.le_refl _) ?_
       conv => whnf
       refine Need.mk (AV.le_refl _) ?_
       conv => whnf
       refine Both.mk ?_ trivial
       conv => whnf
       intro hd39
       conv => whnf
       refine Need.mk (AV.le_refl _) ?_
       conv => whnf
       refine Need.mk (AV.le_refl _) ?_
       conv => whnf
       refine Need.mk (AV.le_refl _) ?_
       conv => whnf
       refine Need.mk (AV.le_refl _) ?_
       conv => whnf
       refine Side.mk rfl ?_
       conv => whnf
       refine Need.mk (AV.le_refl _) ?_
       conv => whnf
       refine Need.mk (AV.le_refl _) ?_
       conv => whnf
       refine Both.mk ?_ trivial
       conv => whnf
       refine Side.mk rfl ?_
       conv => whnf
       refine CallG.fresh 64 (slicesRepeatC hN hx53) ?_
       intro hd40
       conv => whnf
       refine Need.mk (AV.le_refl _) ?_
       conv => whnf
       refine Need.mk (AV.le_refl _) ?_
       conv => whnf
       refine Need.mk (AV.le_refl _) ?_
       conv => whnf
       refine Side.mk rfl ?_
       conv => whnf
       refine Need.mk (AV.le_refl _) ?_
       conv => whnf
       refine Need.mk (AV.le_refl _) ?_
       conv => whnf
       refine Both.mk ?_ trivial
       conv => whnf
       refine Side.mk rfl ?_
       conv => whnf
       refine CallG.own (rateReadAverageC (bo1 := b8) (bo2 := b9) hN hx54) id [(10, .cells b21 [.ptr 260019 b8 0]), (8, .cells b3 [.d (I 0), .d (I 0)]), (13, .cells b23 [.d (I r44), .d (I 0)]), (47, .arr hd24 112 1 false [.agg [.fn (.func 67) [] []], .agg [.fn (.func 68) [] []]]), (15, .cells b39 [.d (.fn (.func 68) [] [])]), (62, .arr hd39 3 1 true (List.map I ([r48]))), (64, .arr hd40 3 1 true (List.map I r49))] _ (fun y => [(260019, .cells b8 [.d (I rb2), .d (I rc2), .d (I rd2), .d (I re2), .d (I rf2), .d (.list 1 (List.map I rg2)), .d (.list 6 (List.map RateSheet.enc rh2)), .d (.list 1 (List.map I ri2)), .mp 260017 b9]), (260017, .map b9 (List.map (fun p => (.agg [I p.1.fBowler, I p.1.fWeek], .agg [I p.2.fNumber, I p.2.fBowler, I p.2.fWeek, I p.2.fGames.a0, I p.2.fGames.a1, I p.2.fGames.a2])) rj2)), (10, .cells b21 [.ptr 260019 b8 0]), (8, .cells b3 [.d (I 0), .d (I 0)]), (13, .cells b23 [.d (I r44), .d (I 0)]), (47, .arr hd24 112 1 false [.agg [.fn (.func 67) [] []], .agg [.fn (.func 68) [] []]]), (15, .cells b39 [.d (.fn (.func 68) [] [])]), (62, .arr hd39 3 1 true (List.map I ([r48]))), (64, .arr hd40 3 1 true (List.map I r49))]) (all2_le_refl _) (And.intro rfl (And.intro rfl trivial)) rfl (And.intro rfl (And.intro rfl trivial)) (And.intro rfl (And.intro rfl (And.intro rfl (And.intro rfl (And.intro rfl (And.intro rfl (And.intro rfl trivial))))))) (fun _ => AV.le_refl _) (fun _ => rfl) ?_
       rintro _ _
       conv => whnf
       refine Need.mk (AV.le_refl _) ?_
       conv => whnf
       refine Need.mk (AV.le_refl _) ?_
       conv => whnf
       refine IxG.mk 1 rfl (by decide) ?_
       conv => whnf
       refine Both.mk ?_ trivial
       conv => whnf
       refine Side.mk rfl ?_
       conv => whnf
       refine IxG.mk 0 rfl (by decide) ?_
       conv => whnf
       refine Side.mk rfl ?_
       conv => whnf
       refine IxG.mk 1 rfl (by decide) ?_
       conv => whnf
       refine Side.mk rfl ?_
       conv => whnf
       refine Side.mk rfl ?_
       conv => whnf
       refine Side.mk rfl ?_
       conv => whnf
       cases h
       exact rfl

theorem law07IntsC {N : Nat} (hN : N ≤ 1073741824) {a1 : List Int} {b1 : List Int} {r : Bool} (h : law07Ints N a1 b1 = some r) :
    ACalls Try.prog 23 [.d (.list 1 (List.map I a1)), .d (.list 1 (List.map I b1))] [] fun e os => e = .ret (.d (.bool r)) ∧ os = [] := by
  refine acalls_f (fresh := false) tt_ok dr_ok ⟨[], [], [], [], [1003], 0, []⟩ Try.func23 rfl Try.call23 rfl ?_
  unfold law07Ints at h
  conv => whnf
  refine LnA.mk _ (List.length_map _) ?_
  conv => whnf
  refine LnA.mk _ (List.length_map _) ?_
  conv => whnf
  refine Br.mk (fun hc2 => ?_) (fun hc2 => ?_)
  ·replace h := ite_t hc2 h
   conv => whnf
   cases h
   exact rfl
  ·replace h := ite_f hc2 h
   conv => whnf
   refine SeqG.mk Unit (fun y => []) (fun y => []) (fun y => law07Ints_k1 N = some r) ?_ ?_
   ·conv => whnf
    refine LoopG.mk (Nat × Int) (fun y => [(0, .d (.list 1 (List.map I a1))), (1, .d (.list 1 (List.map I b1))), (5, .d (I y.2))]) (fun y => []) (fun y => loopN (fun rr x => law07Ints_b2 N a1 b1 rr x) y.1 y.2 = some r) (fun y => y.1) (N, 0) h (Sub.eq rfl ?_ ?_) ?_
    ·repeat ((conv => whnf); refine Need.mk rfl ?_)
     exact trivial
    ·exact trivial
    ·rintro ⟨n2, i8⟩ hl2
     obtain ⟨n2, rfl, hl2⟩ := loopN_some hl2
     replace hl2 : law07Ints_b2 N a1 b1 (loopN (fun rr x => law07Ints_b2 N a1 b1 rr x) n2) i8 = some r := hl2
     rw [law07Ints_b2] at hl2
     conv => whnf
     refine LnA.mk _ (List.length_map _) ?_
     conv => whnf
     refine Br.mk (fun hc24 => ?_) (fun hc24 => ?_)
     ·replace hl2 := ite_t hc24 hl2
      obtain ⟨x47, hx47, hl2⟩ := obind hl2
      obtain ⟨x48, hx48, hl2⟩ := obind hl2
      conv => whnf
      refine DrawG.mk (.take 0 (.take 1 (.take 2 (.take 3 (.take 4 (.take 5 (.take 6 (.take 7 (.take 8 .done))))))))) (by kernel_rfl) ?_
      conv => whnf
      refine Side.mk rfl ⟨_, idx_0 hx47, idx_map _ hx47, ?_⟩
      conv => whnf
      refine Side.mk rfl ⟨_, idx_0 hx48, idx_map _ hx48, ?_⟩
      conv => whnf
      refine Br.mk (fun hc26 => ?_) (fun hc26 => ?_)
      ·replace hl2 := ite_t hc26 hl2
       conv => whnf
       cases hl2
       exact rfl
      ·replace hl2 := ite_f hc26 hl2
       conv => whnf
       refine ⟨(n2, w64 (i8 + 1)), hl2, Sub.eq rfl ?_ ?_, Nat.lt_succ_self _⟩
       ·repeat ((conv => whnf); refine Need.mk rfl ?_)
        exact trivial
       ·exact trivial
     ·replace hl2 := ite_f hc24 hl2
      conv => whnf
      refine ⟨(), hl2, Sub.eq rfl ?_ ?_⟩
      ·repeat ((conv => whnf); refine Need.mk rfl ?_)
       exact trivial
      ·exact trivial
   ·clear h
    rintro _ h
    unfold law07Ints_k1 at h
    conv => whnf
    cases h
    exact rfl

theorem law07WakesC {N : Nat} (hN : N ≤ 1073741824)  {r : Bool} (h : law07Wakes N = some r) :
    ACalls Try.prog 18 [] [] fun e os => e = .ret (.d (.bool r)) ∧ os = [] := by
  refine acalls_f (fresh := false) tt_ok dr_ok ⟨[], [], [], [], [6], 0, []⟩ Try.func18 rfl Try.call18 rfl ?_
  unfold law07Wakes at h
  obtain ⟨⟨ra3, rb3, rc2, rd2, re2, rf2, rg2⟩, hx3, h⟩ := obind h
  conv => whnf
  refine CallG.own (law07SeasonC hN hx3) id [] _ (fun y => [(190002, .arr y.1 3 1 false (List.map I rf2)), (190011, .arr y.2 65 6 false (List.map RateSheet.enc rg2))]) (all2_le_refl _) trivial rfl trivial trivial (fun _ => AV.le_refl _) (fun _ => rfl) ?_
  rintro ⟨hd3, hd4⟩ _
  obtain ⟨⟨ra4, rb4⟩, hx4, h⟩ := obind h
  conv => whnf
  refine Side.mk rfl ?_
  conv => whnf
  refine Side.mk rfl ?_
  conv => whnf
  refine CallG.pure _ (rateCountingC hN hx4) ?_
  obtain ⟨⟨ra7, rb7, rc4, rd4, re4, rf4, rg4⟩, hx7, h⟩ := obind h
  conv => whnf
  refine CallG.own (law07SeasonC hN hx7) (fun k => (cond (Nat.beq k 190011) 10190011 (cond (Nat.beq k 190002) 10190002 k))) [(190002, .arr hd3 3 1 true (List.map I rf2)), (190011, .arr hd4 65 6 true (List.map RateSheet.enc rg2))] (fun y => .agg [.d (I ra7), .d (I rb7), .d (I rc4), .d (I rd4), .d (I re4), .sl 10190002 y.1, .sl 10190011 y.2, .nils 1]) (fun y => [(10190002, .arr y.1 3 1 false (List.map I rf4)), (10190011, .arr y.2 65 6 false (List.map RateSheet.enc rg4)), (190002, .arr hd3 3 1 true (List.map I rf2)), (190011, .arr hd4 65 6 true (List.map RateSheet.enc rg2))]) (all2_le_refl _) trivial rfl trivial (And.intro rfl (And.intro rfl trivial)) (fun _ => AV.le_agg (All2.cons (AV.le_refl _) (All2.cons (AV.le_refl _) (All2.cons (AV.le_refl _) (All2.cons (AV.le_refl _) (All2.cons (AV.le_refl _) (All2.cons (AV.le_key _ _ _) (All2.cons (AV.le_key _ _ _) (All2.cons (AV.le_refl _) (All2.nil)))))))))) (fun _ => rfl) ?_
  rintro ⟨hd7, hd8⟩ _
  obtain ⟨⟨ra8, rb8⟩, hx8, h⟩ := obind h
  conv => whnf
  refine Side.mk rfl ?_
  conv => whnf
  refine Side.mk rfl ?_
  conv => whnf
  refine CallG.pure _ (rateAverageC hN hx8) ?_
  obtain ⟨⟨ra11, rb11, rc6, rd6, re6, rf6, rg6⟩, hx11, h⟩ := obind h
  conv => whnf
  refine CallG.own (law07SeasonC hN hx11) (fun k => (cond (Nat.beq k 190011) 20190011 (cond (Nat.beq k 190002) 20190002 k))) [(10190002, .arr hd7 3 1 true (List.map I rf4)), (10190011, .arr hd8 65 6 true (List.map RateSheet.enc rg4)), (190002, .arr hd3 3 1 true (List.map I rf2)), (190011, .arr hd4 65 6 true (List.map RateSheet.enc rg2))] (fun y => .agg [.d (I ra11), .d (I rb11), .d (I rc6), .d (I rd6), .d (I re6), .sl 20190002 y.1, .sl 20190011 y.2, .nils 1]) (fun y => [(20190002, .arr y.1 3 1 false (List.map I rf6)), (20190011, .arr y.2 65 6 false (List.map RateSheet.enc rg6)), (10190002, .arr hd7 3 1 true (List.map I rf4)), (10190011, .arr hd8 65 6 true (List.map RateSheet.enc rg4)), (190002, .arr hd3 3 1 true (List.map I rf2)), (190011, .arr hd4 65 6 true (List.map RateSheet.enc rg2))]) (all2_le_refl _) trivial rfl trivial (And.intro rfl (And.intro rfl (And.intro rfl (And.intro rfl trivial)))) (fun _ => AV.le_agg (All2.cons (AV.le_refl _) (All2.cons (AV.le_refl _) (All2.cons (AV.le_refl _) (All2.cons (AV.le_refl _) (All2.cons (AV.le_refl _) (All2.cons (AV.le_key _ _ _) (All2.cons (AV.le_key _ _ _) (All2.cons (AV.le_refl _) (All2.nil)))))))))) (fun _ => rfl) ?_
  rintro ⟨hd11, hd12⟩ _
  obtain ⟨⟨ra12, rb12⟩, hx12, h⟩ := obind h
  conv => whnf
  refine Side.mk rfl ?_
  conv => whnf
  refine Side.mk rfl ?_
  conv => whnf
  refine CallG.pure _ (rateHandicapC hN hx12) ?_
  obtain ⟨⟨ra15, rb15, rc9, rd8, re8, rf8, rg8⟩, hx15, h⟩ := obind h
  conv => whnf
  refine CallG.own (law07SeasonC hN hx15) (fun k => (cond (Nat.beq k 190011) 30190011 (cond (Nat.beq k 190002) 30190002 k))) [(20190002, .arr hd11 3 1 true (List.map I rf6)), (20190011, .arr hd12 65 6 true (List.map RateSheet.enc rg6)), (10190002, .arr hd7 3 1 true (List.map I rf4)), (10190011, .arr hd8 65 6 true (List.map RateSheet.enc rg4)), (190002, .arr hd3 3 1 true (List.map I rf2)), (190011, .arr hd4 65 6 true (List.map RateSheet.enc rg2))] (fun y => .agg [.d (I ra15), .d (I rb15), .d (I rc9), .d (I rd8), .d (I re8), .sl 30190002 y.1, .sl 30190011 y.2, .nils 1]) (fun y => [(30190002, .arr y.1 3 1 false (List.map I rf8)), (30190011, .arr y.2 65 6 false (List.map RateSheet.enc rg8)), (20190002, .arr hd11 3 1 true (List.map I rf6)), (20190011, .arr hd12 65 6 true (List.map RateSheet.enc rg6)), (10190002, .arr hd7 3 1 true (List.map I rf4)), (10190011, .arr hd8 65 6 true (List.map RateSheet.enc rg4)), (190002, .arr hd3 3 1 true (List.map I rf2)), (190011, .arr hd4 65 6 true (List.map RateSheet.enc rg2))]) (all2_le_refl _) trivial rfl trivial (And.intro rfl (And.intro rfl (And.intro rfl (And.intro rfl (And.intro rfl (And.intro rfl trivial)))))) (fun _ => AV.le_agg (All2.cons (AV.le_refl _) (All2.cons (AV.le_refl _) (All2.cons (AV.le_refl _) (All2.cons (AV.le_refl _) (All2.cons (AV.le_refl _) (All2.cons (AV.le_key _ _ _) (All2.cons (AV.le_key _ _ _) (All2.cons (AV.le_refl _) (All2.nil)))))))))) (fun _ => rfl) ?_
  rintro ⟨hd17, hd18⟩ _
  conv => whnf
  intro hd19
  conv => whnf
  intro hd20
  obtain ⟨⟨ra16, rb16, rc10⟩, hx16, h⟩ := obind h
  conv => whnf
  refine Side.mk rfl ?_
  conv => whnf
  refine Side.mk rfl ?_
  conv => whnf
  refine Side.mk rfl ?_
  conv => whnf
  refine Side.mk rfl ?_
  conv => whnf
  refine CallG.pure _ (rateMatchC hN hx16) ?_
  obtain ⟨⟨ra19, rb19, rc12, rd10, re10, rf10, rg10⟩, hx19, h⟩ := obind h
  conv => whnf
  refine CallG.own (law07SeasonC hN hx19) (fun k => (cond (Nat.beq k 190011) 40190011 (cond (Nat.beq k 190002) 40190002 k))) [(30190002, .arr hd17 3 1 true (List.map I rf8)), (30190011, .arr hd18 65 6 true (List.map RateSheet.enc rg8)), (20190002, .arr hd11 3 1 true (List.map I rf6)), (20190011, .arr hd12 65 6 true (List.map RateSheet.enc rg6)), (10190002, .arr hd7 3 1 true (List.map I rf4)), (10190011, .arr hd8 65 6 true (List.map RateSheet.enc rg4)), (190002, .arr hd3 3 1 true (List.map I rf2)), (190011, .arr hd4 65 6 true (List.map RateSheet.enc rg2)), (29, .arr hd19 3 1 true (List.map I ([0]))), (30, .arr hd20 3 1 true (List.map I ([1])))] (fun y => .agg [.d (I ra19), .d (I rb19), .d (I rc12), .d (I rd10), .d (I re10), .sl 40190002 y.1, .sl 40190011 y.2, .nils 1]) (fun y => [(40190002, .arr y.1 3 1 false (List.map I rf10)), (40190011, .arr y.2 65 6 false (List.map RateSheet.enc rg10)), (30190002, .arr hd17 3 1 true (List.map I rf8)), (30190011, .arr hd18 65 6 true (List.map RateSheet.enc rg8)), (20190002, .arr hd11 3 1 true (List.map I rf6)), (20190011, .arr hd12 65 6 true (List.map RateSheet.enc rg6)), (10190002, .arr hd7 3 1 true (List.map I rf4)), (10190011, .arr hd8 65 6 true (List.map RateSheet.enc rg4)), (190002, .arr hd3 3 1 true (List.map I rf2)), (190011, .arr hd4 65 6 true (List.map RateSheet.enc rg2)), (29, .arr hd19 3 1 true (List.map I ([0]))), (30, .arr hd20 3 1 true (List.map I ([1])))]) (all2_le_refl _) trivial rfl trivial (And.intro rfl (And.intro rfl (And.intro rfl (And.intro rfl (And.intro rfl (And.intro rfl (And.intro rfl (And.intro rfl (And.intro rfl (And.intro rfl trivial)))))))))) (fun _ => AV.le_agg (All2.cons (AV.le_refl _) (All2.cons (AV.le_refl _) (All2.cons (AV.le_refl _) (All2.cons (AV.le_refl _) (All2.cons (AV.le_refl _) (All2.cons (AV.le_key _ _ _) (All2.cons (AV.le_key _ _ _) (All2.cons (AV.le_refl _) (All2.nil)))))))))) (fun _ => rfl) ?_
  rintro ⟨hd24, hd25⟩ _
  conv => whnf
  intro hd26
  obtain ⟨⟨ra20, rb20⟩, hx20, h⟩ := obind h
  conv => whnf
  refine Side.mk rfl ?_
  conv => whnf
  refine Side.mk rfl ?_
  conv => whnf
  refine Side.mk rfl ?_
  conv => whnf
  refine CallG.pure _ (rateSpanC hN hx20) ?_
  conv => whnf
  intro b2
  conv => whnf
  refine Side.mk rfl ?_
  obtain ⟨v1, hx22, h⟩ := obind h
  conv => whnf
  refine SeqG.mk Unit (fun y => [(0, .d (.bool v1))]) (fun y => []) (fun _ => True) ?_ ?_
  ·conv => whnf
   refine Br.mk (fun hc11 => ?_) (fun hc11 => ?_)
   ·replace hx22 := ite_t hc11 hx22
    conv => whnf
    intro hd28
    obtain ⟨r2, hx23, hx22⟩ := obind hx22
    conv => whnf
    refine Side.mk rfl ?_
    conv => whnf
    refine CallG.pure _ (law07IntsC hN hx23) ?_
    conv => whnf
    refine Br.mk (fun hc12 => ?_) (fun hc12 => ?_)
    ·replace hx22 := ite_t hc12 hx22
     conv => whnf
     refine Br.mk (fun hc13 => ?_) (fun hc13 => ?_)
     ·replace hx22 := ite_t hc13 hx22
      conv => whnf
      refine Br.mk (fun hc14 => ?_) (fun hc14 => ?_)
      ·replace hx22 := ite_t hc14 hx22
       conv => whnf
       refine Br.mk (fun hc15 => ?_) (fun hc15 => ?_)
       ·replace hx22 := ite_t hc15 hx22
        conv => whnf
        refine Br.mk (fun hc16 => ?_) (fun hc16 => ?_)
        ·replace hx22 := ite_t hc16 hx22
         conv => whnf
         refine Br.mk (fun hc17 => ?_) (fun hc17 => ?_)
         ·replace hx22 := ite_t hc17 hx22
          conv => whnf
          refine Br.mk (fun hc18 => ?_) (fun hc18 => ?_)
          ·replace hx22 := ite_t hc18 hx22
           conv => whnf
           refine Br.mk (fun hc19 => ?_) (fun hc19 => ?_)
           ·replace hx22 := ite_t hc19 hx22
            conv => whnf
            refine Br.mk (fun hc20 => ?_) (fun hc20 => ?_)
            ·replace hx22 := ite_t hc20 hx22
             conv => whnf
             refine Side.mk rfl ?_
             conv => whnf
             refine Need.mk ⟨rfl, rfl⟩ (EqB.mk _ (RateRange.eqc ra20 (RateRange.mk 95 245)) ?_)
             cases hx22
             conv => whnf
             refine ⟨(), trivial, Sub.eq rfl ?_ ?_⟩
             ·repeat ((conv => whnf); refine Need.mk rfl ?_)
              exact trivial
             ·exact trivial
            ·replace hx22 := ite_f hc20 hx22
             cases hx22
             conv => whnf
             refine ⟨(), trivial, Sub.eq rfl ?_ ?_⟩
             ·repeat ((conv => whnf); refine Need.mk rfl ?_)
              exact trivial
             ·exact trivial
           ·replace hx22 := ite_f hc19 hx22
            cases hx22
            conv => whnf
            refine ⟨(), trivial, Sub.eq rfl ?_ ?_⟩
            ·repeat ((conv => whnf); refine Need.mk rfl ?_)
             exact trivial
            ·exact trivial
          ·replace hx22 := ite_f hc18 hx22
           cases hx22
           conv => whnf
           refine ⟨(), trivial, Sub.eq rfl ?_ ?_⟩
           ·repeat ((conv => whnf); refine Need.mk rfl ?_)
            exact trivial
           ·exact trivial
         ·replace hx22 := ite_f hc17 hx22
          cases hx22
          conv => whnf
          refine ⟨(), trivial, Sub.eq rfl ?_ ?_⟩
          ·repeat ((conv => whnf); refine Need.mk rfl ?_)
           exact trivial
          ·exact trivial
        ·replace hx22 := ite_f hc16 hx22
         cases hx22
         conv => whnf
         refine ⟨(), trivial, Sub.eq rfl ?_ ?_⟩
         ·repeat ((conv => whnf); refine Need.mk rfl ?_)
          exact trivial
         ·exact trivial
       ·replace hx22 := ite_f hc15 hx22
        cases hx22
        conv => whnf
        refine ⟨(), trivial, Sub.eq rfl ?_ ?_⟩
        ·repeat ((conv => whnf); refine Need.mk rfl ?_)
         exact trivial
        ·exact trivial
      ·replace hx22 := ite_f hc14 hx22
       cases hx22
       conv => whnf
       refine ⟨(), trivial, Sub.eq rfl ?_ ?_⟩
       ·repeat ((conv => whnf); refine Need.mk rfl ?_)
        exact trivial
       ·exact trivial
     ·replace hx22 := ite_f hc13 hx22
      cases hx22
      conv => whnf
      refine ⟨(), trivial, Sub.eq rfl ?_ ?_⟩
      ·repeat ((conv => whnf); refine Need.mk rfl ?_)
       exact trivial
      ·exact trivial
    ·replace hx22 := ite_f hc12 hx22
     cases hx22
     conv => whnf
     refine ⟨(), trivial, Sub.eq rfl ?_ ?_⟩
     ·repeat ((conv => whnf); refine Need.mk rfl ?_)
      exact trivial
     ·exact trivial
   ·replace hx22 := ite_f hc11 hx22
    cases hx22
    conv => whnf
    refine ⟨(), trivial, Sub.eq rfl ?_ ?_⟩
    ·repeat ((conv => whnf); refine Need.mk rfl ?_)
     exact trivial
    ·exact trivial
  ·rintro _ _
   conv => whnf
   cases h
   exact rfl

theorem law07ListC {N : Nat} (hN : N ≤ 1073741824) {l1 : List Int} {r : (List Int)} (h : law07List N l1 = some r) :
    ACalls Try.prog 31 [.d (.list 1 (List.map I l1))] [] fun e os => ∃ hd, e = .ret (.sl 0 hd) ∧ os = [(0, .arr hd 3 1 false (List.map I r))] := by
  refine acalls_fr tt_ok dr_ok ⟨[], [], [], [], [], 0, []⟩ Try.func31 rfl Try.call31 rfl ?_
  unfold law07List at h
  conv => whnf
  intro hd3
  obtain ⟨l3, hx2, h⟩ := obind h
  conv => whnf
  refine Side.mk rfl ?_
  conv => whnf
  refine Side.mk ⟨rfl, rfl, rfl⟩ (Need.mk (app_need hN hx2 (by decide)) (Eqv.mk (List.map I l3) (app_map _ hx2) ?_))
  conv => whnf
  intro hd4
  conv => whnf
  cases h
  exact ⟨_, _, rfl, rfl⟩

theorem law07BookC {N : Nat} (hN : N ≤ 1073741824) {b1 : Ref07Book} {r : RateBook} (h : law07Book N b1 = some r) :
    ACalls Try.prog 20 [.d (.agg [I b1.fLaw.fBase, I b1.fLaw.fPercent, I b1.fLaw.fCap, I b1.fLaw.fLeast, I b1.fLaw.fBlind, .list 1 (List.map I b1.fBowlers), .list 6 (List.map Ref07Sheet.enc b1.fSheets), .list 1 (List.map I b1.fWithdrawn)])] [] fun e os => e = .ret (.d (.agg [I r.fLaw.fBase, I r.fLaw.fPercent, I r.fLaw.fCap, I r.fLaw.fLeast, I r.fLaw.fBlind, .list 1 (List.map I r.fBowlers), .list 6 (List.map RateSheet.enc r.fSheets), .list 1 (List.map I r.fWithdrawn)])) ∧ os = [] := by
  refine acalls_f (fresh := false) tt_ok dr_ok ⟨[1], [], [], [], [2, 1003], 0, []⟩ Try.func20 rfl Try.call20 rfl ?_
  unfold law07Book at h
  conv => whnf
  intro b3
  conv => whnf
  intro b5
  conv => whnf
  refine Side.mk rfl ?_
  obtain ⟨⟨c1, c2⟩, hx3, h⟩ := obind h
  conv => whnf
  refine SeqG.mk Nat (fun y => [(1, .d (.ref (.agg [I b1.fLaw.fBase, I b1.fLaw.fPercent, I b1.fLaw.fCap, I b1.fLaw.fLeast, I b1.fLaw.fBlind, .list 1 (List.map I b1.fBowlers), .list 6 (List.map Ref07Sheet.enc b1.fSheets), .list 1 (List.map I b1.fWithdrawn)]))), (2, .ptr 2 b3 0), (4, .ptr 4 y 0)]) (fun y => [(2, .cells b3 [.d (I 0), .d (I 0), .d (I 0), .d (I 0), .d (I 0), .nils 1, .nils 6, .nils 1]), (4, .cells y [.d (I b1.fLaw.fBase), .d (I b1.fLaw.fPercent), .d (I b1.fLaw.fCap), .d (I b1.fLaw.fLeast), .d (I b1.fLaw.fBlind), .d (.list 1 (List.map I c1)), .nils 6, .d (.list 1 (List.map I c2))])]) (fun _ => True) ?_ ?_
  ·obtain ⟨r3, hx4, hx3⟩ := obind hx3
   obtain ⟨r4, hx5, hx3⟩ := obind hx3
   conv => whnf
   refine DrawG.mk (.take 0 (.take 1 (.take 2 (.take 3 (.take 4 (.take 5 (.take 6 (.take 7 (.take 8 (.take 9 (.take 11 (.take 12 (.take 14 (.take 15 (.alt 10 [15, 14, 12, 11, 8, 6, 4, 2, 0] (.alt 13 [15, 14, 11, 8, 6, 4, 2, 0] (.alt 16 [14, 11, 8, 6, 4, 2, 0] (.alt 17 [14, 11, 8, 6, 4, 2, 0] (.alt 18 [14, 11, 8, 6, 4, 2, 0] (.alt 19 [] .done .nil) .nil) (.alt 18 [14, 11, 8, 6, 4, 2, 0] (.alt 17 [14, 11, 8, 6, 4, 2, 0] (.alt 19 [] .done .nil) .nil) .nil)) (.alt 18 [15, 14, 11, 8, 6, 4, 2, 0] (.alt 16 [14, 11, 8, 6, 4, 2, 0] (.alt 17 [14, 11, 8, 6, 4, 2, 0] (.alt 19 [] .done .nil) .nil) .nil) .nil)) (.alt 18 [15, 14, 12, 11, 8, 6, 4, 2, 0] (.alt 13 [15, 14, 11, 8, 6, 4, 2, 0] (.alt 16 [14, 11, 8, 6, 4, 2, 0] (.alt 17 [14, 11, 8, 6, 4, 2, 0] (.alt 19 [] .done .nil) .nil) .nil) .nil) .nil)) (.alt 13 [15, 14, 11, 9, 8, 7, 6, 5, 4, 3, 2, 1, 0] (.alt 10 [15, 14, 11, 8, 6, 4, 2, 0] (.alt 16 [14, 11, 8, 6, 4, 2, 0] (.alt 17 [14, 11, 8, 6, 4, 2, 0] (.alt 18 [14, 11, 8, 6, 4, 2, 0] (.alt 19 [] .done .nil) .nil) (.alt 18 [14, 11, 8, 6, 4, 2, 0] (.alt 17 [14, 11, 8, 6, 4, 2, 0] (.alt 19 [] .done .nil) .nil) .nil)) (.alt 18 [15, 14, 11, 8, 6, 4, 2, 0] (.alt 16 [14, 11, 8, 6, 4, 2, 0] (.alt 17 [14, 11, 8, 6, 4, 2, 0] (.alt 19 [] .done .nil) .nil) .nil) .nil)) (.alt 16 [14, 11, 9, 8, 7, 6, 5, 4, 3, 2, 1, 0] (.alt 10 [14, 11, 8, 6, 4, 2, 0] (.alt 17 [14, 11, 8, 6, 4, 2, 0] (.alt 18 [14, 11, 8, 6, 4, 2, 0] (.alt 19 [] .done .nil) .nil) (.alt 18 [14, 11, 8, 6, 4, 2, 0] (.alt 17 [14, 11, 8, 6, 4, 2, 0] (.alt 19 [] .done .nil) .nil) .nil)) (.alt 18 [14, 11, 9, 8, 7, 6, 5, 4, 3, 2, 1, 0] (.alt 10 [14, 11, 8, 6, 4, 2, 0] (.alt 17 [14, 11, 8, 6, 4, 2, 0] (.alt 19 [] .done .nil) .nil) .nil) .nil)) (.alt 18 [15, 14, 11, 9, 8, 7, 6, 5, 4, 3, 2, 1, 0] (.alt 10 [15, 14, 11, 8, 6, 4, 2, 0] (.alt 16 [14, 11, 8, 6, 4, 2, 0] (.alt 17 [14, 11, 8, 6, 4, 2, 0] (.alt 19 [] .done .nil) .nil) .nil) (.alt 16 [14, 11, 9, 8, 7, 6, 5, 4, 3, 2, 1, 0] (.alt 10 [14, 11, 8, 6, 4, 2, 0] (.alt 17 [14, 11, 8, 6, 4, 2, 0] (.alt 19 [] .done .nil) .nil) .nil) .nil)) .nil))) (.alt 18 [15, 14, 12, 11, 9, 8, 7, 6, 5, 4, 3, 2, 1, 0] (.alt 10 [15, 14, 12, 11, 8, 6, 4, 2, 0] (.alt 13 [15, 14, 11, 8, 6, 4, 2, 0] (.alt 16 [14, 11, 8, 6, 4, 2, 0] (.alt 17 [14, 11, 8, 6, 4, 2, 0] (.alt 19 [] .done .nil) .nil) .nil) .nil) (.alt 13 [15, 14, 11, 9, 8, 7, 6, 5, 4, 3, 2, 1, 0] (.alt 10 [15, 14, 11, 8, 6, 4, 2, 0] (.alt 16 [14, 11, 8, 6, 4, 2, 0] (.alt 17 [14, 11, 8, 6, 4, 2, 0] (.alt 19 [] .done .nil) .nil) .nil) (.alt 16 [14, 11, 9, 8, 7, 6, 5, 4, 3, 2, 1, 0] (.alt 10 [14, 11, 8, 6, 4, 2, 0] (.alt 17 [14, 11, 8, 6, 4, 2, 0] (.alt 19 [] .done .nil) .nil) .nil) .nil)) .nil)) .nil))))))))))))))))) (by kernel_rfl) ?_
   conv => whnf
   refine Side.mk rfl ?_
   conv => whnf
   refine Side.mk rfl ?_
   conv => whnf
   refine Side.mk rfl ?_
   conv => whnf
   refine Side.mk rfl ?_
   conv => whnf
   refine Side.mk rfl ?_
   conv => whnf
   refine Both.mk ?_ ?_
   ·conv => whnf
    refine Need.mk (AV.le_refl _) ?_
    conv => whnf
    refine Need.mk (AV.le_refl _) ?_
    conv => whnf
    refine Need.mk (AV.le_refl _) ?_
    conv => whnf
    refine Need.mk (AV.le_refl _) ?_
    conv => whnf
    refine Need.mk (AV.le_refl _) ?_
    conv => whnf
    refine Need.mk (AV.le_refl _) ?_
    conv => whnf
    refine Need.mk (AV.le_refl _) ?_
    conv => whnf
    refine Need.mk (AV.le_refl _) ?_
    conv => whnf
    refine Need.mk (AV.le_refl _) ?_
    conv => whnf
    refine Both.mk ?_ ?_
    ·conv => whnf
     refine CallG.fresh 22 (law07ListC hN hx4) ?_
     intro hd21
     conv => whnf
     refine Need.mk (AV.le_refl _) ?_
     conv => whnf
     refine Need.mk (AV.le_refl _) ?_
     conv => whnf
     refine Need.mk (AV.le_refl _) ?_
     conv => whnf
     refine Need.mk (AV.le_refl _) ?_
     conv => whnf
     refine Need.mk (AV.le_refl _) ?_
     conv => whnf
     refine Need.mk (AV.le_refl _) ?_
     conv => whnf
     refine Need.mk (AV.le_refl _) ?_
     conv => whnf
     refine Need.mk (AV.le_refl _) ?_
     conv => whnf
     refine Both.mk ?_ ?_
     ·conv => whnf
      refine CallG.fresh 25 (law07ListC hN hx5) ?_
      intro hd22
      conv => whnf
      refine Need.mk (AV.le_refl _) ?_
      conv => whnf
      refine Need.mk (AV.le_refl _) ?_
      conv => whnf
      refine Need.mk (AV.le_refl _) ?_
      conv => whnf
      refine Need.mk (AV.le_refl _) ?_
      conv => whnf
      refine Need.mk (AV.le_refl _) ?_
      conv => whnf
      refine Need.mk (AV.le_refl _) ?_
      conv => whnf
      refine Need.mk (AV.le_refl _) ?_
      conv => whnf
      refine Both.mk ?_ ?_
      ·conv => whnf
       refine Side.mk rfl ?_
       conv => whnf
       refine Side.mk rfl ?_
       conv => whnf
       refine Need.mk (AV.le_refl _) ?_
       conv => whnf
       refine Need.mk (AV.le_refl _) ?_
       conv => whnf
       refine Need.mk (AV.le_refl _) ?_
       conv => whnf
       refine Need.mk (AV.le_refl _) ?_
       conv => whnf
       refine Need.mk (AV.le_refl _) ?_
       conv => whnf
       refine Need.mk (AV.le_refl _) ?_
       conv => whnf
       refine Need.mk (AV.le_refl _) ?_
       conv => whnf
       refine Both.mk ?_ trivial
       conv => whnf
       intro b20
       conv => whnf
       refine Need.mk (AV.le_refl _) ?_
       conv => whnf
       refine Need.mk (AV.le_refl _) ?_
       conv => whnf
       refine Need.mk (AV.le_refl _) ?_
       conv => whnf
       refine Need.mk (AV.le_refl _) ?_
       conv => whnf
       refine Need.mk (AV.le_refl _) ?_
       conv => whnf
       refine Need.mk (AV.le_refl _) ?_
       conv => whnf
       refine Need.mk (AV.le_refl _) ?_
       conv => whnf
       refine Both.mk ?_ trivial
       conv => whnf
       refine Side.mk rfl ?_
       cases hx3
       conv => whnf
       refine ⟨b20, trivial, Sub.eq rfl ?_ ?_⟩
       ·repeat ((conv => whnf); refine Need.mk rfl ?_)
        exact trivial
       ·conv => whnf
        refine Need.mk (OLe.refl _) ?_
        conv => whnf
        refine Need.mk (OLe.refl _) ?_
        exact trivial
      ·conv => whnf
       refine Both.mk ?_ trivial
       conv => whnf
       intro b21
       conv => whnf
       refine Need.mk (AV.le_refl _) ?_
       conv => whnf
       refine Need.mk (AV.le_refl _) ?_
       conv => whnf
       refine Need.mk (AV.le_refl _) ?_
       conv => whnf
       refine Need.mk (AV.le_refl _) ?_
       conv => whnf
       refine Need.mk (AV.le_refl _) ?_
       conv => whnf
       refine Need.mk (AV.le_refl _) ?_
       conv => whnf
       refine Need.mk (AV.le_refl _) ?_
       conv => whnf
       refine Both.mk ?_ trivial
       conv => whnf
       refine Side.mk rfl ?_
       conv => whnf
       refine Side.mk rfl ?_
       conv => whnf
       refine Need.mk (AV.le_refl _) ?_
       conv => whnf
       refine Need.mk (AV.le_refl _) ?_
       conv => whnf
       refine Need.mk (AV.le_refl _) ?_
       conv => whnf
       refine Need.mk (AV.le_refl _) ?_
       conv => whnf
       refine Need.mk (AV.le_refl _) ?_
       conv => whnf
       refine Need.mk (AV.le_refl _) ?_
       conv => whnf
       refine Need.mk (AV.le_refl _) ?_
       conv => whnf
       refine Both.mk ?_ trivial
       conv => whnf
       refine Side.mk rfl ?_
       cases hx3
       conv => whnf
       refine ⟨b21, trivial, Sub.eq rfl ?_ ?_⟩
       ·repeat ((conv => whnf); refine Need.mk rfl ?_)
        exact trivial
       ·conv => whnf
        refine Need.mk (OLe.refl _) ?_
        conv => whnf
        refine Need.mk (OLe.refl _) ?_
        exact trivial
     ·conv => whnf
      refine Both.mk ?_ trivial
      conv => whnf
      intro b22
      conv => whnf
      refine Need.mk (AV.le_refl _) ?_
      conv => whnf
      refine Need.mk (AV.le_refl _) ?_
      conv => whnf
      refine Need.mk (AV.le_refl _) ?_
      conv => whnf
      refine Need.mk (AV.le_refl _) ?_
      conv => whnf
      refine Need.mk (AV.le_refl _) ?_
      conv => whnf
      refine Need.mk (AV.le_refl _) ?_
      conv => whnf
      refine Need.mk (AV.le_refl _) ?_
      conv => whnf
      refine Need.mk (AV.le_refl _) ?_
      conv => whnf
      refine Both.mk ?_ trivial
      conv => whnf
      refine CallG.fresh 25 (law07ListC hN hx5) ?_
      intro hd23
      conv => whnf
      refine Need.mk (AV.le_refl _) ?_
      conv => whnf
      refine Need.mk (AV.le_refl _) ?_
      conv => whnf
      refine Need.mk (AV.le_refl _) ?_
      conv => whnf
      refine Need.mk (AV.le_refl _) ?_
      conv => whnf
      refine Need.mk (AV.le_refl _) ?_
      conv => whnf
      refine Need.mk (AV.le_refl _) ?_
      conv => whnf
      refine Need.mk (AV.le_refl _) ?_
      conv => whnf
      refine Both.mk ?_ trivial
      conv => whnf
      refine Side.mk rfl ?_
      conv => whnf
      refine Side.mk rfl ?_
      conv => whnf
      refine Need.mk (AV.le_refl _) ?_
      conv => whnf
      refine Need.mk (AV.le_refl _) ?_
      conv => whnf
      refine Need.mk (AV.le_refl _) ?_
      conv => whnf
      refine Need.mk (AV.le_refl _) ?_
      conv => whnf
      refine Need.mk (AV.le_refl _) ?_
      conv => whnf
      refine Need.mk (AV.le_refl _) ?_
      conv => whnf
      refine Need.mk (AV.le_refl _) ?_
      conv => whnf
      refine Both.mk ?_ trivial
      conv => whnf
      refine Side.mk rfl ?_
      cases hx3
      conv => whnf
      refine ⟨b22, trivial, Sub.eq rfl ?_ ?_⟩
      ·repeat ((conv => whnf); refine Need.mk rfl ?_)
       exact trivial
      ·conv => whnf
       refine Need.mk (OLe.refl _) ?_
       conv => whnf
       refine Need.mk (OLe.refl _) ?_
       exact trivial
    ·conv => whnf
     refine Both.mk ?_ trivial
     conv => whnf
     intro b23
     conv => whnf
     refine Need.mk (AV.le_refl _) ?_
     conv => whnf
     refine Need.mk (AV.le_refl _) ?_
     conv => whnf
     refine Need.mk (AV.le_refl _) ?_
     conv => whnf
     refine Need.mk (AV.le_refl _) ?_
     conv => whnf
     refine Need.mk (AV.le_refl _) ?_
     conv => whnf
     refine Need.mk (AV.le_refl _) ?_
     conv => whnf
     refine Need.mk (AV.le_refl _) ?_
     conv => whnf
     refine Need.mk (AV.le_refl _) ?_
     conv => whnf
     refine Need.mk (AV.le_refl _) ?_
     conv => whnf
     refine Both.mk ?_ trivial
     conv => whnf
     refine CallG.fresh 22 (law07ListC hN hx4) ?_
     intro hd24
     conv => whnf
     refine Need.mk (AV.le_refl _) ?_
     conv => whnf
     refine Need.mk (AV.le_refl _) ?_
     conv => whnf
     refine Need.mk (AV.le_refl _) ?_
     conv => whnf
     refine Need.mk (AV.le_refl _) ?_
     conv => whnf
     refine Need.mk (AV.le_refl _) ?_
     conv => whnf
     refine Need.mk (AV.le_refl _) ?_
     conv => whnf
     refine Need.mk (AV.le_refl _) ?_
     conv => whnf
     refine Need.mk (AV.le_refl _) ?_
     conv => whnf
     refine Both.mk ?_ trivial
     conv => whnf
     refine CallG.fresh 25 (law07ListC hN hx5) ?_
     intro hd25
     conv => whnf
     refine Need.mk (AV.le_refl _) ?_
     conv => whnf
     refine Need.mk (AV.le_refl _) ?_
     conv => whnf
     refine Need.mk (AV.le_refl _) ?_
     conv => whnf
     refine Need.mk (AV.le_refl _) ?_
     conv => whnf
     refine Need.mk (AV.le_refl _) ?_
     conv => whnf
     refine Need.mk (AV.le_refl _) ?_
     conv => whnf
     refine Need.mk (AV.le_refl _) ?_
     conv => whnf
     refine Both.mk ?_ trivial
     conv => whnf
     refine Side.mk rfl ?_
     conv => whnf
     refine Side.mk rfl ?_
     conv => whnf
     refine Need.mk (AV.le_refl _) ?_
     conv => whnf
     refine Need.mk (AV.le_refl _) ?_
     conv => whnf
     refine Need.mk (AV.le_refl _) ?_
     conv => whnf
     refine Need.mk (AV.le_refl _) ?_
     conv => whnf
     refine Need.mk (AV.le_refl _) ?_
     conv => whnf
     refine Need.mk (AV.le_refl _) ?_
     conv => whnf
     refine Need.mk (AV.le_refl _) ?_
     conv => whnf
     refine Both.mk ?_ trivial
     conv => whnf
     refine Side.mk rfl ?_
     cases hx3
     conv => whnf
     refine ⟨b23, trivial, Sub.eq rfl ?_ ?_⟩
     ·repeat ((conv => whnf); refine Need.mk rfl ?_)
      exact trivial
     ·conv => whnf
      refine Need.mk (OLe.refl _) ?_
      conv => whnf
      refine Need.mk (OLe.refl _) ?_
      exact trivial
   ·conv => whnf
    refine Both.mk ?_ ?_
    ·conv => whnf
     refine CallG.fresh 22 (law07ListC hN hx4) ?_
     intro hd26
     conv => whnf
     refine Need.mk (AV.le_refl _) ?_
     conv => whnf
     refine Need.mk (AV.le_refl _) ?_
     conv => whnf
     refine Need.mk (AV.le_refl _) ?_
     conv => whnf
     refine Side.mk rfl ?_
     conv => whnf
     refine Need.mk (AV.le_refl _) ?_
     conv => whnf
     refine Need.mk (AV.le_refl _) ?_
     conv => whnf
     refine Side.mk rfl ?_
     conv => whnf
     refine Need.mk (AV.le_refl _) ?_
     conv => whnf
     refine Need.mk (AV.le_refl _) ?_
     conv => whnf
     refine Side.mk rfl ?_
     conv => whnf
     refine Need.mk (AV.le_refl _) ?_
     conv => whnf
     refine Need.mk (AV.le_refl _) ?_
     conv => whnf
     refine Side.mk rfl ?_
     conv => whnf
     refine Need.mk (AV.le_refl _) ?_
     conv => whnf
     refine Need.mk (AV.le_refl _) ?_
     conv => whnf
     refine Side.mk rfl ?_
     conv => whnf
     refine Need.mk (AV.le_refl _) ?_
     conv => whnf
     refine Need.mk (AV.le_refl _) ?_
     conv => whnf
     refine Both.mk ?_ ?_
     ·conv => whnf
      refine Need.mk (AV.le_refl _) ?_
      conv => whnf
      refine Need.mk (AV.le_refl _) ?_
      conv => whnf
      refine Need.mk (AV.le_refl _) ?_
      conv => whnf
      refine Need.mk (AV.le_refl _) ?_
      conv => whnf
      refine Need.mk (AV.le_refl _) ?_
      conv => whnf
      refine Need.mk (AV.le_refl _) ?_
      conv => whnf
      refine Need.mk (AV.le_refl _) ?_
      conv => whnf
      refine Need.mk (AV.le_refl _) ?_
      conv => whnf
      refine Both.mk ?_ ?_
      ·conv => whnf
       refine CallG.fresh 25 (law07ListC hN hx5) ?_
       intro hd27
       conv => whnf
       refine Need.mk (AV.le_refl _) ?_
       conv => whnf
       refine Need.mk (AV.le_refl _) ?_
       conv => whnf
       refine Need.mk (AV.le_refl _) ?_
       conv => whnf
       refine Need.mk (AV.le_refl _) ?_
       conv => whnf
       refine Need.mk (AV.le_refl _) ?_
       conv => whnf
       refine Need.mk (AV.le_refl _) ?_
       conv => whnf
       refine Need.mk (AV.le_refl _) ?_
       conv => whnf
       refine Both.mk ?_ ?_
       ·conv => whnf
        refine Side.mk rfl ?_
        conv => whnf
        refine Side.mk rfl ?_
        conv => whnf
        refine Need.mk (AV.le_refl _) ?_
        conv => whnf
        refine Need.mk (AV.le_refl _) ?_
        conv => whnf
        refine Need.mk (AV.le_refl _) ?_
        conv => whnf
        refine Need.mk (AV.le_refl _) ?_
        conv => whnf
        refine Need.mk (AV.le_refl _) ?_
        conv => whnf
        refine Need.mk (AV.le_refl _) ?_
        conv => whnf
        refine Need.mk (AV.le_refl _) ?_
        conv => whnf
        refine Both.mk ?_ trivial
        conv => whnf
        intro b24
        conv => whnf
        refine Need.mk (AV.le_refl _) ?_
        conv => whnf
        refine Need.mk (AV.le_refl _) ?_
        conv => whnf
        refine Need.mk (AV.le_refl _) ?_
        conv => whnf
        refine Need.mk (AV.le_refl _) ?_
        conv => whnf
        refine Need.mk (AV.le_refl _) ?_
        conv => whnf
        refine Need.mk (AV.le_refl _) ?_
        conv => whnf
        refine Need.mk (AV.le_refl _) ?_
        conv => whnf
        refine Both.mk ?_ trivial
        conv => whnf
        refine Side.mk rfl ?_
        cases hx3
        conv => whnf
        refine ⟨b24, trivial, Sub.eq rfl ?_ ?_⟩
        ·repeat ((conv => whnf); refine Need.mk rfl ?_)
         exact trivial
        ·conv => whnf
         refine Need.mk (OLe.refl _) ?_
         conv => whnf
         refine Need.mk (OLe.refl _) ?_
         exact trivial
       ·conv => whnf
        refine Both.mk ?_ trivial
        conv => whnf
        intro b25
        conv => whnf
        refine Need.mk (AV.le_refl _) ?_
        conv => whnf
        refine Need.mk (AV.le_refl _) ?_
        conv => whnf
        refine Need.mk (AV.le_refl _) ?_
        conv => whnf
        refine Need.mk (AV.le_refl _) ?_
        conv => whnf
        refine Need.mk (AV.le_refl _) ?_
        conv => whnf
        refine Need.mk (AV.le_refl _) ?_
        conv => whnf
        refine Need.mk (AV.le_refl _) ?_
        conv => whnf
        refine Both.mk ?_ trivial
        conv => whnf
        refine Side.mk rfl ?_
        conv => whnf
        refine Side.mk rfl ?_
        conv => whnf
        refine Need.mk (AV.le_refl _) ?_
        conv => whnf
        refine Need.mk (AV.le_refl _) ?_
        conv => whnf
        refine Need.mk (AV.le_refl _) ?_
        conv => whnf
        refine Need.mk (AV.le_refl _) ?_
        conv => whnf
        refine Need.mk (AV.le_refl _) ?_
        conv => whnf
        refine Need.mk (AV.le_refl _) ?_
        conv => whnf
        refine Need.mk (AV.le_refl _) ?_
        conv => whnf
        refine Both.mk ?_ trivial
        conv => whnf
        refine Side.mk rfl ?_
        cases hx3
        conv => whnf
        refine ⟨b25, trivial, Sub.eq rfl ?_ ?_⟩
        ·repeat ((conv => whnf); refine Need.mk rfl ?_)
         exact trivial
        ·conv => whnf
         refine Need.mk (OLe.refl _) ?_
         conv => whnf
         refine Need.mk (OLe.refl _) ?_
         exact trivial
      ·conv => whnf
       refine Both.mk ?_ trivial
       conv => whnf
       intro b26
       conv => whnf
       refine Need.mk (AV.le_refl _) ?_
       conv => whnf
       refine Need.mk (AV.le_refl _) ?_
       conv => whnf
       refine Need.mk (AV.le_refl _) ?_
       conv => whnf
       refine Need.mk (AV.le_refl _) ?_
       conv => whnf
       refine Need.mk (AV.le_refl _) ?_
       conv => whnf
       refine Need.mk (AV.le_refl _) ?_
       conv => whnf
       refine Need.mk (AV.le_refl _) ?_
       conv => whnf
       refine Need.mk (AV.le_refl _) ?_
       conv => whnf
       refine Both.mk ?_ trivial
       conv => whnf
       refine CallG.fresh 25 (law07ListC hN hx5) ?_
       intro hd28
       conv => whnf
       refine Need.mk (AV.le_refl _) ?_
       conv => whnf
       refine Need.mk (AV.le_refl _) ?_
       conv => whnf
       refine Need.mk (AV.le_refl _) ?_
       conv => whnf
       refine Need.mk (AV.le_refl _) ?_
       conv => whnf
       refine Need.mk (AV.le_refl _) ?_
       conv => whnf
       refine Need.mk (AV.le_refl _) ?_
       conv => whnf
       refine Need.mk (AV.le_refl _) ?_
       conv => whnf
       refine Both.mk ?_ trivial
       conv => whnf
       refine Side.mk rfl ?_
       conv => whnf
       refine Side.mk rfl ?_
       conv => whnf
       refine Need.mk (AV.le_refl _) ?_
       conv => whnf
       refine Need.mk (AV.le_refl _) ?_
       conv => whnf
       refine Need.mk (AV.le_refl _) ?_
       conv => whnf
       refine Need.mk (AV.le_refl _) ?_
       conv => whnf
       refine Need.mk (AV.le_refl _) ?_
       conv => whnf
       refine Need.mk (AV.le_refl _) ?_
       conv => whnf
       refine Need.mk (AV.le_refl _) ?_
       conv => whnf
       refine Both.mk ?_ trivial
       conv => whnf
       refine Side.mk rfl ?_
       cases hx3
       conv => whnf
       refine ⟨b26, trivial, Sub.eq rfl ?_ ?_⟩
       ·repeat ((conv => whnf); refine Need.mk rfl ?_)
        exact trivial
       ·conv => whnf
        refine Need.mk (OLe.refl _) ?_
        conv => whnf
        refine Need.mk (OLe.refl _) ?_
        exact trivial
     ·conv => whnf
      refine Both.mk ?_ ?_
      ·conv => whnf
       refine CallG.fresh 25 (law07ListC hN hx5) ?_
       intro hd29
       conv => whnf
       refine Need.mk (AV.le_refl _) ?_
       conv => whnf
       refine Need.mk (AV.le_refl _) ?_
       conv => whnf
       refine Side.mk rfl ?_
       conv => whnf
       refine Need.mk (AV.le_refl _) ?_
       conv => whnf
       refine Need.mk (AV.le_refl _) ?_
       conv => whnf
       refine Side.mk rfl ?_
       conv => whnf
       refine Need.mk (AV.le_refl _) ?_
       conv => whnf
       refine Need.mk (AV.le_refl _) ?_
       conv => whnf
       refine Side.mk rfl ?_
       conv => whnf
       refine Need.mk (AV.le_refl _) ?_
       conv => whnf
       refine Need.mk (AV.le_refl _) ?_
       conv => whnf
       refine Side.mk rfl ?_
       conv => whnf
       refine Need.mk (AV.le_refl _) ?_
       conv => whnf
       refine Need.mk (AV.le_refl _) ?_
       conv => whnf
       refine Side.mk rfl ?_
       conv => whnf
       refine Need.mk (AV.le_refl _) ?_
       conv => whnf
       refine Need.mk (AV.le_refl _) ?_
       conv => whnf
       refine Both.mk ?_ ?_
       ·conv => whnf
        refine Need.mk (AV.le_refl _) ?_
        conv => whnf
        refine Need.mk (AV.le_refl _) ?_
        conv => whnf
        refine Need.mk (AV.le_refl _) ?_
        conv => whnf
        refine Need.mk (AV.le_refl _) ?_
        conv => whnf
        refine Need.mk (AV.le_refl _) ?_
        conv => whnf
        refine Need.mk (AV.le_refl _) ?_
        conv => whnf
        refine Need.mk (AV.le_refl _) ?_
        conv => whnf
        refine Both.mk ?_ ?_
        ·conv => whnf
         refine Side.mk rfl ?_
         conv => whnf
         refine Side.mk rfl ?_
         conv => whnf
         refine Need.mk (AV.le_refl _) ?_
         conv => whnf
         refine Need.mk (AV.le_refl _) ?_
         conv => whnf
         refine Need.mk (AV.le_refl _) ?_
         conv => whnf
         refine Need.mk (AV.le_refl _) ?_
         conv => whnf
         refine Need.mk (AV.le_refl _) ?_
         conv => whnf
         refine Need.mk (AV.le_refl _) ?_
         conv => whnf
         refine Need.mk (AV.le_refl _) ?_
         conv => whnf
         refine Both.mk ?_ trivial
         conv => whnf
         intro b27
         conv => whnf
         refine Need.mk (AV.le_refl _) ?_
         conv => whnf
         refine Need.mk (AV.le_refl _) ?_
         conv => whnf
         refine Need.mk (AV.le_refl _) ?_
         conv => whnf
         refine Need.mk (AV.le_refl _) ?_
         conv => whnf
         refine Need.mk (AV.le_refl _) ?_
         conv => whnf
         refine Need.mk (AV.le_refl _) ?_
         conv => whnf
         refine Need.mk (AV.le_refl _) ?_
         conv => whnf
         refine Both.mk ?_ trivial
         conv => whnf
         refine Side.mk rfl ?_
         cases hx3
         conv => whnf
         refine ⟨b27, trivial, Sub.eq rfl ?_ ?_⟩
         ·repeat ((conv => whnf); refine Need.mk rfl ?_)
          exact trivial
         ·conv => whnf
          refine Need.mk (OLe.refl _) ?_
          conv => whnf
          refine Need.mk (OLe.refl _) ?_
          exact trivial
        ·conv => whnf
         refine Both.mk ?_ trivial
         conv => whnf
         intro b28
         conv => whnf
         refine Need.mk (AV.le_refl _) ?_
         conv => whnf
         refine Need.mk (AV.le_refl _) ?_
         conv => whnf
         refine Need.mk (AV.le_refl _) ?_
         conv => whnf
         refine Need.mk (AV.le_refl _) ?_
         conv => whnf
         refine Need.mk (AV.le_refl _) ?_
         conv => whnf
         refine Need.mk (AV.le_refl _) ?_
         conv => whnf
         refine Need.mk (AV.le_refl _) ?_
         conv => whnf
         refine Both.mk ?_ trivial
         conv => whnf
         refine Side.mk rfl ?_
         conv => whnf
         refine Side.mk rfl ?_
         conv => whnf
         refine Need.mk (AV.le_refl _) ?_
         conv => whnf
         refine Need.mk (AV.le_refl _) ?_
         conv => whnf
         refine Need.mk (AV.le_refl _) ?_
         conv => whnf
         refine Need.mk (AV.le_refl _) ?_
         conv => whnf
         refine Need.mk (AV.le_refl _) ?_
         conv => whnf
         refine Need.mk (AV.le_refl _) ?_
         conv => whnf
         refine Need.mk (AV.le_refl _) ?_
         conv => whnf
         refine Both.mk ?_ trivial
         conv => whnf
         refine Side.mk rfl ?_
         cases hx3
         conv => whnf
         refine ⟨b28, trivial, Sub.eq rfl ?_ ?_⟩
         ·repeat ((conv => whnf); refine Need.mk rfl ?_)
          exact trivial
         ·conv => whnf
          refine Need.mk (OLe.refl _) ?_
          conv => whnf
          refine Need.mk (OLe.refl _) ?_
          exact trivial
       ·conv => whnf
        refine Both.mk ?_ trivial
        conv => whnf
        intro b29
        conv => whnf
        refine Need.mk (AV.le_refl _) ?_
        conv => whnf
        refine Need.mk (AV.le_refl _) ?_
        conv => whnf
        refine Side.mk rfl ?_
        conv => whnf
        refine Need.mk (AV.le_refl _) ?_
        conv => whnf
        refine Need.mk (AV.le_refl _) ?_
        conv => whnf
        refine Side.mk rfl ?_
        conv => whnf
        refine Need.mk (AV.le_refl _) ?_
        conv => whnf
        refine Need.mk (AV.le_refl _) ?_
        conv => whnf
        refine Side.mk rfl ?_
        conv => whnf
        refine Need.mk (AV.le_refl _) ?_
        conv => whnf
        refine Need.mk (AV.le_refl _) ?_
        conv => whnf
        refine Side.mk rfl ?_
        conv => whnf
        refine Need.mk (AV.le_refl _) ?_
        conv => whnf
        refine Need.mk (AV.le_refl _) ?_
        conv => whnf
        refine Side.mk rfl ?_
        conv => whnf
        refine Need.mk (AV.le_refl _) ?_
        conv => whnf
        refine Need.mk (AV.le_refl _) ?_
        conv => whnf
        refine Both.mk ?_ trivial
        conv => whnf
        refine Need.mk (AV.le_refl _) ?_
        conv => whnf
        refine Need.mk (AV.le_refl _) ?_
        conv => whnf
        refine Need.mk (AV.le_refl _) ?_
        conv => whnf
        refine Need.mk (AV.le_refl _) ?_
        conv => whnf
        refine Need.mk (AV.le_refl _) ?_
        conv => whnf
        refine Need.mk (AV.le_refl _) ?_
        conv => whnf
        refine Need.mk (AV.le_refl _) ?_
        conv => whnf
        refine Both.mk ?_ trivial
        conv => whnf
        refine Side.mk rfl ?_
        conv => whnf
        refine Side.mk rfl ?_
        conv => whnf
        refine Need.mk (AV.le_refl _) ?_
        conv => whnf
        refine Need.mk (AV.le_refl _) ?_
        conv => whnf
        refine Need.mk (AV.le_refl _) ?_
        conv => whnf
        refine Need.mk (AV.le_refl _) ?_
        conv => whnf
        refine Need.mk (AV.le_refl _) ?_
        conv => whnf
        refine Need.mk (AV.le_refl _) ?_
        conv => whnf
        refine Need.mk (AV.le_refl _) ?_
        conv => whnf
        refine Both.mk ?_ trivial
        conv => whnf
        refine Side.mk rfl ?_
        cases hx3
        conv => whnf
        refine ⟨b29, trivial, Sub.eq rfl ?_ ?_⟩
        ·repeat ((conv => whnf); refine Need.mk rfl ?_)
         exact trivial
        ·conv => whnf
         refine Need.mk (OLe.refl _) ?_
         conv => whnf
         refine Need.mk (OLe.refl _) ?_
         exact trivial
      ·conv => whnf
       refine Both.mk ?_ trivial
       conv => whnf
       intro b30
       conv => whnf
       refine Need.mk (AV.le_refl _) ?_
       conv => whnf
       refine Need.mk (AV.le_refl _) ?_
       conv => whnf
       refine Need.mk (AV.le_refl _) ?_
       conv => whnf
       refine Side.mk rfl ?_
       conv => whnf
       refine Need.mk (AV.le_refl _) ?_
       conv => whnf
       refine Need.mk (AV.le_refl _) ?_
       conv => whnf
       refine Side.mk rfl ?_
       conv => whnf
       refine Need.mk (AV.le_refl _) ?_
       conv => whnf
       refine Need.mk (AV.le_refl _) ?_
       conv => whnf
       refine Side.mk rfl ?_
       conv => whnf
       refine Need.mk (AV.le_refl _) ?_
       conv => whnf
       refine Need.mk (AV.le_refl _) ?_
       conv => whnf
       refine Side.mk rfl ?_
       conv => whnf
       refine Need.mk (AV.le_refl _) ?_
       conv => whnf
       refine Need.mk (AV.le_refl _) ?_
       conv => whnf
       refine Side.mk rfl ?_
       conv => whnf
       refine Need.mk (AV.le_refl _) ?_
       conv => whnf
       refine Need.mk (AV.le_refl _) ?_
       conv => whnf
       refine Both.mk ?_ ?_
       ·conv => whnf
        refine Need.mk (AV.le_refl _) ?_
        conv => whnf
        refine Need.mk (AV.le_refl _) ?_
        conv => whnf
        refine Need.mk (AV.le_refl _) ?_
        conv => whnf
        refine Need.mk (AV.le_refl _) ?_
        conv => whnf
        refine Need.mk (AV.le_refl _) ?_
        conv => whnf
        refine Need.mk (AV.le_refl _) ?_
        conv => whnf
        refine Need.mk (AV.le_refl _) ?_
        conv => whnf
        refine Need.mk (AV.le_refl _) ?_
        conv => whnf
        refine Both.mk ?_ trivial
        conv => whnf
        refine CallG.fresh 25 (law07ListC hN hx5) ?_
        intro hd30
        conv => whnf
        refine Need.mk (AV.le_refl _) ?_
        conv => whnf
        refine Need.mk (AV.le_refl _) ?_
        conv => whnf
        refine Need.mk (AV.le_refl _) ?_
        conv => whnf
        refine Need.mk (AV.le_refl _) ?_
        conv => whnf
        refine Need.mk (AV.le_refl _) ?_
        conv => whnf
        refine Need.mk (AV.le_refl _) ?_
        conv => whnf
        refine Need.mk (AV.le_refl _) ?_
        conv => whnf
        refine Both.mk ?_ trivial
        conv => whnf
        refine Side.mk rfl ?_
        conv => whnf
        refine Side.mk rfl ?_
        conv => whnf
        refine Need.mk (AV.le_refl _) ?_
        conv => whnf
        refine Need.mk (AV.le_refl _) ?_
        conv => whnf
        refine Need.mk (AV.le_refl _) ?_
        conv => whnf
        refine Need.mk (AV.le_refl _) ?_
        conv => whnf
        refine Need.mk (AV.le_refl _) ?_
        conv => whnf
        refine Need.mk (AV.le_refl _) ?_
        conv => whnf
        refine Need.mk (AV.le_refl _) ?_
        conv => whnf
        refine Both.mk ?_ trivial
        conv => whnf
        refine Side.mk rfl ?_
        cases hx3
        conv => whnf
        refine ⟨b30, trivial, Sub.eq rfl ?_ ?_⟩
        ·repeat ((conv => whnf); refine Need.mk rfl ?_)
         exact trivial
        ·conv => whnf
         refine Need.mk (OLe.refl _) ?_
         conv => whnf
         refine Need.mk (OLe.refl _) ?_
         exact trivial
       ·conv => whnf
        refine Both.mk ?_ trivial
        conv => whnf
        refine CallG.fresh 25 (law07ListC hN hx5) ?_
        intro hd31
        conv => whnf
        refine Need.mk (AV.le_refl _) ?_
        conv => whnf
        refine Need.mk (AV.le_refl _) ?_
        conv => whnf
        refine Side.mk rfl ?_
        conv => whnf
        refine Need.mk (AV.le_refl _) ?_
        conv => whnf
        refine Need.mk (AV.le_refl _) ?_
        conv => whnf
        refine Side.mk rfl ?_
        conv => whnf
        refine Need.mk (AV.le_refl _) ?_
        conv => whnf
        refine Need.mk (AV.le_refl _) ?_
        conv => whnf
        refine Side.mk rfl ?_
        conv => whnf
        refine Need.mk (AV.le_refl _) ?_
        conv => whnf
        refine Need.mk (AV.le_refl _) ?_
        conv => whnf
        refine Side.mk rfl ?_
        conv => whnf
        refine Need.mk (AV.le_refl _) ?_
        conv => whnf
        refine Need.mk (AV.le_refl _) ?_
        conv => whnf
        refine Side.mk rfl ?_
        conv => whnf
        refine Need.mk (AV.le_refl _) ?_
        conv => whnf
        refine Need.mk (AV.le_refl _) ?_
        conv => whnf
        refine Both.mk ?_ trivial
        conv => whnf
        refine Need.mk (AV.le_refl _) ?_
        conv => whnf
        refine Need.mk (AV.le_refl _) ?_
        conv => whnf
        refine Need.mk (AV.le_refl _) ?_
        conv => whnf
        refine Need.mk (AV.le_refl _) ?_
        conv => whnf
        refine Need.mk (AV.le_refl _) ?_
        conv => whnf
        refine Need.mk (AV.le_refl _) ?_
        conv => whnf
        refine Need.mk (AV.le_refl _) ?_
        conv => whnf
        refine Both.mk ?_ trivial
        conv => whnf
        refine Side.mk rfl ?_
        conv => whnf
        refine Side.mk rfl ?_
        conv => whnf
        refine Need.mk (AV.le_refl _) ?_
        conv => whnf
        refine Need.mk (AV.le_refl _) ?_
        conv => whnf
        refine Need.mk (AV.le_refl _) ?_
        conv => whnf
        refine Need.mk (AV.le_refl _) ?_
        conv => whnf
        refine Need.mk (AV.le_refl _) ?_
        conv => whnf
        refine Need.mk (AV.le_refl _) ?_
        conv => whnf
        refine Need.mk (AV.le_refl _) ?_
        conv => whnf
        refine Both.mk ?_ trivial
        conv => whnf
        refine Side.mk rfl ?_
        cases hx3
        conv => whnf
        refine ⟨b30, trivial, Sub.eq rfl ?_ ?_⟩
        ·repeat ((conv => whnf); refine Need.mk rfl ?_)
         exact trivial
        ·conv => whnf
         refine Need.mk (OLe.refl _) ?_
         conv => whnf
         refine Need.mk (OLe.refl _) ?_
         exact trivial
    ·conv => whnf
     refine Both.mk ?_ trivial
     conv => whnf
     intro b31
     conv => whnf
     refine Need.mk (AV.le_refl _) ?_
     conv => whnf
     refine Need.mk (AV.le_refl _) ?_
     conv => whnf
     refine Need.mk (AV.le_refl _) ?_
     conv => whnf
     refine Need.mk (AV.le_refl _) ?_
     conv => whnf
     refine Side.mk rfl ?_
     conv => whnf
     refine Need.mk (AV.le_refl _) ?_
     conv => whnf
     refine Need.mk (AV.le_refl _) ?_
     conv => whnf
     refine Side.mk rfl ?_
     conv => whnf
     refine Need.mk (AV.le_refl _) ?_
     conv => whnf
     refine Need.mk (AV.le_refl _) ?_
     conv => whnf
     refine Side.mk rfl ?_
     conv => whnf
     refine Need.mk (AV.le_refl _) ?_
     conv => whnf
     refine Need.mk (AV.le_refl _) ?_
     conv => whnf
     refine Side.mk rfl ?_
     conv => whnf
     refine Need.mk (AV.le_refl _) ?_
     conv => whnf
     refine Need.mk (AV.le_refl _) ?_
     conv => whnf
     refine Side.mk rfl ?_
     conv => whnf
     refine Need.mk (AV.le_refl _) ?_
     conv => whnf
     refine Need.mk (AV.le_refl _) ?_
     conv => whnf
     refine Both.mk ?_ ?_
     ·conv => whnf
      refine Need.mk (AV.le_refl _) ?_
      conv => whnf
      refine Need.mk (AV.le_refl _) ?_
      conv => whnf
      refine Need.mk (AV.le_refl _) ?_
      conv => whnf
      refine Need.mk (AV.le_refl _) ?_
      conv => whnf
      refine Need.mk (AV.le_refl _) ?_
      conv => whnf
      refine Need.mk (AV.le_refl _) ?_
      conv => whnf
      refine Need.mk (AV.le_refl _) ?_
      conv => whnf
      refine Need.mk (AV.le_refl _) ?_
      conv => whnf
      refine Need.mk (AV.le_refl _) ?_
      conv => whnf
      refine Both.mk ?_ trivial
      conv => whnf
      refine CallG.fresh 22 (law07ListC hN hx4) ?_
      intro hd32
      conv => whnf
      refine Need.mk (AV.le_refl _) ?_
      conv => whnf
      refine Need.mk (AV.le_refl _) ?_
      conv => whnf
      refine Need.mk (AV.le_refl _) ?_
      conv => whnf
      refine Need.mk (AV.le_refl _) ?_
      conv => whnf
      refine Need.mk (AV.le_refl _) ?_
      conv => whnf
      refine Need.mk (AV.le_refl _) ?_
      conv => whnf
      refine Need.mk (AV.le_refl _) ?_
      conv => whnf
      refine Need.mk (AV.le_refl _) ?_
      conv => whnf
      refine Both.mk ?_ trivial
      conv => whnf
      refine CallG.fresh 25 (law07ListC hN hx5) ?_
      intro hd33
      conv => whnf
      refine Need.mk (AV.le_refl _) ?_
      conv => whnf
      refine Need.mk (AV.le_refl _) ?_
      conv => whnf
      refine Need.mk (AV.le_refl _) ?_
      conv => whnf
      refine Need.mk (AV.le_refl _) ?_
      conv => whnf
      refine Need.mk (AV.le_refl _) ?_
      conv => whnf
      refine Need.mk (AV.le_refl _) ?_
      conv => whnf
      refine Need.mk (AV.le_refl _) ?_
      conv => whnf
      refine Both.mk ?_ trivial
      conv => whnf
      refine Side.mk rfl ?_
      conv => whnf
      refine Side.mk rfl ?_
      conv => whnf
      refine Need.mk (AV.le_refl _) ?_
      conv => whnf
      refine Need.mk (AV.le_refl _) ?_
      conv => whnf
      refine Need.mk (AV.le_refl _) ?_
      conv => whnf
      refine Need.mk (AV.le_refl _) ?_
      conv => whnf
      refine Need.mk (AV.le_refl _) ?_
      conv => whnf
      refine Need.mk (AV.le_refl _) ?_
      conv => whnf
      refine Need.mk (AV.le_refl _) ?_
      conv => whnf
      refine Both.mk ?_ trivial
      conv => whnf
      refine Side.mk rfl ?_
      cases hx3
      conv => whnf
      refine ⟨b31, trivial, Sub.eq rfl ?_ ?_⟩
      ·repeat ((conv => whnf); refine Need.mk rfl ?_)
       exact trivial
      ·conv => whnf
       refine Need.mk (OLe.refl _) ?_
       conv => whnf
       refine Need.mk (OLe.refl _) ?_
       exact trivial
     ·conv => whnf
      refine Both.mk ?_ trivial
      conv => whnf
      refine CallG.fresh 22 (law07ListC hN hx4) ?_
      intro hd34
      conv => whnf
      refine Need.mk (AV.le_refl _) ?_
      conv => whnf
      refine Need.mk (AV.le_refl _) ?_
      conv => whnf
      refine Need.mk (AV.le_refl _) ?_
      conv => whnf
      refine Side.mk rfl ?_
      conv => whnf
      refine Need.mk (AV.le_refl _) ?_
      conv => whnf
      refine Need.mk (AV.le_refl _) ?_
      conv => whnf
      refine Side.mk rfl ?_
      conv => whnf
      refine Need.mk (AV.le_refl _) ?_
      conv => whnf
      refine Need.mk (AV.le_refl _) ?_
      conv => whnf
      refine Side.mk rfl ?_
      conv => whnf
      refine Need.mk (AV.le_refl _) ?_
      conv => whnf
      refine Need.mk (AV.le_refl _) ?_
      conv => whnf
      refine Side.mk rfl ?_
      conv => whnf
      refine Need.mk (AV.le_refl _) ?_
      conv => whnf
      refine Need.mk (AV.le_refl _) ?_
      conv => whnf
      refine Side.mk rfl ?_
      conv => whnf
      refine Need.mk (AV.le_refl _) ?_
      conv => whnf
      refine Need.mk (AV.le_refl _) ?_
      conv => whnf
      refine Both.mk ?_ ?_
      ·conv => whnf
       refine Need.mk (AV.le_refl _) ?_
       conv => whnf
       refine Need.mk (AV.le_refl _) ?_
       conv => whnf
       refine Need.mk (AV.le_refl _) ?_
       conv => whnf
       refine Need.mk (AV.le_refl _) ?_
       conv => whnf
       refine Need.mk (AV.le_refl _) ?_
       conv => whnf
       refine Need.mk (AV.le_refl _) ?_
       conv => whnf
       refine Need.mk (AV.le_refl _) ?_
       conv => whnf
       refine Need.mk (AV.le_refl _) ?_
       conv => whnf
       refine Both.mk ?_ trivial
       conv => whnf
       refine CallG.fresh 25 (law07ListC hN hx5) ?_
       intro hd35
       conv => whnf
       refine Need.mk (AV.le_refl _) ?_
       conv => whnf
       refine Need.mk (AV.le_refl _) ?_
       conv => whnf
       refine Need.mk (AV.le_refl _) ?_
       conv => whnf
       refine Need.mk (AV.le_refl _) ?_
       conv => whnf
       refine Need.mk (AV.le_refl _) ?_
       conv => whnf
       refine Need.mk (AV.le_refl _) ?_
       conv => whnf
       refine Need.mk (AV.le_refl _) ?_
       conv => whnf
       refine Both.mk ?_ trivial
       conv => whnf
       refine Side.mk rfl ?_
       conv => whnf
       refine Side.mk rfl ?_
       conv => whnf
       refine Need.mk (AV.le_refl _) ?_
       conv => whnf
       refine Need.mk (AV.le_refl _) ?_
       conv => whnf
       refine Need.mk (AV.le_refl _) ?_
       conv => whnf
       refine Need.mk (AV.le_refl _) ?_
       conv => whnf
       refine Need.mk (AV.le_refl _) ?_
       conv => whnf
       refine Need.mk (AV.le_refl _) ?_
       conv => whnf
       refine Need.mk (AV.le_refl _) ?_
       conv => whnf
       refine Both.mk ?_ trivial
       conv => whnf
       refine Side.mk rfl ?_
       cases hx3
       conv => whnf
       refine ⟨b31, trivial, Sub.eq rfl ?_ ?_⟩
       ·repeat ((conv => whnf); refine Need.mk rfl ?_)
        exact trivial
       ·conv => whnf
        refine Need.mk (OLe.refl _) ?_
        conv => whnf
        refine Need.mk (OLe.refl _) ?_
        exact trivial
      ·conv => whnf
       refine Both.mk ?_ trivial
       conv => whnf
       refine CallG.fresh 25 (law07ListC hN hx5) ?_
       intro hd36
       conv => whnf
       refine Need.mk (AV.le_refl _) ?_
       conv => whnf
       refine Need.mk (AV.le_refl _) ?_
       conv => whnf
       refine Side.mk rfl ?_
       conv => whnf
       refine Need.mk (AV.le_refl _) ?_
       conv => whnf
       refine Need.mk (AV.le_refl _) ?_
       conv => whnf
       refine Side.mk rfl ?_
       conv => whnf
       refine Need.mk (AV.le_refl _) ?_
       conv => whnf
       refine Need.mk (AV.le_refl _) ?_
       conv => whnf
       refine Side.mk rfl ?_
       conv => whnf
       refine Need.mk (AV.le_refl _) ?_
       conv => whnf
       refine Need.mk (AV.le_refl _) ?_
       conv => whnf
       refine Side.mk rfl ?_
       conv => whnf
       refine Need.mk (AV.le_refl _) ?_
       conv => whnf
       refine Need.mk (AV.le_refl _) ?_
       conv => whnf
       refine Side.mk rfl ?_
       conv => whnf
       refine Need.mk (AV.le_refl _) ?_
       conv => whnf
       refine Need.mk (AV.le_refl _) ?_
       conv => whnf
       refine Both.mk ?_ trivial
       conv => whnf
       refine Need.mk (AV.le_refl _) ?_
       conv => whnf
       refine Need.mk (AV.le_refl _) ?_
       conv => whnf
       refine Need.mk (AV.le_refl _) ?_
       conv => whnf
       refine Need.mk (AV.le_refl _) ?_
       conv => whnf
       refine Need.mk (AV.le_refl _) ?_
       conv => whnf
       refine Need.mk (AV.le_refl _) ?_
       conv => whnf
       refine Need.mk (AV.le_refl _) ?_
       conv => whnf
       refine Both.mk ?_ trivial
       conv => whnf
       refine Side.mk rfl ?_
       conv => whnf
       refine Side.mk rfl ?_
       conv => whnf
       refine Need.mk (AV.le_refl _) ?_
       conv => whnf
       refine Need.mk (AV.le_refl _) ?_
       conv => whnf
       refine Need.mk (AV.le_refl _) ?_
       conv => whnf
       refine Need.mk (AV.le_refl _) ?_
       conv => whnf
       refine Need.mk (AV.le_refl _) ?_
       conv => whnf
       refine Need.mk (AV.le_refl _) ?_
       conv => whnf
       refine Need.mk (AV.le_refl _) ?_
       conv => whnf
       refine Both.mk ?_ trivial
       conv => whnf
       refine Side.mk rfl ?_
       cases hx3
       conv => whnf
       refine ⟨b31, trivial, Sub.eq rfl ?_ ?_⟩
       ·repeat ((conv => whnf); refine Need.mk rfl ?_)
        exact trivial
       ·conv => whnf
        refine Need.mk (OLe.refl _) ?_
        conv => whnf
        refine Need.mk (OLe.refl _) ?_
        exact trivial
  ·rintro bb1 _
   obtain ⟨l11, hx24, h⟩ := obind h
   conv => whnf
   refine SeqG.mk Value (fun y => [(2, .ptr 2 b3 0), (4, .ptr 4 bb1 0)]) (fun y => [(2, .cells b3 [.d (I 0), .d (I 0), .d (I 0), .d (I 0), .d (I 0), .nils 1, .nils 6, .nils 1]), (4, .cells bb1 [.d (I b1.fLaw.fBase), .d (I b1.fLaw.fPercent), .d (I b1.fLaw.fCap), .d (I b1.fLaw.fLeast), .d (I b1.fLaw.fBlind), .d (.list 1 (List.map I c1)), .sl 51 y, .d (.list 1 (List.map I c2))]), (51, .arr y 65 6 false (List.map RateSheet.enc l11))]) (fun _ => True) ?_ ?_
   ·conv => whnf
    refine LoopG.mk (Nat × (Int × (List RateSheet)) × Value) (fun y => [(1, .d (.ref (.agg [I b1.fLaw.fBase, I b1.fLaw.fPercent, I b1.fLaw.fCap, I b1.fLaw.fLeast, I b1.fLaw.fBlind, .list 1 (List.map I b1.fBowlers), .list 6 (List.map Ref07Sheet.enc b1.fSheets), .list 1 (List.map I b1.fWithdrawn)]))), (2, .ptr 2 b3 0), (4, .ptr 4 bb1 0), (5, .d (I y.2.1.1))]) (fun y => [(2, .cells b3 [.d (I 0), .d (I 0), .d (I 0), .d (I 0), .d (I 0), .nils 1, .nils 6, .nils 1]), (4, .cells bb1 [.d (I b1.fLaw.fBase), .d (I b1.fLaw.fPercent), .d (I b1.fLaw.fCap), .d (I b1.fLaw.fLeast), .d (I b1.fLaw.fBlind), .d (.list 1 (List.map I c1)), .sl 51 y.2.2, .d (.list 1 (List.map I c2))]), (51, .arr y.2.2 65 6 false (List.map RateSheet.enc y.2.1.2))]) (fun y => loopN (fun rr x => law07Book_b1 N b1 rr x.1 x.2) y.1 y.2.1 = some l11) (fun y => y.1) (N, (0, []), (.slice none 0 0)) hx24 (Sub.eq rfl ?_ ?_) ?_
    ·repeat ((conv => whnf); refine Need.mk rfl ?_)
     exact trivial
    ·conv => whnf
     refine Need.mk (OLe.refl _) ?_
     conv => whnf
     refine Need.mk (OLe.cells _ _ _ (by repeat (first | exact trivial | ((conv => whnf); refine Need.mk rfl ?_)))) ?_
     conv => whnf
     refine Need.mk (OLe.nil _ _ _ _) ?_
     exact trivial
    ·rintro ⟨n2, ⟨i8, l19⟩, hd65⟩ hl2
     obtain ⟨n2, rfl, hl2⟩ := loopN_some hl2
     replace hl2 : law07Book_b1 N b1 (loopN (fun rr x => law07Book_b1 N b1 rr x.1 x.2) n2) i8 l19 = some l11 := hl2
     rw [law07Book_b1] at hl2
     conv => whnf
     refine LnA.mk _ (List.length_map _) ?_
     conv => whnf
     refine Br.mk (fun hc12 => ?_) (fun hc12 => ?_)
     ·replace hl2 := ite_t hc12 hl2
      obtain ⟨x24, hx41, hl2⟩ := obind hl2
      conv => whnf
      refine Side.mk rfl ⟨_, idx_0 hx41, idx_map _ hx41, ?_⟩
      conv => whnf
      intro b55
      conv => whnf
      refine Side.mk rfl ?_
      conv => whnf
      refine Side.mk rfl ?_
      conv => whnf
      refine Side.mk rfl ?_
      conv => whnf
      refine Side.mk rfl ?_
      conv => whnf
      refine Side.mk rfl ?_
      conv => whnf
      refine Side.mk rfl ?_
      conv => whnf
      intro hd68
      obtain ⟨l21, hx42, hl2⟩ := obind hl2
      conv => whnf
      refine Side.mk ⟨rfl, rfl⟩ ?_
      conv => whnf
      refine Side.mk ⟨rfl, rfl, rfl⟩ (Need.mk (app_need hN hx42 (by decide)) (Eqv.mk (List.map RateSheet.enc l21) (app_map _ hx42) ?_))
      conv => whnf
      intro hd69
      conv => whnf
      refine Side.mk rfl ?_
      conv => whnf
      refine ⟨(n2, (w64 (i8 + 1), l21), hd69), hl2, Sub.eq rfl ?_ ?_, Nat.lt_succ_self _⟩
      ·repeat ((conv => whnf); refine Need.mk rfl ?_)
       exact trivial
      ·conv => whnf
       refine Need.mk (OLe.refl _) ?_
       conv => whnf
       refine Need.mk (OLe.refl _) ?_
       conv => whnf
       refine Need.mk (OLe.refl _) ?_
       exact trivial
     ·replace hl2 := ite_f hc12 hl2
      cases hl2
      conv => whnf
      refine ⟨hd65, trivial, Sub.eq rfl ?_ ?_⟩
      ·repeat ((conv => whnf); refine Need.mk rfl ?_)
       exact trivial
      ·conv => whnf
       refine Need.mk (OLe.refl _) ?_
       conv => whnf
       refine Need.mk (OLe.refl _) ?_
       conv => whnf
       refine Need.mk (OLe.refl _) ?_
       exact trivial
   ·rintro hd53 _
    conv => whnf
    refine Side.mk rfl ?_
    conv => whnf
    refine Side.mk rfl ?_
    conv => whnf
    refine Side.mk rfl ?_
    conv => whnf
    refine Side.mk rfl ?_
    conv => whnf
    cases h
    exact rfl

theorem ref07InC {N : Nat} (hN : N ≤ 1073741824) {n1 : Int} {low1 : Int} {high1 : Int} {r : Bool} (h : ref07In N n1 low1 high1 = some r) :
    ACalls Try.prog 32 [.d (I n1), .d (I low1), .d (I high1)] [] fun e os => e = .ret (.d (.bool r)) ∧ os = [] := by
  refine acalls_f (fresh := false) tt_ok dr_ok ⟨[], [], [], [], [1], 0, []⟩ Try.func32 rfl Try.call32 rfl ?_
  unfold ref07In at h
  obtain ⟨v1, hx1, h⟩ := obind h
  conv => whnf
  refine SeqG.mk Unit (fun y => [(6, .d (.bool v1))]) (fun y => []) (fun _ => True) ?_ ?_
  ·conv => whnf
   refine Br.mk (fun hc2 => ?_) (fun hc2 => ?_)
   ·replace hx1 := ite_t hc2 hx1
    cases hx1
    conv => whnf
    refine ⟨(), trivial, Sub.eq rfl ?_ ?_⟩
    ·repeat ((conv => whnf); refine Need.mk rfl ?_)
     exact trivial
    ·exact trivial
   ·replace hx1 := ite_f hc2 hx1
    cases hx1
    conv => whnf
    refine ⟨(), trivial, Sub.eq rfl ?_ ?_⟩
    ·repeat ((conv => whnf); refine Need.mk rfl ?_)
     exact trivial
    ·exact trivial
  ·rintro _ _
   conv => whnf
   cases h
   exact rfl

theorem ref07IsLawC {N : Nat} (hN : N ≤ 1073741824) {l1 : Ref07Law} {r : Bool} (h : ref07IsLaw N l1 = some r) :
    ACalls Try.prog 79 [.d (.agg [I l1.fBase, I l1.fPercent, I l1.fCap, I l1.fLeast, I l1.fBlind])] [] fun e os => e = .ret (.d (.bool r)) ∧ os = [] := by
  refine acalls_f (fresh := false) tt_ok dr_ok ⟨[1], [], [], [], [1], 0, []⟩ Try.func79 rfl Try.call79 rfl ?_
  unfold ref07IsLaw at h
  obtain ⟨v1, hx6, h⟩ := obind h
  conv => whnf
  refine SeqG.mk Unit (fun y => [(2, .d (.bool v1))]) (fun y => []) (fun _ => True) ?_ ?_
  ·obtain ⟨r6, hx7, hx6⟩ := obind hx6
   conv => whnf
   refine CallG.pure _ (ref07InC hN hx7) ?_
   conv => whnf
   refine Br.mk (fun hc5 => ?_) (fun hc5 => ?_)
   ·replace hx6 := ite_t hc5 hx6
    obtain ⟨r7, hx8, hx6⟩ := obind hx6
    conv => whnf
    refine CallG.pure _ (ref07InC hN hx8) ?_
    conv => whnf
    refine Br.mk (fun hc6 => ?_) (fun hc6 => ?_)
    ·replace hx6 := ite_t hc6 hx6
     obtain ⟨r8, hx9, hx6⟩ := obind hx6
     conv => whnf
     refine CallG.pure _ (ref07InC hN hx9) ?_
     conv => whnf
     refine Br.mk (fun hc7 => ?_) (fun hc7 => ?_)
     ·replace hx6 := ite_t hc7 hx6
      obtain ⟨r9, hx10, hx6⟩ := obind hx6
      conv => whnf
      refine CallG.pure _ (ref07InC hN hx10) ?_
      conv => whnf
      refine Br.mk (fun hc8 => ?_) (fun hc8 => ?_)
      ·replace hx6 := ite_t hc8 hx6
       obtain ⟨r10, hx11, hx6⟩ := obind hx6
       conv => whnf
       refine CallG.pure _ (ref07InC hN hx11) ?_
       cases hx6
       conv => whnf
       refine ⟨(), trivial, Sub.eq rfl ?_ ?_⟩
       ·repeat ((conv => whnf); refine Need.mk rfl ?_)
        exact trivial
       ·exact trivial
      ·replace hx6 := ite_f hc8 hx6
       cases hx6
       conv => whnf
       refine ⟨(), trivial, Sub.eq rfl ?_ ?_⟩
       ·repeat ((conv => whnf); refine Need.mk rfl ?_)
        exact trivial
       ·exact trivial
     ·replace hx6 := ite_f hc7 hx6
      cases hx6
      conv => whnf
      refine ⟨(), trivial, Sub.eq rfl ?_ ?_⟩
      ·repeat ((conv => whnf); refine Need.mk rfl ?_)
       exact trivial
      ·exact trivial
    ·replace hx6 := ite_f hc6 hx6
     cases hx6
     conv => whnf
     refine ⟨(), trivial, Sub.eq rfl ?_ ?_⟩
     ·repeat ((conv => whnf); refine Need.mk rfl ?_)
      exact trivial
     ·exact trivial
   ·replace hx6 := ite_f hc5 hx6
    cases hx6
    conv => whnf
    refine ⟨(), trivial, Sub.eq rfl ?_ ?_⟩
    ·repeat ((conv => whnf); refine Need.mk rfl ?_)
     exact trivial
    ·exact trivial
  ·rintro _ _
   conv => whnf
   cases h
   exact rfl

theorem ref07RisingC {N : Nat} (hN : N ≤ 1073741824) {l1 : List Int} {r : Bool} (h : ref07Rising N l1 = some r) :
    ACalls Try.prog 70 [.d (.list 1 (List.map I l1))] [] fun e os => e = .ret (.d (.bool r)) ∧ os = [] := by
  refine acalls_f (fresh := false) tt_ok dr_ok ⟨[], [], [], [], [1001], 0, []⟩ Try.func70 rfl Try.call70 rfl ?_
  unfold ref07Rising at h
  conv => whnf
  refine SeqG.mk Unit (fun y => []) (fun y => []) (fun y => ref07Rising_k1 N = some r) ?_ ?_
  ·conv => whnf
   refine LoopG.mk (Nat × Int) (fun y => [(0, .d (.list 1 (List.map I l1))), (3, .d (I y.2))]) (fun y => []) (fun y => loopN (fun rr x => ref07Rising_b2 N l1 rr x) y.1 y.2 = some r) (fun y => y.1) (N, 1) h (Sub.eq rfl ?_ ?_) ?_
   ·repeat ((conv => whnf); refine Need.mk rfl ?_)
    exact trivial
   ·exact trivial
   ·rintro ⟨n2, i8⟩ hl2
    obtain ⟨n2, rfl, hl2⟩ := loopN_some hl2
    replace hl2 : ref07Rising_b2 N l1 (loopN (fun rr x => ref07Rising_b2 N l1 rr x) n2) i8 = some r := hl2
    rw [ref07Rising_b2] at hl2
    conv => whnf
    refine LnA.mk _ (List.length_map _) ?_
    conv => whnf
    refine Br.mk (fun hc22 => ?_) (fun hc22 => ?_)
    ·replace hl2 := ite_t hc22 hl2
     obtain ⟨x47, hx47, hl2⟩ := obind hl2
     obtain ⟨x48, hx48, hl2⟩ := obind hl2
     conv => whnf
     refine DrawG.mk (.take 0 (.take 1 (.take 2 (.take 3 (.take 4 (.take 5 (.take 6 (.take 7 (.take 8 (.take 9 .done)))))))))) (by kernel_rfl) ?_
     conv => whnf
     refine Side.mk rfl ⟨_, idx_0 hx47, idx_map _ hx47, ?_⟩
     conv => whnf
     refine Side.mk rfl ⟨_, idx_0 hx48, idx_map _ hx48, ?_⟩
     conv => whnf
     refine Br.mk (fun hc24 => ?_) (fun hc24 => ?_)
     ·replace hl2 := ite_t hc24 hl2
      conv => whnf
      cases hl2
      exact rfl
     ·replace hl2 := ite_f hc24 hl2
      conv => whnf
      refine ⟨(n2, w64 (i8 + 1)), hl2, Sub.eq rfl ?_ ?_, Nat.lt_succ_self _⟩
      ·repeat ((conv => whnf); refine Need.mk rfl ?_)
       exact trivial
      ·exact trivial
    ·replace hl2 := ite_f hc22 hl2
     conv => whnf
     refine ⟨(), hl2, Sub.eq rfl ?_ ?_⟩
     ·repeat ((conv => whnf); refine Need.mk rfl ?_)
      exact trivial
     ·exact trivial
  ·clear h
   rintro _ h
   unfold ref07Rising_k1 at h
   conv => whnf
   cases h
   exact rfl

theorem ref07FaultC {N : Nat} (hN : N ≤ 1073741824) {b1 : Ref07Book} {r : Int} (h : ref07Fault N b1 = some r) :
    ACalls Try.prog 53 [.d (.agg [I b1.fLaw.fBase, I b1.fLaw.fPercent, I b1.fLaw.fCap, I b1.fLaw.fLeast, I b1.fLaw.fBlind, .list 1 (List.map I b1.fBowlers), .list 6 (List.map Ref07Sheet.enc b1.fSheets), .list 1 (List.map I b1.fWithdrawn)])] [] fun e os => e = .ret (.d (I r)) ∧ os = [] := by
  refine acalls_f (fresh := false) tt_ok dr_ok ⟨[1], [], [], [], [1, 3, 19, 32, 1005, 1010, 1015, 1026, 1029], 0, []⟩ Try.func53 rfl Try.call53 rfl ?_
  unfold ref07Fault at h
  obtain ⟨v2, hx2, h⟩ := obind h
  conv => whnf
  refine SeqG.mk Unit (fun y => [(1, .d (.ref (.agg [I b1.fLaw.fBase, I b1.fLaw.fPercent, I b1.fLaw.fCap, I b1.fLaw.fLeast, I b1.fLaw.fBlind, .list 1 (List.map I b1.fBowlers), .list 6 (List.map Ref07Sheet.enc b1.fSheets), .list 1 (List.map I b1.fWithdrawn)]))), (25, .d (.bool v2))]) (fun y => []) (fun _ => True) ?_ ?_
  ·conv => whnf
   refine LnA.mk _ (List.length_map _) ?_
   conv => whnf
   refine Br.mk (fun hc8 => ?_) (fun hc8 => ?_)
   ·replace hx2 := ite_f hc8 hx2
    conv => whnf
    refine LnA.mk _ (List.length_map _) ?_
    conv => whnf
    refine Br.mk (fun hc9 => ?_) (fun hc9 => ?_)
    ·replace hx2 := ite_f hc9 hx2
     conv => whnf
     refine LnA.mk _ (List.length_map _) ?_
     cases hx2
     conv => whnf
     refine ⟨(), trivial, Sub.eq rfl ?_ ?_⟩
     ·repeat ((conv => whnf); refine Need.mk rfl ?_)
      exact trivial
     ·exact trivial
    ·replace hx2 := ite_t hc9 hx2
     cases hx2
     conv => whnf
     refine ⟨(), trivial, Sub.eq rfl ?_ ?_⟩
     ·repeat ((conv => whnf); refine Need.mk rfl ?_)
      exact trivial
     ·exact trivial
   ·replace hx2 := ite_t hc8 hx2
    cases hx2
    conv => whnf
    refine ⟨(), trivial, Sub.eq rfl ?_ ?_⟩
    ·repeat ((conv => whnf); refine Need.mk rfl ?_)
     exact trivial
    ·exact trivial
  ·rintro _ _
   conv => whnf
   refine Br.mk (fun hc10 => ?_) (fun hc10 => ?_)
   ·replace h := ite_t hc10 h
    conv => whnf
    cases h
    exact rfl
   ·replace h := ite_f hc10 h
    obtain ⟨v4, hx10, h⟩ := obind h
    conv => whnf
    refine SeqG.mk Unit (fun y => [(1, .d (.ref (.agg [I b1.fLaw.fBase, I b1.fLaw.fPercent, I b1.fLaw.fCap, I b1.fLaw.fLeast, I b1.fLaw.fBlind, .list 1 (List.map I b1.fBowlers), .list 6 (List.map Ref07Sheet.enc b1.fSheets), .list 1 (List.map I b1.fWithdrawn)]))), (35, .d (.bool v4))]) (fun y => []) (fun _ => True) ?_ ?_
    ·obtain ⟨r7, hx11, hx10⟩ := obind hx10
     conv => whnf
     refine CallG.pure _ (ref07IsLawC hN hx11) ?_
     conv => whnf
     refine Br.mk (fun hc15 => ?_) (fun hc15 => ?_)
     ·replace hx10 := ite_f hc15 hx10
      obtain ⟨r8, hx12, hx10⟩ := obind hx10
      conv => whnf
      refine CallG.pure _ (ref07RisingC hN hx12) ?_
      cases hx10
      conv => whnf
      refine ⟨(), trivial, Sub.eq rfl ?_ ?_⟩
      ·repeat ((conv => whnf); refine Need.mk rfl ?_)
       exact trivial
      ·exact trivial
     ·replace hx10 := ite_t hc15 hx10
      cases hx10
      conv => whnf
      refine ⟨(), trivial, Sub.eq rfl ?_ ?_⟩
      ·repeat ((conv => whnf); refine Need.mk rfl ?_)
       exact trivial
      ·exact trivial
    ·rintro _ _
     conv => whnf
     refine Br.mk (fun hc16 => ?_) (fun hc16 => ?_)
     ·replace h := ite_t hc16 h
      conv => whnf
      cases h
      exact rfl
     ·replace h := ite_f hc16 h
      conv => whnf
      refine SeqG.mk Unit (fun y => [(1, .d (.ref (.agg [I b1.fLaw.fBase, I b1.fLaw.fPercent, I b1.fLaw.fCap, I b1.fLaw.fLeast, I b1.fLaw.fBlind, .list 1 (List.map I b1.fBowlers), .list 6 (List.map Ref07Sheet.enc b1.fSheets), .list 1 (List.map I b1.fWithdrawn)])))]) (fun y => []) (fun y => ref07Fault_k9 N b1 = some r) ?_ ?_
      ·conv => whnf
       refine LoopG.mk (Nat × Int) (fun y => [(1, .d (.ref (.agg [I b1.fLaw.fBase, I b1.fLaw.fPercent, I b1.fLaw.fCap, I b1.fLaw.fLeast, I b1.fLaw.fBlind, .list 1 (List.map I b1.fBowlers), .list 6 (List.map Ref07Sheet.enc b1.fSheets), .list 1 (List.map I b1.fWithdrawn)]))), (3, .d (I y.2))]) (fun y => []) (fun y => loopN (fun rr x => ref07Fault_b10 N b1 rr x) y.1 y.2 = some r) (fun y => y.1) (N, 0) h (Sub.eq rfl ?_ ?_) ?_
       ·repeat ((conv => whnf); refine Need.mk rfl ?_)
        exact trivial
       ·exact trivial
       ·rintro ⟨n16, i32⟩ hl16
        obtain ⟨n16, rfl, hl16⟩ := loopN_some hl16
        replace hl16 : ref07Fault_b10 N b1 (loopN (fun rr x => ref07Fault_b10 N b1 rr x) n16) i32 = some r := hl16
        rw [ref07Fault_b10] at hl16
        conv => whnf
        refine LnA.mk _ (List.length_map _) ?_
        conv => whnf
        refine Br.mk (fun hc470 => ?_) (fun hc470 => ?_)
        ·replace hl16 := ite_t hc470 hl16
         obtain ⟨x264, hx685, hl16⟩ := obind hl16
         conv => whnf
         refine Side.mk rfl ⟨_, idx_0 hx685, idx_map _ hx685, ?_⟩
         obtain ⟨r344, hx686, hl16⟩ := obind hl16
         conv => whnf
         refine CallG.pure _ (ref07InC hN hx686) ?_
         conv => whnf
         refine Br.mk (fun hc472 => ?_) (fun hc472 => ?_)
         ·replace hl16 := ite_t hc472 hl16
          conv => whnf
          cases hl16
          exact rfl
         ·replace hl16 := ite_f hc472 hl16
          conv => whnf
          refine ⟨(n16, w64 (i32 + 1)), hl16, Sub.eq rfl ?_ ?_, Nat.lt_succ_self _⟩
          ·repeat ((conv => whnf); refine Need.mk rfl ?_)
           exact trivial
          ·exact trivial
        ·replace hl16 := ite_f hc470 hl16
         conv => whnf
         refine ⟨(), hl16, Sub.eq rfl ?_ ?_⟩
         ·repeat ((conv => whnf); refine Need.mk rfl ?_)
          exact trivial
         ·exact trivial
      ·clear h
       rintro _ h
       unfold ref07Fault_k9 at h
       conv => whnf
       refine SeqG.mk Unit (fun y => [(1, .d (.ref (.agg [I b1.fLaw.fBase, I b1.fLaw.fPercent, I b1.fLaw.fCap, I b1.fLaw.fLeast, I b1.fLaw.fBlind, .list 1 (List.map I b1.fBowlers), .list 6 (List.map Ref07Sheet.enc b1.fSheets), .list 1 (List.map I b1.fWithdrawn)])))]) (fun y => []) (fun y => ref07Fault_k7 N b1 = some r) ?_ ?_
       ·conv => whnf
        refine LoopG.mk (Nat × Int) (fun y => [(1, .d (.ref (.agg [I b1.fLaw.fBase, I b1.fLaw.fPercent, I b1.fLaw.fCap, I b1.fLaw.fLeast, I b1.fLaw.fBlind, .list 1 (List.map I b1.fBowlers), .list 6 (List.map Ref07Sheet.enc b1.fSheets), .list 1 (List.map I b1.fWithdrawn)]))), (4, .d (I y.2))]) (fun y => []) (fun y => loopN (fun rr x => ref07Fault_b8 N b1 rr x) y.1 y.2 = some r) (fun y => y.1) (N, 0) h (Sub.eq rfl ?_ ?_) ?_
        ·repeat ((conv => whnf); refine Need.mk rfl ?_)
         exact trivial
        ·exact trivial
        ·rintro ⟨n15, i28⟩ hl15
         obtain ⟨n15, rfl, hl15⟩ := loopN_some hl15
         replace hl15 : ref07Fault_b8 N b1 (loopN (fun rr x => ref07Fault_b8 N b1 rr x) n15) i28 = some r := hl15
         rw [ref07Fault_b8] at hl15
         conv => whnf
         refine LnA.mk _ (List.length_map _) ?_
         conv => whnf
         refine Br.mk (fun hc458 => ?_) (fun hc458 => ?_)
         ·replace hl15 := ite_t hc458 hl15
          obtain ⟨x252, hx661, hl15⟩ := obind hl15
          conv => whnf
          refine Side.mk rfl ⟨_, idx_0 hx661, idx_map _ hx661, ?_⟩
          obtain ⟨r332, hx662, hl15⟩ := obind hl15
          conv => whnf
          refine CallG.pure _ (ref07InC hN hx662) ?_
          conv => whnf
          refine Br.mk (fun hc460 => ?_) (fun hc460 => ?_)
          ·replace hl15 := ite_t hc460 hl15
           conv => whnf
           cases hl15
           exact rfl
          ·replace hl15 := ite_f hc460 hl15
           conv => whnf
           refine ⟨(n15, w64 (i28 + 1)), hl15, Sub.eq rfl ?_ ?_, Nat.lt_succ_self _⟩
           ·repeat ((conv => whnf); refine Need.mk rfl ?_)
            exact trivial
           ·exact trivial
         ·replace hl15 := ite_f hc458 hl15
          conv => whnf
          refine ⟨(), hl15, Sub.eq rfl ?_ ?_⟩
          ·repeat ((conv => whnf); refine Need.mk rfl ?_)
           exact trivial
          ·exact trivial
       ·clear h
        rintro _ h
        unfold ref07Fault_k7 at h
        conv => whnf
        refine SeqG.mk Unit (fun y => [(1, .d (.ref (.agg [I b1.fLaw.fBase, I b1.fLaw.fPercent, I b1.fLaw.fCap, I b1.fLaw.fLeast, I b1.fLaw.fBlind, .list 1 (List.map I b1.fBowlers), .list 6 (List.map Ref07Sheet.enc b1.fSheets), .list 1 (List.map I b1.fWithdrawn)])))]) (fun y => []) (fun y => ref07Fault_k5 N b1 = some r) ?_ ?_
        ·conv => whnf
         refine LoopG.mk (Nat × Int) (fun y => [(1, .d (.ref (.agg [I b1.fLaw.fBase, I b1.fLaw.fPercent, I b1.fLaw.fCap, I b1.fLaw.fLeast, I b1.fLaw.fBlind, .list 1 (List.map I b1.fBowlers), .list 6 (List.map Ref07Sheet.enc b1.fSheets), .list 1 (List.map I b1.fWithdrawn)]))), (5, .d (I y.2))]) (fun y => []) (fun y => loopN (fun rr x => ref07Fault_b6 N b1 rr x) y.1 y.2 = some r) (fun y => y.1) (N, 0) h (Sub.eq rfl ?_ ?_) ?_
         ·repeat ((conv => whnf); refine Need.mk rfl ?_)
          exact trivial
         ·exact trivial
         ·rintro ⟨n14, i24⟩ hl14
          obtain ⟨n14, rfl, hl14⟩ := loopN_some hl14
          replace hl14 : ref07Fault_b6 N b1 (loopN (fun rr x => ref07Fault_b6 N b1 rr x) n14) i24 = some r := hl14
          rw [ref07Fault_b6] at hl14
          conv => whnf
          refine LnA.mk _ (List.length_map _) ?_
          conv => whnf
          refine Br.mk (fun hc416 => ?_) (fun hc416 => ?_)
          ·replace hl14 := ite_t hc416 hl14
           obtain ⟨x240, hx612, hl14⟩ := obind hl14
           conv => whnf
           refine Side.mk rfl ⟨_, idx_0 hx612, idx_map _ hx612, ?_⟩
           conv => whnf
           intro b25
           conv => whnf
           refine Side.mk rfl ?_
           obtain ⟨v76, hx623, hl14⟩ := obind hl14
           conv => whnf
           refine SeqG.mk Unit (fun y => [(1, .d (.ref (.agg [I b1.fLaw.fBase, I b1.fLaw.fPercent, I b1.fLaw.fCap, I b1.fLaw.fLeast, I b1.fLaw.fBlind, .list 1 (List.map I b1.fBowlers), .list 6 (List.map Ref07Sheet.enc b1.fSheets), .list 1 (List.map I b1.fWithdrawn)]))), (5, .d (I i24)), (6, .ptr 6 b25 0), (95, .d (.bool v76))]) (fun y => [(6, .cells b25 [.d (I x240.fNumber), .d (I x240.fBowler), .d (I x240.fWeek), .d (I x240.fGames.a0), .d (I x240.fGames.a1), .d (I x240.fGames.a2)])]) (fun _ => True) ?_ ?_
           ·conv => whnf
            refine Side.mk rfl ?_
            obtain ⟨r306, hx624, hx623⟩ := obind hx623
            conv => whnf
            refine CallG.pure _ (ref07InC hN hx624) ?_
            conv => whnf
            refine Br.mk (fun hc440 => ?_) (fun hc440 => ?_)
            ·replace hx623 := ite_f hc440 hx623
             conv => whnf
             refine Side.mk rfl ?_
             conv => whnf
             refine LnA.mk _ (List.length_map _) ?_
             obtain ⟨r307, hx625, hx623⟩ := obind hx623
             conv => whnf
             refine CallG.pure _ (ref07InC hN hx625) ?_
             conv => whnf
             refine Br.mk (fun hc441 => ?_) (fun hc441 => ?_)
             ·replace hx623 := ite_f hc441 hx623
              conv => whnf
              refine Side.mk rfl ?_
              obtain ⟨r308, hx626, hx623⟩ := obind hx623
              conv => whnf
              refine CallG.pure _ (ref07InC hN hx626) ?_
              cases hx623
              conv => whnf
              refine ⟨(), trivial, Sub.eq rfl ?_ ?_⟩
              ·repeat ((conv => whnf); refine Need.mk rfl ?_)
               exact trivial
              ·conv => whnf
               refine Need.mk (OLe.refl _) ?_
               exact trivial
             ·replace hx623 := ite_t hc441 hx623
              cases hx623
              conv => whnf
              refine ⟨(), trivial, Sub.eq rfl ?_ ?_⟩
              ·repeat ((conv => whnf); refine Need.mk rfl ?_)
               exact trivial
              ·conv => whnf
               refine Need.mk (OLe.refl _) ?_
               exact trivial
            ·replace hx623 := ite_t hc440 hx623
             cases hx623
             conv => whnf
             refine ⟨(), trivial, Sub.eq rfl ?_ ?_⟩
             ·repeat ((conv => whnf); refine Need.mk rfl ?_)
              exact trivial
             ·conv => whnf
              refine Need.mk (OLe.refl _) ?_
              exact trivial
           ·rintro _ _
            conv => whnf
            refine Br.mk (fun hc442 => ?_) (fun hc442 => ?_)
            ·replace hl14 := ite_t hc442 hl14
             conv => whnf
             cases hl14
             exact rfl
            ·replace hl14 := ite_f hc442 hl14
             conv => whnf
             refine LoopG.unr 4 ?_
             conv => whnf
             refine IxG.mk 0 rfl (by decide) ?_
             conv => whnf
             refine Side.mk rfl ?_
             obtain ⟨r312, hx630, hl14⟩ := obind hl14
             conv => whnf
             refine CallG.pure _ (ref07InC hN hx630) ?_
             conv => whnf
             refine Br.mk (fun hc444 => ?_) (fun hc444 => ?_)
             ·replace hl14 := ite_t hc444 hl14
              conv => whnf
              cases hl14
              exact rfl
             ·replace hl14 := ite_f hc444 hl14
              conv => whnf
              refine IxG.mk 1 rfl (by decide) ?_
              conv => whnf
              refine Side.mk rfl ?_
              obtain ⟨r316, hx634, hl14⟩ := obind hl14
              conv => whnf
              refine CallG.pure _ (ref07InC hN hx634) ?_
              conv => whnf
              refine Br.mk (fun hc446 => ?_) (fun hc446 => ?_)
              ·replace hl14 := ite_t hc446 hl14
               conv => whnf
               cases hl14
               exact rfl
              ·replace hl14 := ite_f hc446 hl14
               conv => whnf
               refine IxG.mk 2 rfl (by decide) ?_
               conv => whnf
               refine Side.mk rfl ?_
               obtain ⟨r320, hx638, hl14⟩ := obind hl14
               conv => whnf
               refine CallG.pure _ (ref07InC hN hx638) ?_
               conv => whnf
               refine Br.mk (fun hc448 => ?_) (fun hc448 => ?_)
               ·replace hl14 := ite_t hc448 hl14
                conv => whnf
                cases hl14
                exact rfl
               ·replace hl14 := ite_f hc448 hl14
                conv => whnf
                refine ⟨(n14, w64 (i24 + 1)), hl14, Sub.eq rfl ?_ ?_, Nat.lt_succ_self _⟩
                ·repeat ((conv => whnf); refine Need.mk rfl ?_)
                 exact trivial
                ·exact trivial
          ·replace hl14 := ite_f hc416 hl14
           conv => whnf
           refine ⟨(), hl14, Sub.eq rfl ?_ ?_⟩
           ·repeat ((conv => whnf); refine Need.mk rfl ?_)
            exact trivial
           ·exact trivial
        ·clear h
         rintro _ h
         unfold ref07Fault_k5 at h
         conv => whnf
         refine SeqG.mk Unit (fun y => []) (fun y => []) (fun y => ref07Fault_k1 N = some r) ?_ ?_
         ·conv => whnf
          refine LoopG.mk (Nat × Int) (fun y => [(1, .d (.ref (.agg [I b1.fLaw.fBase, I b1.fLaw.fPercent, I b1.fLaw.fCap, I b1.fLaw.fLeast, I b1.fLaw.fBlind, .list 1 (List.map I b1.fBowlers), .list 6 (List.map Ref07Sheet.enc b1.fSheets), .list 1 (List.map I b1.fWithdrawn)]))), (8, .d (I y.2))]) (fun y => []) (fun y => loopN (fun rr x => ref07Fault_b4 N b1 rr x) y.1 y.2 = some r) (fun y => y.1) (N, 0) h (Sub.eq rfl ?_ ?_) ?_
          ·repeat ((conv => whnf); refine Need.mk rfl ?_)
           exact trivial
          ·exact trivial
          ·rintro ⟨n11, i20⟩ hl11
           obtain ⟨n11, rfl, hl11⟩ := loopN_some hl11
           replace hl11 : ref07Fault_b4 N b1 (loopN (fun rr x => ref07Fault_b4 N b1 rr x) n11) i20 = some r := hl11
           rw [ref07Fault_b4] at hl11
           conv => whnf
           refine LnA.mk _ (List.length_map _) ?_
           conv => whnf
           refine Br.mk (fun hc298 => ?_) (fun hc298 => ?_)
           ·replace hl11 := ite_t hc298 hl11
            conv => whnf
            refine SeqG.mk Unit (fun y => [(1, .d (.ref (.agg [I b1.fLaw.fBase, I b1.fLaw.fPercent, I b1.fLaw.fCap, I b1.fLaw.fLeast, I b1.fLaw.fBlind, .list 1 (List.map I b1.fBowlers), .list 6 (List.map Ref07Sheet.enc b1.fSheets), .list 1 (List.map I b1.fWithdrawn)]))), (8, .d (I i20))]) (fun y => []) (fun y => ref07Fault_k2 N i20 (loopN (fun rr x => ref07Fault_b4 N b1 rr x) n11) = some r) ?_ ?_
            ·conv => whnf
             refine LoopG.mk (Nat × Int) (fun y => [(1, .d (.ref (.agg [I b1.fLaw.fBase, I b1.fLaw.fPercent, I b1.fLaw.fCap, I b1.fLaw.fLeast, I b1.fLaw.fBlind, .list 1 (List.map I b1.fBowlers), .list 6 (List.map Ref07Sheet.enc b1.fSheets), .list 1 (List.map I b1.fWithdrawn)]))), (8, .d (I i20)), (9, .d (I y.2))]) (fun y => []) (fun y => loopN (fun rr x => ref07Fault_b3 N b1 i20 (loopN (fun rr x => ref07Fault_b4 N b1 rr x) n11) rr x) y.1 y.2 = some r) (fun y => y.1) (N, 0) hl11 (Sub.eq rfl ?_ ?_) ?_
             ·repeat ((conv => whnf); refine Need.mk rfl ?_)
              exact trivial
             ·exact trivial
             ·rintro ⟨n13, k32⟩ hl13
              obtain ⟨n13, rfl, hl13⟩ := loopN_some hl13
              replace hl13 : ref07Fault_b3 N b1 i20 (loopN (fun rr x => ref07Fault_b4 N b1 rr x) n11) (loopN (fun rr x => ref07Fault_b3 N b1 i20 (loopN (fun rr x => ref07Fault_b4 N b1 rr x) n11) rr x) n13) k32 = some r := hl13
              rw [ref07Fault_b3] at hl13
              conv => whnf
              refine Br.mk (fun hc340 => ?_) (fun hc340 => ?_)
              ·replace hl13 := ite_t hc340 hl13
               obtain ⟨v64, hx468, hl13⟩ := obind hl13
               conv => whnf
               refine SeqG.mk Unit (fun y => [(1, .d (.ref (.agg [I b1.fLaw.fBase, I b1.fLaw.fPercent, I b1.fLaw.fCap, I b1.fLaw.fLeast, I b1.fLaw.fBlind, .list 1 (List.map I b1.fBowlers), .list 6 (List.map Ref07Sheet.enc b1.fSheets), .list 1 (List.map I b1.fWithdrawn)]))), (8, .d (I i20)), (9, .d (I k32)), (143, .d (.bool v64))]) (fun y => []) (fun _ => True) ?_ ?_
               ·obtain ⟨x227, hx469, hx468⟩ := obind hx468
                obtain ⟨x228, hx470, hx468⟩ := obind hx468
                conv => whnf
                refine DrawG.mk (.take 0 (.take 1 (.take 2 (.take 3 (.take 4 (.take 5 (.take 6 (.take 7 (.take 8 (.take 9 (.take 10 (.take 11 (.take 12 (.take 13 (.spl 131 (.take 14 (.take 15 (.take 16 (.take 17 (.take 18 (.take 19 (.take 20 (.take 21 (.take 22 (.take 23 (.take 24 (.take 25 .done))))))))))))))))))))))))))) (by kernel_rfl) ?_
                conv => whnf
                refine Side.mk rfl ⟨_, idx_0 hx469, idx_map _ hx469, ?_⟩
                conv => whnf
                refine Side.mk rfl ⟨_, idx_0 hx470, idx_map _ hx470, ?_⟩
                conv => whnf
                refine Br.mk (fun hc345 => ?_) (fun hc345 => ?_)
                ·replace hx468 := ite_t hc345 hx468
                 conv => whnf
                 refine Side.mk rfl ⟨_, idx_0 hx469, idx_map _ hx469, ?_⟩
                 conv => whnf
                 refine Side.mk rfl ⟨_, idx_0 hx470, idx_map _ hx470, ?_⟩
                 conv => whnf
                 refine Need.mk ⟨rfl, rfl⟩ (EqB.mk _ (Ref07Sheet.eqc x227 x228) ?_)
                 cases hx468
                 conv => whnf
                 refine ⟨(), trivial, Sub.eq rfl ?_ ?_⟩
                 ·repeat ((conv => whnf); refine Need.mk rfl ?_)
                  exact trivial
                 ·exact trivial
                ·replace hx468 := ite_f hc345 hx468
                 cases hx468
                 conv => whnf
                 refine ⟨(), trivial, Sub.eq rfl ?_ ?_⟩
                 ·repeat ((conv => whnf); refine Need.mk rfl ?_)
                  exact trivial
                 ·exact trivial
               ·rintro _ _
                conv => whnf
                refine Br.mk (fun hc346 => ?_) (fun hc346 => ?_)
                ·replace hl13 := ite_t hc346 hl13
                 conv => whnf
                 cases hl13
                 exact rfl
                ·replace hl13 := ite_f hc346 hl13
                 conv => whnf
                 refine ⟨(n13, w64 (k32 + 1)), hl13, Sub.eq rfl ?_ ?_, Nat.lt_succ_self _⟩
                 ·repeat ((conv => whnf); refine Need.mk rfl ?_)
                  exact trivial
                 ·exact trivial
              ·replace hl13 := ite_f hc340 hl13
               conv => whnf
               refine ⟨(), hl13, Sub.eq rfl ?_ ?_⟩
               ·repeat ((conv => whnf); refine Need.mk rfl ?_)
                exact trivial
               ·exact trivial
            ·rintro _ h
             unfold ref07Fault_k2 at h
             conv => whnf
             refine ⟨(n11, w64 (i20 + 1)), h, Sub.eq rfl ?_ ?_, Nat.lt_succ_self _⟩
             ·repeat ((conv => whnf); refine Need.mk rfl ?_)
              exact trivial
             ·exact trivial
           ·replace hl11 := ite_f hc298 hl11
            conv => whnf
            refine ⟨(), hl11, Sub.eq rfl ?_ ?_⟩
            ·repeat ((conv => whnf); refine Need.mk rfl ?_)
             exact trivial
            ·exact trivial
         ·clear h
          rintro _ h
          unfold ref07Fault_k1 at h
          conv => whnf
          cases h
          exact rfl

theorem law07FaultC {N : Nat} (hN : N ≤ 1073741824) {b1 : Ref07Book} {r : Int} (h : law07Fault N b1 = some r) :
    ACalls Try.prog 22 [.d (.agg [I b1.fLaw.fBase, I b1.fLaw.fPercent, I b1.fLaw.fCap, I b1.fLaw.fLeast, I b1.fLaw.fBlind, .list 1 (List.map I b1.fBowlers), .list 6 (List.map Ref07Sheet.enc b1.fSheets), .list 1 (List.map I b1.fWithdrawn)])] [] fun e os => e = .ret (.d (I r)) ∧ os = [] := by
  refine acalls_f (fresh := false) tt_ok dr_ok ⟨[1], [], [], [], [], 0, []⟩ Try.func22 rfl Try.call22 rfl ?_
  unfold law07Fault at h
  obtain ⟨r2, hx2, h⟩ := obind h
  conv => whnf
  refine CallG.pure _ (ref07FaultC hN hx2) ?_
  conv => whnf
  cases h
  exact rfl

theorem ref07HasC {N : Nat} (hN : N ≤ 1073741824) {l1 : List Int} {n1 : Int} {r : Bool} (h : ref07Has N l1 n1 = some r) :
    ACalls Try.prog 41 [.d (.list 1 (List.map I l1)), .d (I n1)] [] fun e os => e = .ret (.d (.bool r)) ∧ os = [] := by
  refine acalls_f (fresh := false) tt_ok dr_ok ⟨[], [], [], [], [1001], 0, []⟩ Try.func41 rfl Try.call41 rfl ?_
  unfold ref07Has at h
  conv => whnf
  refine SeqG.mk Unit (fun y => []) (fun y => []) (fun y => ref07Has_k1 N = some r) ?_ ?_
  ·conv => whnf
   refine LoopG.mk (Nat × Int) (fun y => [(0, .d (.list 1 (List.map I l1))), (1, .d (I n1)), (5, .d (I y.2))]) (fun y => []) (fun y => loopN (fun rr x => ref07Has_b2 N l1 n1 rr x) y.1 y.2 = some r) (fun y => y.1) (N, 0) h (Sub.eq rfl ?_ ?_) ?_
   ·repeat ((conv => whnf); refine Need.mk rfl ?_)
    exact trivial
   ·exact trivial
   ·rintro ⟨n3, i8⟩ hl2
    obtain ⟨n3, rfl, hl2⟩ := loopN_some hl2
    replace hl2 : ref07Has_b2 N l1 n1 (loopN (fun rr x => ref07Has_b2 N l1 n1 rr x) n3) i8 = some r := hl2
    rw [ref07Has_b2] at hl2
    conv => whnf
    refine LnA.mk _ (List.length_map _) ?_
    conv => whnf
    refine Br.mk (fun hc22 => ?_) (fun hc22 => ?_)
    ·replace hl2 := ite_t hc22 hl2
     obtain ⟨x24, hx24, hl2⟩ := obind hl2
     conv => whnf
     refine Side.mk rfl ⟨_, idx_0 hx24, idx_map _ hx24, ?_⟩
     conv => whnf
     refine Br.mk (fun hc24 => ?_) (fun hc24 => ?_)
     ·replace hl2 := ite_t hc24 hl2
      conv => whnf
      cases hl2
      exact rfl
     ·replace hl2 := ite_f hc24 hl2
      conv => whnf
      refine ⟨(n3, w64 (i8 + 1)), hl2, Sub.eq rfl ?_ ?_, Nat.lt_succ_self _⟩
      ·repeat ((conv => whnf); refine Need.mk rfl ?_)
       exact trivial
      ·exact trivial
    ·replace hl2 := ite_f hc22 hl2
     conv => whnf
     refine ⟨(), hl2, Sub.eq rfl ?_ ?_⟩
     ·repeat ((conv => whnf); refine Need.mk rfl ?_)
      exact trivial
     ·exact trivial
  ·clear h
   rintro _ h
   unfold ref07Has_k1 at h
   conv => whnf
   cases h
   exact rfl

theorem ref07CountsC {N : Nat} (hN : N ≤ 1073741824) {b1 : Ref07Book} {s1 : Ref07Sheet} {r : Bool} (h : ref07Counts N b1 s1 = some r) :
    ACalls Try.prog 40 [.d (.agg [I b1.fLaw.fBase, I b1.fLaw.fPercent, I b1.fLaw.fCap, I b1.fLaw.fLeast, I b1.fLaw.fBlind, .list 1 (List.map I b1.fBowlers), .list 6 (List.map Ref07Sheet.enc b1.fSheets), .list 1 (List.map I b1.fWithdrawn)]), .d (.agg [I s1.fNumber, I s1.fBowler, I s1.fWeek, I s1.fGames.a0, I s1.fGames.a1, I s1.fGames.a2])] [] fun e os => e = .ret (.d (.bool r)) ∧ os = [] := by
  refine acalls_f (fresh := false) tt_ok dr_ok ⟨[2, 3], [], [], [], [7, 1003], 0, []⟩ Try.func40 rfl Try.call40 rfl ?_
  unfold ref07Counts at h
  obtain ⟨r4, hx4, h⟩ := obind h
  conv => whnf
  refine CallG.pure _ (ref07HasC hN hx4) ?_
  conv => whnf
  refine Br.mk (fun hc2 => ?_) (fun hc2 => ?_)
  ·replace h := ite_t hc2 h
   conv => whnf
   cases h
   exact rfl
  ·replace h := ite_f hc2 h
   conv => whnf
   refine SeqG.mk Unit (fun y => []) (fun y => []) (fun y => ref07Counts_k1 N = some r) ?_ ?_
   ·conv => whnf
    refine LoopG.mk (Nat × Int) (fun y => [(2, .d (.ref (.agg [I b1.fLaw.fBase, I b1.fLaw.fPercent, I b1.fLaw.fCap, I b1.fLaw.fLeast, I b1.fLaw.fBlind, .list 1 (List.map I b1.fBowlers), .list 6 (List.map Ref07Sheet.enc b1.fSheets), .list 1 (List.map I b1.fWithdrawn)]))), (3, .d (.ref (.agg [I s1.fNumber, I s1.fBowler, I s1.fWeek, I s1.fGames.a0, I s1.fGames.a1, I s1.fGames.a2]))), (5, .d (I y.2))]) (fun y => []) (fun y => loopN (fun rr x => ref07Counts_b2 N b1 s1 rr x) y.1 y.2 = some r) (fun y => y.1) (N, 0) h (Sub.eq rfl ?_ ?_) ?_
    ·repeat ((conv => whnf); refine Need.mk rfl ?_)
     exact trivial
    ·exact trivial
    ·rintro ⟨n2, i8⟩ hl2
     obtain ⟨n2, rfl, hl2⟩ := loopN_some hl2
     replace hl2 : ref07Counts_b2 N b1 s1 (loopN (fun rr x => ref07Counts_b2 N b1 s1 rr x) n2) i8 = some r := hl2
     rw [ref07Counts_b2] at hl2
     conv => whnf
     refine LnA.mk _ (List.length_map _) ?_
     conv => whnf
     refine Br.mk (fun hc84 => ?_) (fun hc84 => ?_)
     ·replace hl2 := ite_t hc84 hl2
      obtain ⟨x24, hx61, hl2⟩ := obind hl2
      conv => whnf
      refine Side.mk rfl ⟨_, idx_0 hx61, idx_map _ hx61, ?_⟩
      conv => whnf
      intro b25
      conv => whnf
      refine Side.mk rfl ?_
      obtain ⟨v12, hx63, hl2⟩ := obind hl2
      conv => whnf
      refine SeqG.mk Unit (fun y => [(2, .d (.ref (.agg [I b1.fLaw.fBase, I b1.fLaw.fPercent, I b1.fLaw.fCap, I b1.fLaw.fLeast, I b1.fLaw.fBlind, .list 1 (List.map I b1.fBowlers), .list 6 (List.map Ref07Sheet.enc b1.fSheets), .list 1 (List.map I b1.fWithdrawn)]))), (3, .d (.ref (.agg [I s1.fNumber, I s1.fBowler, I s1.fWeek, I s1.fGames.a0, I s1.fGames.a1, I s1.fGames.a2]))), (5, .d (I i8)), (50, .d (.bool v12))]) (fun y => []) (fun _ => True) ?_ ?_
      ·conv => whnf
       refine Side.mk rfl ?_
       conv => whnf
       refine Br.mk (fun hc95 => ?_) (fun hc95 => ?_)
       ·replace hx63 := ite_t hc95 hx63
        conv => whnf
        refine Side.mk rfl ?_
        conv => whnf
        refine Br.mk (fun hc96 => ?_) (fun hc96 => ?_)
        ·replace hx63 := ite_t hc96 hx63
         conv => whnf
         refine Side.mk rfl ?_
         conv => whnf
         refine Br.mk (fun hc97 => ?_) (fun hc97 => ?_)
         ·replace hx63 := ite_t hc97 hx63
          conv => whnf
          refine Side.mk rfl ?_
          obtain ⟨r28, hx64, hx63⟩ := obind hx63
          conv => whnf
          refine CallG.pure _ (ref07HasC hN hx64) ?_
          cases hx63
          conv => whnf
          refine ⟨(), trivial, Sub.eq rfl ?_ ?_⟩
          ·repeat ((conv => whnf); refine Need.mk rfl ?_)
           exact trivial
          ·exact trivial
         ·replace hx63 := ite_f hc97 hx63
          cases hx63
          conv => whnf
          refine ⟨(), trivial, Sub.eq rfl ?_ ?_⟩
          ·repeat ((conv => whnf); refine Need.mk rfl ?_)
           exact trivial
          ·exact trivial
        ·replace hx63 := ite_f hc96 hx63
         cases hx63
         conv => whnf
         refine ⟨(), trivial, Sub.eq rfl ?_ ?_⟩
         ·repeat ((conv => whnf); refine Need.mk rfl ?_)
          exact trivial
         ·exact trivial
       ·replace hx63 := ite_f hc95 hx63
        cases hx63
        conv => whnf
        refine ⟨(), trivial, Sub.eq rfl ?_ ?_⟩
        ·repeat ((conv => whnf); refine Need.mk rfl ?_)
         exact trivial
        ·exact trivial
      ·rintro _ _
       conv => whnf
       refine Br.mk (fun hc98 => ?_) (fun hc98 => ?_)
       ·replace hl2 := ite_t hc98 hl2
        conv => whnf
        cases hl2
        exact rfl
       ·replace hl2 := ite_f hc98 hl2
        conv => whnf
        refine ⟨(n2, w64 (i8 + 1)), hl2, Sub.eq rfl ?_ ?_, Nat.lt_succ_self _⟩
        ·repeat ((conv => whnf); refine Need.mk rfl ?_)
         exact trivial
        ·exact trivial
     ·replace hl2 := ite_f hc84 hl2
      conv => whnf
      refine ⟨(), hl2, Sub.eq rfl ?_ ?_⟩
      ·repeat ((conv => whnf); refine Need.mk rfl ?_)
       exact trivial
      ·exact trivial
   ·clear h
    rintro _ h
    unfold ref07Counts_k1 at h
    conv => whnf
    cases h
    exact rfl
end Go.Proofs.Ytmencjafjcmbaaa
