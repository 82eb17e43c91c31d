/-
  Walks: what the typed functions compute, the program’s functions return.
-/
import Derived.Test.YtignpdbcgjllkaaGreatWe
import Derived.Test.YtignpdbcgjllkaaGreatVa
namespace Go.Proofs.YtignpdbcgjllkaaGreat
open Go Go.Abs Go.Kp
set_option maxRecDepth 100000
set_option maxHeartbeats 8000000
set_option linter.all false
theorem rateReadAverageC {N : Nat} (hN : N ≤ 1073741824) {bowler1 : Int} {before1 : Int} {besides1 : List Int} {c1 : Int} {c2 : Int} {c3 : Int} {c4 : Int} {c5 : Int} {c6 : List Int} {c7 : List RateSheet} {c8 : List Int} {m1 : List (RateTurn × RateSheet)} {bo1 : Nat} {bo2 : Nat} {r : Int} (h : rateReadAverage N bowler1 before1 besides1 c1 c2 c3 c4 c5 c6 c7 c8 m1 = some r) :
    ACalls Tryz.prog 66 [.ptr 145019 bo1 0, .d (I bowler1), .d (I before1), .d (.list 1 (List.map I besides1))] [(145019, .cells bo1 [.d (I c1), .d (I c2), .d (I c3), .d (I c4), .d (I c5), .d (.list 1 (List.map I c6)), .d (.list 6 (List.map RateSheet.enc c7)), .d (.list 1 (List.map I c8)), .mp 145017 bo2]), (145017, .map bo2 (List.map (fun p => (.agg [I p.1.fBowler, I p.1.fWeek], .agg [I p.2.fNumber, I p.2.fBowler, I p.2.fWeek, I p.2.fGames.a0, I p.2.fGames.a1, I p.2.fGames.a2])) m1))] fun ae os => ∃ y : Unit, True ∧ ae = .ret (.d (I r)) ∧ os = [(145019, .cells bo1 [.d (I c1), .d (I c2), .d (I c3), .d (I c4), .d (I c5), .d (.list 1 (List.map I c6)), .d (.list 6 (List.map RateSheet.enc c7)), .d (.list 1 (List.map I c8)), .mp 145017 bo2]), (145017, .map bo2 (List.map (fun p => (.agg [I p.1.fBowler, I p.1.fWeek], .agg [I p.2.fNumber, I p.2.fBowler, I p.2.fWeek, I p.2.fGames.a0, I p.2.fGames.a1, I p.2.fGames.a2])) m1))] := by
  refine acalls_own (fresh := false) tt_ok dr_ok ⟨[], [], [], [], [1002], 150000, []⟩ Tryz.func66 rfl Tryz.call66 rfl ?_
  unfold rateReadAverage at h
  (conv=>whnf);refine LnA.mk _ (List.length_map _) ?_;obtain ⟨r2, hx2, h⟩ := obind h;(conv=>whnf);refine CallG.pure _ (rateSumC hN hx2) ?_;(conv=>whnf);intro b3;(conv=>whnf);intro b4;(conv=>whnf);refine sr ?_;(conv=>whnf);refine sr ?_;obtain ⟨⟨c36, c37⟩, hx53, h⟩ := obind h;(conv=>whnf);refine SeqG.mk Unit (fun y => [(0, .ptr 145019 bo1 0), (1, .d (I bowler1)), (9, .ptr 150009 b3 0), (10, .ptr 150010 b4 0)]) (fun y => [(145019, .cells bo1 [.d (I c1), .d (I c2), .d (I c3), .d (I c4), .d (I c5), .d (.list 1 (List.map I c6)), .d (.list 6 (List.map RateSheet.enc c7)), .d (.list 1 (List.map I c8)), .mp 145017 bo2]), (150009, .cells b3 [.d (I c36)]), (150010, .cells b4 [.d (I c37)]), (145017, .map bo2 (List.map (fun p => (.agg [I p.1.fBowler, I p.1.fWeek], .agg [I p.2.fNumber, I p.2.fBowler, I p.2.fWeek, I p.2.fGames.a0, I p.2.fGames.a1, I p.2.fGames.a2])) m1))]) (fun _ => True) ?_ ?_
  ·obtain ⟨⟨ra4, rb4⟩, hx55, hx53⟩ := obind hx53;(conv=>whnf)
   refine CallG.own (rateReadCountingC (bo1 := bo1) (bo2 := bo2) hN hx55) id [(150009, .cells b3 [.d (I (besides1.length : Int))]), (150010, .cells b4 [.d (I r2)])] _ (fun y => [(145019, .cells bo1 [.d (I c1), .d (I c2), .d (I c3), .d (I c4), .d (I c5), .d (.list 1 (List.map I c6)), .d (.list 6 (List.map RateSheet.enc c7)), .d (.list 1 (List.map I c8)), .mp 145017 bo2]), (145017, .map bo2 (List.map (fun p => (.agg [I p.1.fBowler, I p.1.fWeek], .agg [I p.2.fNumber, I p.2.fBowler, I p.2.fWeek, I p.2.fGames.a0, I p.2.fGames.a1, I p.2.fGames.a2])) m1)), (1525003, .cells y [.ptr 145019 bo1 0]), (150009, .cells b3 [.d (I (besides1.length : Int))]), (150010, .cells b4 [.d (I r2)])]) (all2_le_refl _) (And.intro rfl (And.intro rfl trivial)) rfl (And.intro rfl (And.intro rfl trivial)) (And.intro rfl (And.intro rfl trivial)) (fun _ => AV.le_refl _) (fun _ => rfl) ?_;rintro b68 _;(conv=>whnf)
   intro lp2 rc2;refine IterG.mk _ _ ⟨[], [], [], [], [3, 4], 2000, []⟩ Tryz.func139 rfl Tryz.call139 rfl rfl ?_;(conv=>whnf)
   refine LoopG.mk (Nat × (Int × Int × Int)) (fun y => [(0, .fn (.yield lp2) [] []), (2, .ptr 1525003 b68 0), (3, .d (.ref (.agg [I rb4]))), (8, .d (I ra4)), (9, .d (I y.2.1))]) (fun y => [(1525003, .cells b68 [.ptr 145019 bo1 0]), (145019, .cells bo1 [.d (I c1), .d (I c2), .d (I c3), .d (I c4), .d (I c5), .d (.list 1 (List.map I c6)), .d (.list 6 (List.map RateSheet.enc c7)), .d (.list 1 (List.map I c8)), .mp 145017 bo2]), (150009, .cells b3 [.d (I y.2.2.1)]), (150010, .cells b4 [.d (I y.2.2.2)]), (1000, .loop lp2 rc2 none), (145017, .map bo2 (List.map (fun p => (.agg [I p.1.fBowler, I p.1.fWeek], .agg [I p.2.fNumber, I p.2.fBowler, I p.2.fWeek, I p.2.fGames.a0, I p.2.fGames.a1, I p.2.fGames.a2])) m1))]) (fun y => loopN (fun rr x => rateReadAverage_b1 N m1 ra4 rb4 rr x.1 x.2.1 x.2.2) y.1 y.2 = some (c36, c37)) (fun y => y.1) (N, (0, (besides1.length : Int), r2)) hx53 (Sub.eq rfl ?_ ?_) ?_
   ·(repeat ((conv=>whnf);refine nr ?_));exact trivial
   ·(conv=>whnf);refine no ?_;(conv=>whnf);refine no ?_;(conv=>whnf);refine no ?_;(conv=>whnf);refine no ?_;(conv=>whnf);refine no ?_;(conv=>whnf);refine no ?_;exact trivial
   ·rintro ⟨n2, ⟨games8, c57, c58⟩⟩ hl2;obtain ⟨n2, rfl, hl2⟩ := loopN_some hl2;replace hl2 : rateReadAverage_b1 N m1 ra4 rb4 (loopN (fun rr x => rateReadAverage_b1 N m1 ra4 rb4 rr x.1 x.2.1 x.2.2) n2) games8 c57 c58 = some (c36, c37) := hl2;rw [rateReadAverage_b1] at hl2;(conv=>whnf);refine Br.mk (fun hc32 => ?_) (fun hc32 => ?_)
    ·replace hl2 := ite_t hc32 hl2;obtain ⟨⟨besides13, c62⟩, hx97, hl2⟩ := obind hl2;(conv=>whnf)
     refine SeqG.mk Nat (fun y => [(0, .fn (.yield lp2) [] []), (2, .ptr 1525003 b68 0), (3, .d (.ref (.agg [I rb4]))), (6, .ptr 2006 y 0), (7, .d (.bool besides13)), (8, .d (I ra4)), (9, .d (I games8))]) (fun y => [(1525003, .cells b68 [.ptr 145019 bo1 0]), (2006, .cells y [.d (I c62.fNumber), .d (I c62.fBowler), .d (I c62.fWeek), .d (I c62.fGames.a0), .d (I c62.fGames.a1), .d (I c62.fGames.a2)]), (145019, .cells bo1 [.d (I c1), .d (I c2), .d (I c3), .d (I c4), .d (I c5), .d (.list 1 (List.map I c6)), .d (.list 6 (List.map RateSheet.enc c7)), .d (.list 1 (List.map I c8)), .mp 145017 bo2]), (150009, .cells b3 [.d (I c57)]), (150010, .cells b4 [.d (I c58)]), (1000, .loop lp2 rc2 none), (145017, .map bo2 (List.map (fun p => (.agg [I p.1.fBowler, I p.1.fWeek], .agg [I p.2.fNumber, I p.2.fBowler, I p.2.fWeek, I p.2.fGames.a0, I p.2.fGames.a1, I p.2.fGames.a2])) m1))]) (fun _ => True) ?_ ?_
     ·obtain ⟨⟨v24, is24⟩, hx98, hx97⟩ := obind hx97;(conv=>whnf);refine DrawG.mk (.take 0 (.take 1 (.take 2 (.take 3 (.take 4 (.take 5 (.alt 6 [3, 2, 1, 0] (.alt 7 [2, 1, 0] (.take 8 (.take 9 (.take 10 (.alt 11 [10, 9, 8, 2, 1, 0] (.alt 12 [10] (.take 13 .done) .nil) .nil)))) (.alt 11 [3, 2, 1, 0] (.alt 7 [2, 1, 0] (.take 8 (.take 9 (.take 10 (.alt 12 [10] (.take 13 .done) .nil)))) .nil) .nil)) (.alt 11 [5, 4, 3, 2, 1, 0] (.alt 6 [3, 2, 1, 0] (.alt 7 [2, 1, 0] (.take 8 (.take 9 (.take 10 (.alt 12 [10] (.take 13 .done) .nil)))) .nil) .nil) .nil)))))))) (by kernel_rfl) ?_;(conv=>whnf);refine sr ?_;(conv=>whnf);refine sr ?_;(conv=>whnf);refine Both.mk ?_ ?_
      ·(conv=>whnf);refine sr ?_;(conv=>whnf);refine nl ?_;(conv=>whnf);refine nl ?_;(conv=>whnf);refine nl ?_;(conv=>whnf);refine sr ?_;(conv=>whnf);refine nl ?_;(conv=>whnf);refine Both.mk ?_ ?_
       ·(conv=>whnf);refine Side.mk rfl (Need.mk rfl (Need.mk (fit_all (m := m1) (fun x : RateTurn => .agg [I x.fBowler, I x.fWeek]) (fun x : RateSheet => .agg [I x.fNumber, I x.fBowler, I x.fWeek, I x.fGames.a0, I x.fGames.a1, I x.fGames.a2]) fun _ => rfl) (LkG.mk (.agg [I v24.fNumber, I v24.fBowler, I v24.fWeek, I v24.fGames.a0, I v24.fGames.a1, I v24.fGames.a2]) is24 (mgt_v (eK := (fun x : RateTurn => .agg [I x.fBowler, I x.fWeek])) (eV := (fun x : RateSheet => .agg [I x.fNumber, I x.fBowler, I x.fWeek, I x.fGames.a0, I x.fGames.a1, I x.fGames.a2])) RateTurn.eqc hx98) (mgt_b (eK := (fun x : RateTurn => .agg [I x.fBowler, I x.fWeek])) (eV := (fun x : RateSheet => .agg [I x.fNumber, I x.fBowler, I x.fWeek, I x.fGames.a0, I x.fGames.a1, I x.fGames.a2])) RateTurn.eqc hx98) ?_)));(conv=>whnf);refine nl ?_;(conv=>whnf);refine nl ?_;(conv=>whnf);refine sr ?_;(conv=>whnf);refine nl ?_
        (conv=>whnf);refine Both.mk ?_ trivial;(conv=>whnf);intro b124;(conv=>whnf);refine nl ?_;(conv=>whnf);refine nl ?_;(conv=>whnf);refine nl ?_;(conv=>whnf);refine nl ?_;(conv=>whnf);refine nl ?_;(conv=>whnf);refine sr ?_;(conv=>whnf);refine nl ?_;(conv=>whnf);refine Both.mk ?_ trivial;(conv=>whnf);refine sr ?_;(conv=>whnf);refine nl ?_;cases hx97;(conv=>whnf);refine ⟨b124, trivial, Sub.eq rfl ?_ ?_⟩
        ·(repeat ((conv=>whnf);refine nr ?_));exact trivial
        ·(conv=>whnf);refine no ?_;(conv=>whnf);refine no ?_;(conv=>whnf);refine no ?_;(conv=>whnf);refine no ?_;(conv=>whnf);refine no ?_;(conv=>whnf);refine no ?_;(conv=>whnf);refine no ?_;exact trivial
       ·(conv=>whnf);refine Both.mk ?_ trivial;(conv=>whnf);intro b125;(conv=>whnf);refine sr ?_;(conv=>whnf);refine nl ?_;(conv=>whnf);refine nl ?_;(conv=>whnf);refine nl ?_;(conv=>whnf);refine sr ?_;(conv=>whnf);refine nl ?_;(conv=>whnf);refine Both.mk ?_ trivial;(conv=>whnf)
        refine Side.mk rfl (Need.mk rfl (Need.mk (fit_all (m := m1) (fun x : RateTurn => .agg [I x.fBowler, I x.fWeek]) (fun x : RateSheet => .agg [I x.fNumber, I x.fBowler, I x.fWeek, I x.fGames.a0, I x.fGames.a1, I x.fGames.a2]) fun _ => rfl) (LkG.mk (.agg [I v24.fNumber, I v24.fBowler, I v24.fWeek, I v24.fGames.a0, I v24.fGames.a1, I v24.fGames.a2]) is24 (mgt_v (eK := (fun x : RateTurn => .agg [I x.fBowler, I x.fWeek])) (eV := (fun x : RateSheet => .agg [I x.fNumber, I x.fBowler, I x.fWeek, I x.fGames.a0, I x.fGames.a1, I x.fGames.a2])) RateTurn.eqc hx98) (mgt_b (eK := (fun x : RateTurn => .agg [I x.fBowler, I x.fWeek])) (eV := (fun x : RateSheet => .agg [I x.fNumber, I x.fBowler, I x.fWeek, I x.fGames.a0, I x.fGames.a1, I x.fGames.a2])) RateTurn.eqc hx98) ?_)));(conv=>whnf);refine nl ?_;(conv=>whnf);refine nl ?_;(conv=>whnf);refine sr ?_;(conv=>whnf);refine nl ?_;(conv=>whnf)
        refine Both.mk ?_ trivial;(conv=>whnf);refine sr ?_;(conv=>whnf);refine nl ?_;cases hx97;(conv=>whnf);refine ⟨b125, trivial, Sub.eq rfl ?_ ?_⟩
        ·(repeat ((conv=>whnf);refine nr ?_));exact trivial
        ·(conv=>whnf);refine no ?_;(conv=>whnf);refine no ?_;(conv=>whnf);refine no ?_;(conv=>whnf);refine no ?_;(conv=>whnf);refine no ?_;(conv=>whnf);refine no ?_;(conv=>whnf);refine no ?_;exact trivial
      ·(conv=>whnf);refine Both.mk ?_ trivial;(conv=>whnf);intro b126;(conv=>whnf);refine nl ?_;(conv=>whnf);refine nl ?_;(conv=>whnf);refine sr ?_;(conv=>whnf);refine nl ?_;(conv=>whnf);refine nl ?_;(conv=>whnf);refine nl ?_;(conv=>whnf);refine sr ?_;(conv=>whnf);refine nl ?_;(conv=>whnf);refine Both.mk ?_ trivial;(conv=>whnf);refine sr ?_;(conv=>whnf);refine nl ?_;(conv=>whnf);refine nl ?_;(conv=>whnf);refine nl ?_;(conv=>whnf);refine sr ?_;(conv=>whnf);refine nl ?_;(conv=>whnf);refine Both.mk ?_ trivial;(conv=>whnf)
       refine Side.mk rfl (Need.mk rfl (Need.mk (fit_all (m := m1) (fun x : RateTurn => .agg [I x.fBowler, I x.fWeek]) (fun x : RateSheet => .agg [I x.fNumber, I x.fBowler, I x.fWeek, I x.fGames.a0, I x.fGames.a1, I x.fGames.a2]) fun _ => rfl) (LkG.mk (.agg [I v24.fNumber, I v24.fBowler, I v24.fWeek, I v24.fGames.a0, I v24.fGames.a1, I v24.fGames.a2]) is24 (mgt_v (eK := (fun x : RateTurn => .agg [I x.fBowler, I x.fWeek])) (eV := (fun x : RateSheet => .agg [I x.fNumber, I x.fBowler, I x.fWeek, I x.fGames.a0, I x.fGames.a1, I x.fGames.a2])) RateTurn.eqc hx98) (mgt_b (eK := (fun x : RateTurn => .agg [I x.fBowler, I x.fWeek])) (eV := (fun x : RateSheet => .agg [I x.fNumber, I x.fBowler, I x.fWeek, I x.fGames.a0, I x.fGames.a1, I x.fGames.a2])) RateTurn.eqc hx98) ?_)));(conv=>whnf);refine nl ?_;(conv=>whnf);refine nl ?_;(conv=>whnf);refine sr ?_;(conv=>whnf);refine nl ?_;(conv=>whnf)
       refine Both.mk ?_ trivial;(conv=>whnf);refine sr ?_;(conv=>whnf);refine nl ?_;cases hx97;(conv=>whnf);refine ⟨b126, trivial, Sub.eq rfl ?_ ?_⟩
       ·(repeat ((conv=>whnf);refine nr ?_));exact trivial
       ·(conv=>whnf);refine no ?_;(conv=>whnf);refine no ?_;(conv=>whnf);refine no ?_;(conv=>whnf);refine no ?_;(conv=>whnf);refine no ?_;(conv=>whnf);refine no ?_;(conv=>whnf);refine no ?_;exact trivial
     ·rintro bb12 _;obtain ⟨⟨c63, c64⟩, hx101, hl2⟩ := obind hl2;(conv=>whnf);refine SeqG.mk Unit (fun y => [(0, .fn (.yield lp2) [] []), (2, .ptr 1525003 b68 0), (3, .d (.ref (.agg [I rb4]))), (8, .d (I ra4)), (9, .d (I games8)), (29, .b false)]) (fun y => [(1525003, .cells b68 [.ptr 145019 bo1 0]), (145019, .cells bo1 [.d (I c1), .d (I c2), .d (I c3), .d (I c4), .d (I c5), .d (.list 1 (List.map I c6)), .d (.list 6 (List.map RateSheet.enc c7)), .d (.list 1 (List.map I c8)), .mp 145017 bo2]), (150009, .cells b3 [.d (I c63)]), (150010, .cells b4 [.d (I c64)]), (1000, .loop lp2 rc2 none), (145017, .map bo2 (List.map (fun p => (.agg [I p.1.fBowler, I p.1.fWeek], .agg [I p.2.fNumber, I p.2.fBowler, I p.2.fWeek, I p.2.fGames.a0, I p.2.fGames.a1, I p.2.fGames.a2])) m1))]) (fun _ => True) ?_ ?_
      ·(conv=>whnf);refine Br.mk (fun hc36 => ?_) (fun hc36 => ?_)
       ·replace hx101 := ite_t hc36 hx101;(conv=>whnf);refine sr ?_;(conv=>whnf);refine Side.mk ⟨rfl, rfl, rfl⟩ ?_;(conv=>whnf);intro b128;(conv=>whnf);refine sr ?_;obtain ⟨r49, hx102, hx101⟩ := obind hx101;obtain ⟨r50, hx103, hx101⟩ := obind hx101;(conv=>whnf);refine DrawG.mk (.take 0 (.take 1 (.take 2 (.take 3 (.alt 4 [2, 1, 0] (.alt 5 [2, 1, 0] (.alt 6 [1, 0] (.alt 7 [1, 0] (.alt 8 [] (.alt 9 [] .done .nil) .nil) .nil) .nil) .nil) .nil))))) (by kernel_rfl) ?_;(conv=>whnf);refine sr ?_;(conv=>whnf);refine sr ?_;(conv=>whnf);refine Both.mk ?_ trivial;(conv=>whnf);refine Side.mk rfl (ArrC.mk (List.map I [c62.fGames.a0, c62.fGames.a1, c62.fGames.a2]) rfl rfl (map_cells _ fun _ => rfl) ?_);(conv=>whnf);refine sr ?_;(conv=>whnf);refine nl ?_;(conv=>whnf);refine nl ?_;(conv=>whnf);refine sr ?_;(conv=>whnf);refine nl ?_;(conv=>whnf);refine Both.mk ?_ trivial;(conv=>whnf)
        refine CallG.pure _ (rateSumC hN hx102) ?_;(conv=>whnf);refine sr ?_;(conv=>whnf);refine nl ?_;(conv=>whnf);refine nl ?_;(conv=>whnf);refine sr ?_;(conv=>whnf);refine nl ?_;(conv=>whnf);refine Both.mk ?_ trivial;(conv=>whnf);intro hd48;(conv=>whnf);refine nl ?_;(conv=>whnf);refine sr ?_;(conv=>whnf);refine nl ?_;(conv=>whnf);refine Both.mk ?_ trivial;(conv=>whnf);refine sr ?_;(conv=>whnf);refine CallG.pure _ (rateSumC hN hx103) ?_;(conv=>whnf);refine nl ?_;(conv=>whnf);refine sr ?_;(conv=>whnf);refine nl ?_;(conv=>whnf);refine Both.mk ?_ trivial;(conv=>whnf);refine sr ?_;(conv=>whnf);refine Both.mk ?_ trivial;(conv=>whnf);refine sr ?_;cases hx101;(conv=>whnf);refine ⟨(), trivial, Sub.eq rfl ?_ ?_⟩
        ·(repeat ((conv=>whnf);refine nr ?_));exact trivial
        ·(conv=>whnf);refine no ?_;(conv=>whnf);refine no ?_;(conv=>whnf);refine no ?_;(conv=>whnf);refine no ?_;(conv=>whnf);refine no ?_;(conv=>whnf);refine no ?_;exact trivial
       ·replace hx101 := ite_f hc36 hx101;cases hx101;(conv=>whnf);refine ⟨(), trivial, Sub.eq rfl ?_ ?_⟩
        ·(repeat ((conv=>whnf);refine nr ?_));exact trivial
        ·(conv=>whnf);refine no ?_;(conv=>whnf);refine no ?_;(conv=>whnf);refine no ?_;(conv=>whnf);refine no ?_;(conv=>whnf);refine no ?_;(conv=>whnf);refine no ?_;exact trivial
      ·rintro _ _;(conv=>whnf);refine ⟨(n2, (w64 (games8 + 1), c63, c64)), hl2, Sub.eq rfl ?_ ?_, Nat.lt_succ_self _⟩
       ·(repeat ((conv=>whnf);refine nr ?_));exact trivial
       ·(conv=>whnf);refine no ?_;(conv=>whnf);refine no ?_;(conv=>whnf);refine no ?_;(conv=>whnf);refine no ?_;(conv=>whnf);refine no ?_;(conv=>whnf);refine no ?_;exact trivial
    ·replace hl2 := ite_f hc32 hl2;(conv=>whnf);refine Side.mk ⟨rfl, rfl⟩ ?_;cases hl2;(conv=>whnf);refine ⟨(), trivial, Sub.eq rfl ?_ ?_⟩
     ·(repeat ((conv=>whnf);refine nr ?_));exact trivial
     ·(conv=>whnf);refine no ?_;(conv=>whnf);refine no ?_;(conv=>whnf);refine no ?_;(conv=>whnf);refine no ?_;exact trivial
  ·rintro _ _;(conv=>whnf);refine DrawG.mk (.take 0 (.take 1 (.take 2 (.take 3 (.take 4 (.take 5 (.take 6 (.take 7 .done)))))))) (by kernel_rfl) ?_;(conv=>whnf);refine sr ?_;(conv=>whnf);refine sr ?_;(conv=>whnf);refine Br.mk (fun hc38 => ?_) (fun hc38 => ?_)
   ·replace h := ite_t hc38 h;(conv=>whnf);refine sr ?_;obtain ⟨x4, hx107, h⟩ := obind h;(conv=>whnf);refine Side.mk rfl ⟨_, idx_0 hx107, idx_map _ hx107, ?_⟩;(conv=>whnf);cases h;exact ⟨(), trivial, rfl, inO_at (ren := id) (And.intro rfl (And.intro rfl trivial))⟩
   ·replace h := ite_f hc38 h;(conv=>whnf);refine sr ?_;(conv=>whnf);refine sr ?_;obtain ⟨_, hx109, h⟩ := obind h;(conv=>whnf);refine Need.mk (nz_ne hx109) ?_;(conv=>whnf);cases h;exact ⟨(), trivial, rfl, inO_at (ren := id) (And.intro rfl (And.intro rfl trivial))⟩
theorem rateReadHandicapC {N : Nat} (hN : N ≤ 1073741824) {bowler1 : Int} {before1 : Int} {c1 : Int} {c2 : Int} {c3 : Int} {c4 : Int} {c5 : Int} {c6 : List Int} {c7 : List RateSheet} {c8 : List Int} {m1 : List (RateTurn × RateSheet)} {bo1 : Nat} {bo2 : Nat} {r : Int} (h : rateReadHandicap N bowler1 before1 c1 c2 c3 c4 c5 c6 c7 c8 m1 = some r) :
    ACalls Tryz.prog 67 [.ptr 145019 bo1 0, .d (I bowler1), .d (I before1)] [(145019, .cells bo1 [.d (I c1), .d (I c2), .d (I c3), .d (I c4), .d (I c5), .d (.list 1 (List.map I c6)), .d (.list 6 (List.map RateSheet.enc c7)), .d (.list 1 (List.map I c8)), .mp 145017 bo2]), (145017, .map bo2 (List.map (fun p => (.agg [I p.1.fBowler, I p.1.fWeek], .agg [I p.2.fNumber, I p.2.fBowler, I p.2.fWeek, I p.2.fGames.a0, I p.2.fGames.a1, I p.2.fGames.a2])) m1))] fun ae os => ∃ y : Unit, True ∧ ae = .ret (.d (I r)) ∧ os = [(145019, .cells bo1 [.d (I c1), .d (I c2), .d (I c3), .d (I c4), .d (I c5), .d (.list 1 (List.map I c6)), .d (.list 6 (List.map RateSheet.enc c7)), .d (.list 1 (List.map I c8)), .mp 145017 bo2]), (145017, .map bo2 (List.map (fun p => (.agg [I p.1.fBowler, I p.1.fWeek], .agg [I p.2.fNumber, I p.2.fBowler, I p.2.fWeek, I p.2.fGames.a0, I p.2.fGames.a1, I p.2.fGames.a2])) m1))] := by
  refine acalls_own (fresh := false) tt_ok dr_ok ⟨[], [], [], [], [], 150000, []⟩ Tryz.func67 rfl Tryz.call67 rfl ?_
  unfold rateReadHandicap at h
  obtain ⟨r2, hx2, h⟩ := obind h;(conv=>whnf);refine DrawG.mk (.take 0 (.take 1 (.take 2 (.take 3 (.take 4 (.take 5 (.take 6 (.take 7 (.take 8 (.take 11 (.take 12 (.take 13 (.take 14 (.take 15 (.take 16 (.alt 9 [16, 15, 14, 13, 12, 11, 5, 4, 3, 2, 1, 0] (.take 10 (.take 17 (.take 18 (.take 19 .done)))) .nil)))))))))))))))) (by kernel_rfl) ?_;(conv=>whnf);refine sr ?_;(conv=>whnf);refine sr ?_;(conv=>whnf);refine Both.mk ?_ trivial;(conv=>whnf)
  refine CallG.own (rateReadAverageC (bo1 := bo1) (bo2 := bo2) hN hx2) id [] _ (fun y => [(145019, .cells bo1 [.d (I c1), .d (I c2), .d (I c3), .d (I c4), .d (I c5), .d (.list 1 (List.map I c6)), .d (.list 6 (List.map RateSheet.enc c7)), .d (.list 1 (List.map I c8)), .mp 145017 bo2]), (145017, .map bo2 (List.map (fun p => (.agg [I p.1.fBowler, I p.1.fWeek], .agg [I p.2.fNumber, I p.2.fBowler, I p.2.fWeek, I p.2.fGames.a0, I p.2.fGames.a1, I p.2.fGames.a2])) m1))]) (all2_le_refl _) (And.intro rfl (And.intro rfl trivial)) rfl (And.intro rfl (And.intro rfl trivial)) trivial (fun _ => AV.le_refl _) (fun _ => rfl) ?_;rintro _ _;(conv=>whnf);refine sr ?_;(conv=>whnf);refine nl ?_;(conv=>whnf);refine nl ?_;(conv=>whnf);refine nl ?_;(conv=>whnf);refine nl ?_;(conv=>whnf);refine nl ?_;(conv=>whnf);refine nl ?_;(conv=>whnf);refine sr ?_;(conv=>whnf);refine nl ?_;(conv=>whnf);refine nl ?_
  (conv=>whnf);refine nl ?_;(conv=>whnf);refine nl ?_;(conv=>whnf);refine nl ?_;(conv=>whnf);refine nl ?_;(conv=>whnf);refine Need.mk (by decide) ?_;(conv=>whnf);refine sr ?_;(conv=>whnf);cases h;exact ⟨(), trivial, rfl, inO_at (ren := id) (And.intro rfl (And.intro rfl trivial))⟩
theorem rateReadMakesC {N : Nat} (hN : N ≤ 1073741824) {bowler1 : Int} {w1 : Int} {c1 : Int} {c2 : Int} {c3 : Int} {c4 : Int} {c5 : Int} {c6 : List Int} {c7 : List RateSheet} {c8 : List Int} {m1 : List (RateTurn × RateSheet)} {bo1 : Nat} {bo2 : Nat} {r : (Ar3 Int)} (h : rateReadMakes N bowler1 w1 c1 c2 c3 c4 c5 c6 c7 c8 m1 = some r) :
    ACalls Tryz.prog 32 [.ptr 145019 bo1 0, .d (I bowler1), .d (I w1)] [(145019, .cells bo1 [.d (I c1), .d (I c2), .d (I c3), .d (I c4), .d (I c5), .d (.list 1 (List.map I c6)), .d (.list 6 (List.map RateSheet.enc c7)), .d (.list 1 (List.map I c8)), .mp 145017 bo2]), (145017, .map bo2 (List.map (fun p => (.agg [I p.1.fBowler, I p.1.fWeek], .agg [I p.2.fNumber, I p.2.fBowler, I p.2.fWeek, I p.2.fGames.a0, I p.2.fGames.a1, I p.2.fGames.a2])) m1))] fun ae os => ∃ y : Unit, True ∧ ae = .ret (.d (.agg [I r.a0, I r.a1, I r.a2])) ∧ os = [(145019, .cells bo1 [.d (I c1), .d (I c2), .d (I c3), .d (I c4), .d (I c5), .d (.list 1 (List.map I c6)), .d (.list 6 (List.map RateSheet.enc c7)), .d (.list 1 (List.map I c8)), .mp 145017 bo2]), (145017, .map bo2 (List.map (fun p => (.agg [I p.1.fBowler, I p.1.fWeek], .agg [I p.2.fNumber, I p.2.fBowler, I p.2.fWeek, I p.2.fGames.a0, I p.2.fGames.a1, I p.2.fGames.a2])) m1))] := by
  refine acalls_own (fresh := false) tt_ok dr_ok ⟨[], [], [], [], [1006], 150000, []⟩ Tryz.func32 rfl Tryz.call32 rfl ?_
  unfold rateReadMakes at h
  (conv=>whnf);intro b2;(conv=>whnf);refine sr ?_;obtain ⟨⟨v2, is2⟩, hx2, h⟩ := obind h;(conv=>whnf);refine Side.mk rfl (Need.mk rfl (Need.mk (fit_all (m := m1) (fun x : RateTurn => .agg [I x.fBowler, I x.fWeek]) (fun x : RateSheet => .agg [I x.fNumber, I x.fBowler, I x.fWeek, I x.fGames.a0, I x.fGames.a1, I x.fGames.a2]) fun _ => rfl) (LkG.mk (.agg [I v2.fNumber, I v2.fBowler, I v2.fWeek, I v2.fGames.a0, I v2.fGames.a1, I v2.fGames.a2]) is2 (mgt_v (eK := (fun x : RateTurn => .agg [I x.fBowler, I x.fWeek])) (eV := (fun x : RateSheet => .agg [I x.fNumber, I x.fBowler, I x.fWeek, I x.fGames.a0, I x.fGames.a1, I x.fGames.a2])) RateTurn.eqc hx2) (mgt_b (eK := (fun x : RateTurn => .agg [I x.fBowler, I x.fWeek])) (eV := (fun x : RateSheet => .agg [I x.fNumber, I x.fBowler, I x.fWeek, I x.fGames.a0, I x.fGames.a1, I x.fGames.a2])) RateTurn.eqc hx2) ?_)));(conv=>whnf);intro b4;(conv=>whnf)
  refine sr ?_;(conv=>whnf);refine LoopG.unr 4 ?_;obtain ⟨r23, hx32, h⟩ := obind h;(conv=>whnf);refine DrawG.mk (.take 0 (.take 1 (.take 2 (.take 3 (.take 5 (.take 6 (.take 7 (.take 8 (.take 9 (.take 10 (.alt 4 [10, 9, 8, 7, 6, 5, 0] (.take 11 (.take 12 (.take 13 (.alt 14 [] .done .nil)))) .nil))))))))))) (by kernel_rfl) ?_;(conv=>whnf);refine sr ?_;(conv=>whnf);refine Both.mk ?_ trivial;(conv=>whnf)
  refine CallG.own (rateReadAverageC (bo1 := bo1) (bo2 := bo2) hN hx32) id [(150006, .cells b2 [.d (I 0), .d (I 0), .d (I 0)]), (150007, .cells b4 [.d (I v2.fNumber), .d (I v2.fBowler), .d (I v2.fWeek), .d (I v2.fGames.a0), .d (I v2.fGames.a1), .d (I v2.fGames.a2)])] _ (fun y => [(145019, .cells bo1 [.d (I c1), .d (I c2), .d (I c3), .d (I c4), .d (I c5), .d (.list 1 (List.map I c6)), .d (.list 6 (List.map RateSheet.enc c7)), .d (.list 1 (List.map I c8)), .mp 145017 bo2]), (145017, .map bo2 (List.map (fun p => (.agg [I p.1.fBowler, I p.1.fWeek], .agg [I p.2.fNumber, I p.2.fBowler, I p.2.fWeek, I p.2.fGames.a0, I p.2.fGames.a1, I p.2.fGames.a2])) m1)), (150006, .cells b2 [.d (I 0), .d (I 0), .d (I 0)]), (150007, .cells b4 [.d (I v2.fNumber), .d (I v2.fBowler), .d (I v2.fWeek), .d (I v2.fGames.a0), .d (I v2.fGames.a1), .d (I v2.fGames.a2)])]) (all2_le_refl _) (And.intro rfl (And.intro rfl trivial)) rfl (And.intro rfl (And.intro rfl trivial)) (And.intro rfl (And.intro rfl trivial)) (fun _ => AV.le_refl _) (fun _ => rfl) ?_
  rintro _ _;(conv=>whnf);refine sr ?_;(conv=>whnf);refine nl ?_;(conv=>whnf);refine nl ?_;(conv=>whnf);refine nl ?_;(conv=>whnf);refine nl ?_;(conv=>whnf);refine nl ?_;(conv=>whnf);refine nl ?_;(conv=>whnf);refine nl ?_;(conv=>whnf);refine IxG.mk 0 rfl (by decide) ?_;(conv=>whnf);refine Both.mk ?_ trivial;(conv=>whnf);refine sr ?_;obtain ⟨c16, hx33, h⟩ := obind h;(conv=>whnf)
  refine SeqG.mk Unit (fun y => [(0, .ptr 145019 bo1 0), (1, .d (I bowler1)), (2, .d (I w1)), (6, .ptr 150006 b2 0), (7, .ptr 150007 b4 0), (8, .d (.bool is2)), (9, .i .i64 0), (21, .i .i64 0)]) (fun y => [(145019, .cells bo1 [.d (I c1), .d (I c2), .d (I c3), .d (I c4), .d (I c5), .d (.list 1 (List.map I c6)), .d (.list 6 (List.map RateSheet.enc c7)), .d (.list 1 (List.map I c8)), .mp 145017 bo2]), (150006, .cells b2 [.d (I c16.a0), .d (I c16.a1), .d (I c16.a2)]), (150007, .cells b4 [.d (I v2.fNumber), .d (I v2.fBowler), .d (I v2.fWeek), .d (I v2.fGames.a0), .d (I v2.fGames.a1), .d (I v2.fGames.a2)]), (145017, .map bo2 (List.map (fun p => (.agg [I p.1.fBowler, I p.1.fWeek], .agg [I p.2.fNumber, I p.2.fBowler, I p.2.fWeek, I p.2.fGames.a0, I p.2.fGames.a1, I p.2.fGames.a2])) m1))]) (fun _ => True) ?_ ?_
  ·(conv=>whnf);refine Br.mk (fun hc16 => ?_) (fun hc16 => ?_)
   ·replace hx33 := ite_t hc16 hx33;(conv=>whnf);refine IxG.mk 0 rfl (by decide) ?_;(conv=>whnf);refine sr ?_;(conv=>whnf);refine IxG.mk 0 rfl (by decide) ?_;(conv=>whnf);refine sr ?_;cases hx33;(conv=>whnf);refine ⟨(), trivial, Sub.eq rfl ?_ ?_⟩
    ·(repeat ((conv=>whnf);refine nr ?_));exact trivial
    ·(conv=>whnf);refine no ?_;(conv=>whnf);refine no ?_;(conv=>whnf);refine no ?_;(conv=>whnf);refine no ?_;exact trivial
   ·replace hx33 := ite_f hc16 hx33;cases hx33;(conv=>whnf);refine ⟨(), trivial, Sub.eq rfl ?_ ?_⟩
    ·(repeat ((conv=>whnf);refine nr ?_));exact trivial
    ·(conv=>whnf);refine no ?_;(conv=>whnf);refine no ?_;(conv=>whnf);refine no ?_;(conv=>whnf);refine no ?_;exact trivial
  ·rintro _ _;obtain ⟨r24, hx34, h⟩ := obind h;(conv=>whnf);refine DrawG.mk (.take 0 (.take 1 (.take 2 (.take 3 (.take 4 (.take 5 (.alt 6 [2, 1, 0] (.take 7 (.take 8 (.alt 9 [] .done .nil))) .nil))))))) (by kernel_rfl) ?_;(conv=>whnf);refine IxG.mk 0 rfl (by decide) ?_;(conv=>whnf);refine sr ?_;(conv=>whnf);refine Both.mk ?_ trivial;(conv=>whnf)
   refine CallG.own (rateReadHandicapC (bo1 := bo1) (bo2 := bo2) hN hx34) id [(150006, .cells b2 [.d (I c16.a0), .d (I c16.a1), .d (I c16.a2)]), (150007, .cells b4 [.d (I v2.fNumber), .d (I v2.fBowler), .d (I v2.fWeek), .d (I v2.fGames.a0), .d (I v2.fGames.a1), .d (I v2.fGames.a2)])] _ (fun y => [(145019, .cells bo1 [.d (I c1), .d (I c2), .d (I c3), .d (I c4), .d (I c5), .d (.list 1 (List.map I c6)), .d (.list 6 (List.map RateSheet.enc c7)), .d (.list 1 (List.map I c8)), .mp 145017 bo2]), (145017, .map bo2 (List.map (fun p => (.agg [I p.1.fBowler, I p.1.fWeek], .agg [I p.2.fNumber, I p.2.fBowler, I p.2.fWeek, I p.2.fGames.a0, I p.2.fGames.a1, I p.2.fGames.a2])) m1)), (150006, .cells b2 [.d (I c16.a0), .d (I c16.a1), .d (I c16.a2)]), (150007, .cells b4 [.d (I v2.fNumber), .d (I v2.fBowler), .d (I v2.fWeek), .d (I v2.fGames.a0), .d (I v2.fGames.a1), .d (I v2.fGames.a2)])]) (all2_le_refl _) (And.intro rfl (And.intro rfl trivial)) rfl (And.intro rfl (And.intro rfl trivial)) (And.intro rfl (And.intro rfl trivial)) (fun _ => AV.le_refl _) (fun _ => rfl) ?_
   rintro _ _;(conv=>whnf);refine sr ?_;(conv=>whnf);refine nl ?_;(conv=>whnf);refine IxG.mk 0 rfl (by decide) ?_;(conv=>whnf);refine nl ?_;(conv=>whnf);refine nl ?_;(conv=>whnf);refine IxG.mk 0 rfl (by decide) ?_;(conv=>whnf);refine Both.mk ?_ trivial;(conv=>whnf);refine sr ?_;obtain ⟨r29, hx40, h⟩ := obind h;(conv=>whnf);refine DrawG.mk (.take 0 (.take 1 (.take 2 (.take 3 (.take 5 (.take 6 (.take 7 (.take 8 (.take 9 (.take 10 (.alt 4 [10, 9, 8, 7, 6, 5, 0] (.take 11 (.take 12 (.take 13 (.alt 14 [] .done .nil)))) .nil))))))))))) (by kernel_rfl) ?_;(conv=>whnf);refine sr ?_;(conv=>whnf);refine Both.mk ?_ trivial;(conv=>whnf)
   refine CallG.own (rateReadAverageC (bo1 := bo1) (bo2 := bo2) hN hx40) id [(150006, .cells b2 [.d (I (w64 (c16.a0 + r24))), .d (I c16.a1), .d (I c16.a2)]), (150007, .cells b4 [.d (I v2.fNumber), .d (I v2.fBowler), .d (I v2.fWeek), .d (I v2.fGames.a0), .d (I v2.fGames.a1), .d (I v2.fGames.a2)])] _ (fun y => [(145019, .cells bo1 [.d (I c1), .d (I c2), .d (I c3), .d (I c4), .d (I c5), .d (.list 1 (List.map I c6)), .d (.list 6 (List.map RateSheet.enc c7)), .d (.list 1 (List.map I c8)), .mp 145017 bo2]), (145017, .map bo2 (List.map (fun p => (.agg [I p.1.fBowler, I p.1.fWeek], .agg [I p.2.fNumber, I p.2.fBowler, I p.2.fWeek, I p.2.fGames.a0, I p.2.fGames.a1, I p.2.fGames.a2])) m1)), (150006, .cells b2 [.d (I (w64 (c16.a0 + r24))), .d (I c16.a1), .d (I c16.a2)]), (150007, .cells b4 [.d (I v2.fNumber), .d (I v2.fBowler), .d (I v2.fWeek), .d (I v2.fGames.a0), .d (I v2.fGames.a1), .d (I v2.fGames.a2)])]) (all2_le_refl _) (And.intro rfl (And.intro rfl trivial)) rfl (And.intro rfl (And.intro rfl trivial)) (And.intro rfl (And.intro rfl trivial)) (fun _ => AV.le_refl _) (fun _ => rfl) ?_
   rintro _ _;(conv=>whnf);refine sr ?_;(conv=>whnf);refine nl ?_;(conv=>whnf);refine nl ?_;(conv=>whnf);refine nl ?_;(conv=>whnf);refine nl ?_;(conv=>whnf);refine nl ?_;(conv=>whnf);refine nl ?_;(conv=>whnf);refine nl ?_;(conv=>whnf);refine IxG.mk 1 rfl (by decide) ?_;(conv=>whnf);refine Both.mk ?_ trivial;(conv=>whnf);refine sr ?_;obtain ⟨c18, hx41, h⟩ := obind h;(conv=>whnf)
   refine SeqG.mk Unit (fun y => [(0, .ptr 145019 bo1 0), (1, .d (I bowler1)), (2, .d (I w1)), (6, .ptr 150006 b2 0), (7, .ptr 150007 b4 0), (8, .d (.bool is2)), (9, .i .i64 1), (21, .i .i64 1)]) (fun y => [(145019, .cells bo1 [.d (I c1), .d (I c2), .d (I c3), .d (I c4), .d (I c5), .d (.list 1 (List.map I c6)), .d (.list 6 (List.map RateSheet.enc c7)), .d (.list 1 (List.map I c8)), .mp 145017 bo2]), (150006, .cells b2 [.d (I c18.a0), .d (I c18.a1), .d (I c18.a2)]), (150007, .cells b4 [.d (I v2.fNumber), .d (I v2.fBowler), .d (I v2.fWeek), .d (I v2.fGames.a0), .d (I v2.fGames.a1), .d (I v2.fGames.a2)]), (145017, .map bo2 (List.map (fun p => (.agg [I p.1.fBowler, I p.1.fWeek], .agg [I p.2.fNumber, I p.2.fBowler, I p.2.fWeek, I p.2.fGames.a0, I p.2.fGames.a1, I p.2.fGames.a2])) m1))]) (fun _ => True) ?_ ?_
   ·(conv=>whnf);refine Br.mk (fun hc20 => ?_) (fun hc20 => ?_)
    ·replace hx41 := ite_t hc20 hx41;(conv=>whnf);refine IxG.mk 1 rfl (by decide) ?_;(conv=>whnf);refine sr ?_;(conv=>whnf);refine IxG.mk 1 rfl (by decide) ?_;(conv=>whnf);refine sr ?_;cases hx41;(conv=>whnf);refine ⟨(), trivial, Sub.eq rfl ?_ ?_⟩
     ·(repeat ((conv=>whnf);refine nr ?_));exact trivial
     ·(conv=>whnf);refine no ?_;(conv=>whnf);refine no ?_;(conv=>whnf);refine no ?_;(conv=>whnf);refine no ?_;exact trivial
    ·replace hx41 := ite_f hc20 hx41;cases hx41;(conv=>whnf);refine ⟨(), trivial, Sub.eq rfl ?_ ?_⟩
     ·(repeat ((conv=>whnf);refine nr ?_));exact trivial
     ·(conv=>whnf);refine no ?_;(conv=>whnf);refine no ?_;(conv=>whnf);refine no ?_;(conv=>whnf);refine no ?_;exact trivial
   ·rintro _ _;obtain ⟨r30, hx42, h⟩ := obind h;(conv=>whnf);refine DrawG.mk (.take 0 (.take 1 (.take 2 (.take 3 (.take 4 (.take 5 (.alt 6 [2, 1, 0] (.take 7 (.take 8 (.alt 9 [] .done .nil))) .nil))))))) (by kernel_rfl) ?_;(conv=>whnf);refine IxG.mk 1 rfl (by decide) ?_;(conv=>whnf);refine sr ?_;(conv=>whnf);refine Both.mk ?_ trivial;(conv=>whnf)
    refine CallG.own (rateReadHandicapC (bo1 := bo1) (bo2 := bo2) hN hx42) id [(150006, .cells b2 [.d (I c18.a0), .d (I c18.a1), .d (I c18.a2)]), (150007, .cells b4 [.d (I v2.fNumber), .d (I v2.fBowler), .d (I v2.fWeek), .d (I v2.fGames.a0), .d (I v2.fGames.a1), .d (I v2.fGames.a2)])] _ (fun y => [(145019, .cells bo1 [.d (I c1), .d (I c2), .d (I c3), .d (I c4), .d (I c5), .d (.list 1 (List.map I c6)), .d (.list 6 (List.map RateSheet.enc c7)), .d (.list 1 (List.map I c8)), .mp 145017 bo2]), (145017, .map bo2 (List.map (fun p => (.agg [I p.1.fBowler, I p.1.fWeek], .agg [I p.2.fNumber, I p.2.fBowler, I p.2.fWeek, I p.2.fGames.a0, I p.2.fGames.a1, I p.2.fGames.a2])) m1)), (150006, .cells b2 [.d (I c18.a0), .d (I c18.a1), .d (I c18.a2)]), (150007, .cells b4 [.d (I v2.fNumber), .d (I v2.fBowler), .d (I v2.fWeek), .d (I v2.fGames.a0), .d (I v2.fGames.a1), .d (I v2.fGames.a2)])]) (all2_le_refl _) (And.intro rfl (And.intro rfl trivial)) rfl (And.intro rfl (And.intro rfl trivial)) (And.intro rfl (And.intro rfl trivial)) (fun _ => AV.le_refl _) (fun _ => rfl) ?_
    rintro _ _;(conv=>whnf);refine sr ?_;(conv=>whnf);refine nl ?_;(conv=>whnf);refine IxG.mk 1 rfl (by decide) ?_;(conv=>whnf);refine nl ?_;(conv=>whnf);refine nl ?_;(conv=>whnf);refine IxG.mk 1 rfl (by decide) ?_;(conv=>whnf);refine Both.mk ?_ trivial;(conv=>whnf);refine sr ?_;obtain ⟨r35, hx48, h⟩ := obind h;(conv=>whnf);refine DrawG.mk (.take 0 (.take 1 (.take 2 (.take 3 (.take 5 (.take 6 (.take 7 (.take 8 (.take 9 (.take 10 (.alt 4 [10, 9, 8, 7, 6, 5, 0] (.take 11 (.take 12 (.take 13 (.alt 14 [] .done .nil)))) .nil))))))))))) (by kernel_rfl) ?_;(conv=>whnf);refine sr ?_;(conv=>whnf);refine Both.mk ?_ trivial;(conv=>whnf)
    refine CallG.own (rateReadAverageC (bo1 := bo1) (bo2 := bo2) hN hx48) id [(150006, .cells b2 [.d (I c18.a0), .d (I (w64 (c18.a1 + r30))), .d (I c18.a2)]), (150007, .cells b4 [.d (I v2.fNumber), .d (I v2.fBowler), .d (I v2.fWeek), .d (I v2.fGames.a0), .d (I v2.fGames.a1), .d (I v2.fGames.a2)])] _ (fun y => [(145019, .cells bo1 [.d (I c1), .d (I c2), .d (I c3), .d (I c4), .d (I c5), .d (.list 1 (List.map I c6)), .d (.list 6 (List.map RateSheet.enc c7)), .d (.list 1 (List.map I c8)), .mp 145017 bo2]), (145017, .map bo2 (List.map (fun p => (.agg [I p.1.fBowler, I p.1.fWeek], .agg [I p.2.fNumber, I p.2.fBowler, I p.2.fWeek, I p.2.fGames.a0, I p.2.fGames.a1, I p.2.fGames.a2])) m1)), (150006, .cells b2 [.d (I c18.a0), .d (I (w64 (c18.a1 + r30))), .d (I c18.a2)]), (150007, .cells b4 [.d (I v2.fNumber), .d (I v2.fBowler), .d (I v2.fWeek), .d (I v2.fGames.a0), .d (I v2.fGames.a1), .d (I v2.fGames.a2)])]) (all2_le_refl _) (And.intro rfl (And.intro rfl trivial)) rfl (And.intro rfl (And.intro rfl trivial)) (And.intro rfl (And.intro rfl trivial)) (fun _ => AV.le_refl _) (fun _ => rfl) ?_
    rintro _ _;(conv=>whnf);refine sr ?_;(conv=>whnf);refine nl ?_;(conv=>whnf);refine nl ?_;(conv=>whnf);refine nl ?_;(conv=>whnf);refine nl ?_;(conv=>whnf);refine nl ?_;(conv=>whnf);refine nl ?_;(conv=>whnf);refine nl ?_;(conv=>whnf);refine IxG.mk 2 rfl (by decide) ?_;(conv=>whnf);refine Both.mk ?_ trivial;(conv=>whnf);refine sr ?_;obtain ⟨c20, hx49, h⟩ := obind h;(conv=>whnf)
    refine SeqG.mk Unit (fun y => [(0, .ptr 145019 bo1 0), (1, .d (I bowler1)), (2, .d (I w1)), (6, .ptr 150006 b2 0), (7, .ptr 150007 b4 0), (8, .d (.bool is2)), (9, .i .i64 2), (21, .i .i64 2)]) (fun y => [(145019, .cells bo1 [.d (I c1), .d (I c2), .d (I c3), .d (I c4), .d (I c5), .d (.list 1 (List.map I c6)), .d (.list 6 (List.map RateSheet.enc c7)), .d (.list 1 (List.map I c8)), .mp 145017 bo2]), (150006, .cells b2 [.d (I c20.a0), .d (I c20.a1), .d (I c20.a2)]), (150007, .cells b4 [.d (I v2.fNumber), .d (I v2.fBowler), .d (I v2.fWeek), .d (I v2.fGames.a0), .d (I v2.fGames.a1), .d (I v2.fGames.a2)]), (145017, .map bo2 (List.map (fun p => (.agg [I p.1.fBowler, I p.1.fWeek], .agg [I p.2.fNumber, I p.2.fBowler, I p.2.fWeek, I p.2.fGames.a0, I p.2.fGames.a1, I p.2.fGames.a2])) m1))]) (fun _ => True) ?_ ?_
    ·(conv=>whnf);refine Br.mk (fun hc24 => ?_) (fun hc24 => ?_)
     ·replace hx49 := ite_t hc24 hx49;(conv=>whnf);refine IxG.mk 2 rfl (by decide) ?_;(conv=>whnf);refine sr ?_;(conv=>whnf);refine IxG.mk 2 rfl (by decide) ?_;(conv=>whnf);refine sr ?_;cases hx49;(conv=>whnf);refine ⟨(), trivial, Sub.eq rfl ?_ ?_⟩
      ·(repeat ((conv=>whnf);refine nr ?_));exact trivial
      ·(conv=>whnf);refine no ?_;(conv=>whnf);refine no ?_;(conv=>whnf);refine no ?_;(conv=>whnf);refine no ?_;exact trivial
     ·replace hx49 := ite_f hc24 hx49;cases hx49;(conv=>whnf);refine ⟨(), trivial, Sub.eq rfl ?_ ?_⟩
      ·(repeat ((conv=>whnf);refine nr ?_));exact trivial
      ·(conv=>whnf);refine no ?_;(conv=>whnf);refine no ?_;(conv=>whnf);refine no ?_;(conv=>whnf);refine no ?_;exact trivial
    ·rintro _ _;obtain ⟨r36, hx50, h⟩ := obind h;(conv=>whnf);refine DrawG.mk (.take 0 (.take 1 (.take 2 (.take 3 (.take 4 (.take 5 (.alt 6 [2, 1, 0] (.take 7 (.take 8 (.alt 9 [] .done .nil))) .nil))))))) (by kernel_rfl) ?_;(conv=>whnf);refine IxG.mk 2 rfl (by decide) ?_;(conv=>whnf);refine sr ?_;(conv=>whnf);refine Both.mk ?_ trivial;(conv=>whnf)
     refine CallG.own (rateReadHandicapC (bo1 := bo1) (bo2 := bo2) hN hx50) id [(150006, .cells b2 [.d (I c20.a0), .d (I c20.a1), .d (I c20.a2)]), (150007, .cells b4 [.d (I v2.fNumber), .d (I v2.fBowler), .d (I v2.fWeek), .d (I v2.fGames.a0), .d (I v2.fGames.a1), .d (I v2.fGames.a2)])] _ (fun y => [(145019, .cells bo1 [.d (I c1), .d (I c2), .d (I c3), .d (I c4), .d (I c5), .d (.list 1 (List.map I c6)), .d (.list 6 (List.map RateSheet.enc c7)), .d (.list 1 (List.map I c8)), .mp 145017 bo2]), (145017, .map bo2 (List.map (fun p => (.agg [I p.1.fBowler, I p.1.fWeek], .agg [I p.2.fNumber, I p.2.fBowler, I p.2.fWeek, I p.2.fGames.a0, I p.2.fGames.a1, I p.2.fGames.a2])) m1)), (150006, .cells b2 [.d (I c20.a0), .d (I c20.a1), .d (I c20.a2)]), (150007, .cells b4 [.d (I v2.fNumber), .d (I v2.fBowler), .d (I v2.fWeek), .d (I v2.fGames.a0), .d (I v2.fGames.a1), .d (I v2.fGames.a2)])]) (all2_le_refl _) (And.intro rfl (And.intro rfl trivial)) rfl (And.intro rfl (And.intro rfl trivial)) (And.intro rfl (And.intro rfl trivial)) (fun _ => AV.le_refl _) (fun _ => rfl) ?_
     rintro _ _;(conv=>whnf);refine sr ?_;(conv=>whnf);refine nl ?_;(conv=>whnf);refine IxG.mk 2 rfl (by decide) ?_;(conv=>whnf);refine nl ?_;(conv=>whnf);refine nl ?_;(conv=>whnf);refine IxG.mk 2 rfl (by decide) ?_;(conv=>whnf);refine Both.mk ?_ trivial;(conv=>whnf);refine sr ?_;(conv=>whnf);refine sr ?_;(conv=>whnf);refine sr ?_;(conv=>whnf);refine sr ?_;(conv=>whnf);cases h;exact ⟨(), trivial, rfl, inO_at (ren := id) (And.intro rfl (And.intro rfl trivial))⟩
theorem rateMatch1XC {N : Nat} (hN : N ≤ 1073741824) {team1 : List Int} {a1 : Int} {c1 : Int} {c2 : Int} {c3 : Int} {c4 : Int} {c5 : Int} {c6 : List Int} {c7 : List RateSheet} {c8 : List Int} {m1 : List (RateTurn × RateSheet)} {bo1 : Nat} {bo2 : Nat} {bo3 : Nat} {r : (List Int)} (h : rateMatch1X N team1 a1 c1 c2 c3 c4 c5 c6 c7 c8 m1 = some r) :
    ACalls Tryz.prog 31 [.d (.list 1 (List.map I team1)), .ptr 11 bo1 0, .d (.ref (.agg [I a1]))] [(11, .cells bo1 [.ptr 145019 bo2 0]), (145019, .cells bo2 [.d (I c1), .d (I c2), .d (I c3), .d (I c4), .d (I c5), .d (.list 1 (List.map I c6)), .d (.list 6 (List.map RateSheet.enc c7)), .d (.list 1 (List.map I c8)), .mp 145017 bo3]), (145017, .map bo3 (List.map (fun p => (.agg [I p.1.fBowler, I p.1.fWeek], .agg [I p.2.fNumber, I p.2.fBowler, I p.2.fWeek, I p.2.fGames.a0, I p.2.fGames.a1, I p.2.fGames.a2])) m1))] fun ae os => ∃ y : Unit, True ∧ ae = .ret (.d (.list 1 (List.map I r))) ∧ os = [(11, .cells bo1 [.ptr 145019 bo2 0]), (145019, .cells bo2 [.d (I c1), .d (I c2), .d (I c3), .d (I c4), .d (I c5), .d (.list 1 (List.map I c6)), .d (.list 6 (List.map RateSheet.enc c7)), .d (.list 1 (List.map I c8)), .mp 145017 bo3]), (145017, .map bo3 (List.map (fun p => (.agg [I p.1.fBowler, I p.1.fWeek], .agg [I p.2.fNumber, I p.2.fBowler, I p.2.fWeek, I p.2.fGames.a0, I p.2.fGames.a1, I p.2.fGames.a2])) m1))] := by
  refine acalls_own (fresh := false) tt_ok dr_ok ⟨[], [], [], [], [1002], 150000, []⟩ Tryz.func31 rfl Tryz.call31 rfl ?_
  unfold rateMatch1X at h
  obtain ⟨l2, hx2, h⟩ := obind h;(conv=>whnf);refine Need.mk (mkl_need hN hx2 (by decide)) (Eqv.mk (List.map I l2) (mkl_map _ hx2 rfl) ?_);(conv=>whnf);intro hd2;obtain ⟨l7, hx63, h⟩ := obind h;(conv=>whnf);refine SeqG.mk Unit (fun y => [(4, .sl 150009 hd2)]) (fun y => [(150009, .arr hd2 3 1 false (List.map I l7)), (11, .cells bo1 [.ptr 145019 bo2 0]), (145019, .cells bo2 [.d (I c1), .d (I c2), .d (I c3), .d (I c4), .d (I c5), .d (.list 1 (List.map I c6)), .d (.list 6 (List.map RateSheet.enc c7)), .d (.list 1 (List.map I c8)), .mp 145017 bo3]), (145017, .map bo3 (List.map (fun p => (.agg [I p.1.fBowler, I p.1.fWeek], .agg [I p.2.fNumber, I p.2.fBowler, I p.2.fWeek, I p.2.fGames.a0, I p.2.fGames.a1, I p.2.fGames.a2])) m1))]) (fun _ => True) ?_ ?_
  ·(conv=>whnf);refine LnA.mk _ (List.length_map _) ?_;(conv=>whnf)
   refine LoopG.mk (Nat × (Int × Int × (List Int))) (fun y => [(1, .ptr 11 bo1 0), (2, .d (.ref (.agg [I a1]))), (4, .sl 150009 hd2), (10, .d (.list 1 (List.map I team1))), (11, .d (I y.2.1)), (12, .d (I y.2.2.1))]) (fun y => [(11, .cells bo1 [.ptr 145019 bo2 0]), (150009, .arr hd2 3 1 false (List.map I y.2.2.2)), (145019, .cells bo2 [.d (I c1), .d (I c2), .d (I c3), .d (I c4), .d (I c5), .d (.list 1 (List.map I c6)), .d (.list 6 (List.map RateSheet.enc c7)), .d (.list 1 (List.map I c8)), .mp 145017 bo3]), (145017, .map bo3 (List.map (fun p => (.agg [I p.1.fBowler, I p.1.fWeek], .agg [I p.2.fNumber, I p.2.fBowler, I p.2.fWeek, I p.2.fGames.a0, I p.2.fGames.a1, I p.2.fGames.a2])) m1))]) (fun y => loopN (fun rr x => rateMatch1X_b1 N team1 a1 c1 c2 c3 c4 c5 c6 c7 c8 m1 rr x.1 x.2.1 x.2.2) y.1 y.2 = some l7) (fun y => y.1) (N, ((team1.length : Int), 0, l2)) hx63 (Sub.eq rfl ?_ ?_) ?_
   ·(repeat ((conv=>whnf);refine nr ?_));exact trivial
   ·(conv=>whnf);refine no ?_;(conv=>whnf);refine no ?_;(conv=>whnf);refine no ?_;(conv=>whnf);refine no ?_;exact trivial
   ·rintro ⟨n2, ⟨v17, v18, l11⟩⟩ hl2;obtain ⟨n2, rfl, hl2⟩ := loopN_some hl2;replace hl2 : rateMatch1X_b1 N team1 a1 c1 c2 c3 c4 c5 c6 c7 c8 m1 (loopN (fun rr x => rateMatch1X_b1 N team1 a1 c1 c2 c3 c4 c5 c6 c7 c8 m1 rr x.1 x.2.1 x.2.2) n2) v17 v18 l11 = some l7 := hl2;rw [rateMatch1X_b1] at hl2;(conv=>whnf);refine Br.mk (fun hc12 => ?_) (fun hc12 => ?_)
    ·replace hl2 := ite_t hc12 hl2;obtain ⟨x90, hx115, hl2⟩ := obind hl2;(conv=>whnf);refine Side.mk rfl ⟨_, idx_0 hx115, idx_map _ hx115, ?_⟩;(conv=>whnf);refine sr ?_;obtain ⟨r24, hx117, hl2⟩ := obind hl2;(conv=>whnf)
     refine CallG.own (rateReadMakesC (bo1 := bo2) (bo2 := bo3) hN hx117) id [(11, .cells bo1 [.ptr 145019 bo2 0]), (150009, .arr hd2 3 1 false (List.map I l11))] _ (fun y => [(145019, .cells bo2 [.d (I c1), .d (I c2), .d (I c3), .d (I c4), .d (I c5), .d (.list 1 (List.map I c6)), .d (.list 6 (List.map RateSheet.enc c7)), .d (.list 1 (List.map I c8)), .mp 145017 bo3]), (145017, .map bo3 (List.map (fun p => (.agg [I p.1.fBowler, I p.1.fWeek], .agg [I p.2.fNumber, I p.2.fBowler, I p.2.fWeek, I p.2.fGames.a0, I p.2.fGames.a1, I p.2.fGames.a2])) m1)), (11, .cells bo1 [.ptr 145019 bo2 0]), (150009, .arr hd2 3 1 false (List.map I l11))]) (all2_le_refl _) (And.intro rfl (And.intro rfl trivial)) rfl (And.intro rfl (And.intro rfl trivial)) (And.intro rfl (And.intro rfl trivial)) (fun _ => AV.le_refl _) (fun _ => rfl) ?_;rintro _ _;(conv=>whnf);refine LoopG.unr 4 ?_;(conv=>whnf)
     refine IxG.mk 0 rfl (by decide) ?_;obtain ⟨x92, hx119, hl2⟩ := obind hl2;(conv=>whnf);refine Side.mk ⟨rfl, rfl⟩ (Need.mk (idx_need _ hx119) ?_);(conv=>whnf);refine Side.mk ⟨rfl, rfl⟩ ⟨_, Int.natCast_nonneg _, idx_el _ hx119, ?_⟩;(conv=>whnf);refine Side.mk ⟨rfl, rfl⟩ (Need.mk (idx_need _ hx119) ?_);(conv=>whnf);refine Side.mk ⟨rfl, rfl⟩ ⟨_, Int.natCast_nonneg _, idx_el _ hx119, ?_⟩;(conv=>whnf);refine Eqv.mk (List.map I (List.set l11 (Int.toNat 0) (w64 (x92 + r24.a0)))) (set_map _ _ _ _ rfl) ?_;(conv=>whnf);refine IxG.mk 1 rfl (by decide) ?_;obtain ⟨x94, hx121, hl2⟩ := obind hl2;(conv=>whnf);refine Side.mk ⟨rfl, rfl⟩ (Need.mk (idx_need _ hx121) ?_);(conv=>whnf);refine Side.mk ⟨rfl, rfl⟩ ⟨_, Int.natCast_nonneg _, idx_el _ hx121, ?_⟩;(conv=>whnf);refine Side.mk ⟨rfl, rfl⟩ (Need.mk (idx_need _ hx121) ?_);(conv=>whnf)
     refine Side.mk ⟨rfl, rfl⟩ ⟨_, Int.natCast_nonneg _, idx_el _ hx121, ?_⟩;(conv=>whnf);refine Eqv.mk (List.map I (List.set ((List.set l11 (Int.toNat 0) (w64 (x92 + r24.a0)))) (Int.toNat 1) (w64 (x94 + r24.a1)))) (set_map _ _ _ _ rfl) ?_;(conv=>whnf);refine IxG.mk 2 rfl (by decide) ?_;obtain ⟨x96, hx123, hl2⟩ := obind hl2;(conv=>whnf);refine Side.mk ⟨rfl, rfl⟩ (Need.mk (idx_need _ hx123) ?_);(conv=>whnf);refine Side.mk ⟨rfl, rfl⟩ ⟨_, Int.natCast_nonneg _, idx_el _ hx123, ?_⟩;(conv=>whnf);refine Side.mk ⟨rfl, rfl⟩ (Need.mk (idx_need _ hx123) ?_);(conv=>whnf);refine Side.mk ⟨rfl, rfl⟩ ⟨_, Int.natCast_nonneg _, idx_el _ hx123, ?_⟩;(conv=>whnf);refine Eqv.mk (List.map I (List.set ((List.set ((List.set l11 (Int.toNat 0) (w64 (x92 + r24.a0)))) (Int.toNat 1) (w64 (x94 + r24.a1)))) (Int.toNat 2) (w64 (x96 + r24.a2)))) (set_map _ _ _ _ rfl) ?_;(conv=>whnf)
     refine ⟨(n2, (v17, w64 (v18 + 1), (List.set ((List.set ((List.set l11 (Int.toNat 0) (w64 (x92 + r24.a0)))) (Int.toNat 1) (w64 (x94 + r24.a1)))) (Int.toNat 2) (w64 (x96 + r24.a2))))), hl2, Sub.eq rfl ?_ ?_, Nat.lt_succ_self _⟩
     ·(repeat ((conv=>whnf);refine nr ?_));exact trivial
     ·(conv=>whnf);refine no ?_;(conv=>whnf);refine no ?_;(conv=>whnf);refine no ?_;(conv=>whnf);refine no ?_;exact trivial
    ·replace hl2 := ite_f hc12 hl2;cases hl2;(conv=>whnf);refine ⟨(), trivial, Sub.eq rfl ?_ ?_⟩
     ·(repeat ((conv=>whnf);refine nr ?_));exact trivial
     ·(conv=>whnf);refine no ?_;(conv=>whnf);refine no ?_;(conv=>whnf);refine no ?_;(conv=>whnf);refine no ?_;exact trivial
  ·rintro _ _;obtain ⟨r26, hx126, h⟩ := obind h;(conv=>whnf);refine sr ?_;(conv=>whnf);refine CallG.pure _ (rateSumC hN hx126) ?_;(conv=>whnf);intro hd5;obtain ⟨l13, hx127, h⟩ := obind h;(conv=>whnf);refine Side.mk ⟨rfl, rfl⟩ ?_;(conv=>whnf);refine Side.mk ⟨rfl, rfl, rfl⟩ (Need.mk (app_need hN hx127 (by decide)) (Eqv.mk (List.map I l13) (app_map _ hx127) ?_));(conv=>whnf);intro hd6;(conv=>whnf);refine sr ?_;(conv=>whnf);cases h;exact ⟨(), trivial, rfl, inO_at (ren := id) (And.intro rfl (And.intro rfl (And.intro rfl trivial)))⟩
theorem rateMatchC {N : Nat} (hN : N ≤ 1073741824) {b1 : RateBook} {w1 : Int} {home1 : List Int} {away1 : List Int} {r : Int × Int × Int} (h : rateMatch N b1 w1 home1 away1 = some r) :
    ACalls Tryz.prog 10 [.d (.agg [I b1.fLaw.fBase, I b1.fLaw.fPercent, I b1.fLaw.fCap, I b1.fLaw.fLeast, I b1.fLaw.fBlind, .list 1 (List.map I b1.fBowlers), .list 6 (List.map RateSheet.enc b1.fSheets), .list 1 (List.map I b1.fWithdrawn)]), .d (I w1), .d (.list 1 (List.map I home1)), .d (.list 1 (List.map I away1))] [] fun e os => e = .ret (.d (.tup [I r.1, I r.2.1, I r.2.2])) ∧ os = [] := by
  refine acalls_f (fresh := false) tt_ok dr_ok ⟨[4, 5], [], [], [], [2, 1002, 1004, 1010, 1012], 0, []⟩ Tryz.func10 rfl Tryz.call10 rfl ?_
  unfold rateMatch at h
  obtain ⟨z2, hx2, h⟩ := obind h;rcases z2 with r2 | ⟨ra2, rb2, rc2, rd2, re2, rf2, rg2, rh2, ri2, rj2⟩
  ·(conv=>whnf);refine CallG.own (rateBookReadC hN hx2) id [] _ (fun y => []) (all2_le_refl _) trivial rfl trivial trivial (fun _ => AV.le_refl _) (fun _ => rfl) ?_;rintro _ _;(conv=>whnf);intro b8;(conv=>whnf);refine sr ?_;obtain ⟨e2, hx6, h⟩ := obind h;(conv=>whnf);refine SeqG.mk Unit (fun y => [(2, .d (.list 1 (List.map I home1))), (3, .d (.list 1 (List.map I away1))), (4, .d (.ref (.agg [I b1.fLaw.fBase, I b1.fLaw.fPercent, I b1.fLaw.fCap, I b1.fLaw.fLeast, I b1.fLaw.fBlind, .list 1 (List.map I b1.fBowlers), .list 6 (List.map RateSheet.enc b1.fSheets), .list 1 (List.map I b1.fWithdrawn)]))), (5, .d (.ref (.agg [I w1]))), (8, .i .i64 0), (9, .i .i64 0), (10, .d (I e2)), (11, .ptr 11 b8 0)]) (fun y => [(11, .cells b8 [.d .nilptr])]) (fun _ => True) ?_ ?_
   ·obtain ⟨v2, hx8, hx6⟩ := obind hx6;(conv=>whnf);refine SeqG.mk Unit (fun y => [(2, .d (.list 1 (List.map I home1))), (3, .d (.list 1 (List.map I away1))), (4, .d (.ref (.agg [I b1.fLaw.fBase, I b1.fLaw.fPercent, I b1.fLaw.fCap, I b1.fLaw.fLeast, I b1.fLaw.fBlind, .list 1 (List.map I b1.fBowlers), .list 6 (List.map RateSheet.enc b1.fSheets), .list 1 (List.map I b1.fWithdrawn)]))), (5, .d (.ref (.agg [I w1]))), (8, .i .i64 0), (9, .i .i64 0), (10, .d (I r2)), (11, .ptr 11 b8 0), (28, .d (.bool v2))]) (fun y => [(11, .cells b8 [.d .nilptr])]) (fun _ => True) ?_ ?_
    ·(conv=>whnf);refine Br.mk (fun hc5 => ?_) (fun hc5 => ?_)
     ·replace hx8 := ite_t hc5 hx8;obtain ⟨r6, hx9, hx8⟩ := obind hx8;(conv=>whnf);refine CallG.pure _ (rateWeekC hN hx9) ?_;cases hx8;(conv=>whnf);refine ⟨(), trivial, Sub.eq rfl ?_ ?_⟩
      ·(repeat ((conv=>whnf);refine nr ?_));exact trivial
      ·(conv=>whnf);refine no ?_;exact trivial
     ·replace hx8 := ite_f hc5 hx8;cases hx8;(conv=>whnf);refine ⟨(), trivial, Sub.eq rfl ?_ ?_⟩
      ·(repeat ((conv=>whnf);refine nr ?_));exact trivial
      ·(conv=>whnf);refine no ?_;exact trivial
    ·rintro _ _;(conv=>whnf);refine Br.mk (fun hc6 => ?_) (fun hc6 => ?_)
     ·replace hx6 := ite_t hc6 hx6;cases hx6;(conv=>whnf);refine ⟨(), trivial, Sub.eq rfl ?_ ?_⟩
      ·(repeat ((conv=>whnf);refine nr ?_));exact trivial
      ·(conv=>whnf);refine no ?_;exact trivial
     ·replace hx6 := ite_f hc6 hx6;cases hx6;(conv=>whnf);refine ⟨(), trivial, Sub.eq rfl ?_ ?_⟩
      ·(repeat ((conv=>whnf);refine nr ?_));exact trivial
      ·(conv=>whnf);refine no ?_;exact trivial
   ·rintro _ _;obtain ⟨e3, hx11, h⟩ := obind h;(conv=>whnf);refine SeqG.mk Unit (fun y => [(2, .d (.list 1 (List.map I home1))), (3, .d (.list 1 (List.map I away1))), (5, .d (.ref (.agg [I w1]))), (8, .i .i64 0), (9, .i .i64 0), (10, .d (I e3)), (11, .ptr 11 b8 0)]) (fun y => [(11, .cells b8 [.d .nilptr])]) (fun _ => True) ?_ ?_
    ·(conv=>whnf);refine Br.mk (fun hc8 => ?_) (fun hc8 => ?_)
     ·replace hx11 := ite_t hc8 hx11;obtain ⟨r8, hx12, hx11⟩ := obind hx11;(conv=>whnf);refine CallG.pure _ (rateBookTeamsC hN hx12) ?_;cases hx11;(conv=>whnf);refine ⟨(), trivial, Sub.eq rfl ?_ ?_⟩
      ·(repeat ((conv=>whnf);refine nr ?_));exact trivial
      ·(conv=>whnf);refine no ?_;exact trivial
     ·replace hx11 := ite_f hc8 hx11;cases hx11;(conv=>whnf);refine ⟨(), trivial, Sub.eq rfl ?_ ?_⟩
      ·(repeat ((conv=>whnf);refine nr ?_));exact trivial
      ·(conv=>whnf);refine no ?_;exact trivial
    ·rintro _ _;(conv=>whnf);refine Br.mk (fun hc10 => ?_) (fun hc10 => ?_)
     ·replace h := ite_t hc10 h;(conv=>whnf);cases h;exact rfl
     ·replace h := ite_f hc10 h;obtain ⟨r11, hx15, h⟩ := obind h;(conv=>whnf);refine CallG.own (rateMatch1C (bo1 := b8) hN hx15) id [] _ (fun y => [(11, .cells b8 [.d .nilptr])]) (all2_le_refl _) (And.intro rfl trivial) rfl (And.intro rfl trivial) trivial (fun _ => AV.le_refl _) (fun _ => rfl) ?_;rintro _ _;obtain ⟨r12, hx16, h⟩ := obind h;(conv=>whnf);refine CallG.own (rateMatch1C (bo1 := b8) hN hx16) id [] _ (fun y => [(11, .cells b8 [.d .nilptr])]) (all2_le_refl _) (And.intro rfl trivial) rfl (And.intro rfl trivial) trivial (fun _ => AV.le_refl _) (fun _ => rfl) ?_;rintro _ _;obtain ⟨⟨forHome8, forAway8⟩, hx56, h⟩ := obind h;(conv=>whnf);refine SeqG.mk Unit (fun y => [(8, .d (I forHome8)), (9, .d (I forAway8))]) (fun y => []) (fun _ => True) ?_ ?_
      ·(conv=>whnf);refine LnA.mk _ (List.length_map _) ?_;(conv=>whnf);refine LoopG.mk (Nat × (Int × Int × Int × Int)) (fun y => [(8, .d (I y.2.1)), (9, .d (I y.2.2.1)), (14, .d (.list 1 (List.map I r12))), (45, .d (.list 1 (List.map I r11))), (46, .d (I y.2.2.2.1)), (47, .d (I y.2.2.2.2))]) (fun y => []) (fun y => loopN (fun rr x => rateMatch_b1 N r11 r12 rr x.1 x.2.1 x.2.2.1 x.2.2.2) y.1 y.2 = some (forHome8, forAway8)) (fun y => y.1) (N, (0, 0, (r11.length : Int), 0)) hx56 (Sub.eq rfl ?_ ?_) ?_
       ·(repeat ((conv=>whnf);refine nr ?_));exact trivial
       ·exact trivial
       ·rintro ⟨n2, ⟨forHome14, forAway14, v19, v20⟩⟩ hl2;obtain ⟨n2, rfl, hl2⟩ := loopN_some hl2;replace hl2 : rateMatch_b1 N r11 r12 (loopN (fun rr x => rateMatch_b1 N r11 r12 rr x.1 x.2.1 x.2.2.1 x.2.2.2) n2) forHome14 forAway14 v19 v20 = some (forHome8, forAway8) := hl2;rw [rateMatch_b1] at hl2;(conv=>whnf);refine Br.mk (fun hc62 => ?_) (fun hc62 => ?_)
        ·replace hl2 := ite_t hc62 hl2;obtain ⟨⟨forHome15, forAway15⟩, hx89, hl2⟩ := obind hl2;(conv=>whnf);refine SeqG.mk Unit (fun y => [(8, .d (I forHome15)), (9, .d (I forAway15)), (14, .d (.list 1 (List.map I r12))), (45, .d (.list 1 (List.map I r11))), (46, .d (I v19)), (47, .d (I v20))]) (fun y => []) (fun _ => True) ?_ ?_
         ·obtain ⟨x68, hx91, hx89⟩ := obind hx89;(conv=>whnf);refine Side.mk rfl ⟨_, idx_0 hx91, idx_map _ hx91, ?_⟩;obtain ⟨x72, hx95, hx89⟩ := obind hx89;(conv=>whnf);refine Side.mk rfl ⟨_, idx_0 hx95, idx_map _ hx95, ?_⟩;(conv=>whnf);refine Br.mk (fun hc69 => ?_) (fun hc69 => ?_)
          ·replace hx89 := ite_t hc69 hx89;cases hx89;(conv=>whnf);refine ⟨(), trivial, Sub.eq rfl ?_ ?_⟩
           ·(repeat ((conv=>whnf);refine nr ?_));exact trivial
           ·exact trivial
          ·replace hx89 := ite_f hc69 hx89;(conv=>whnf);refine Side.mk rfl ⟨_, idx_0 hx95, idx_map _ hx95, ?_⟩;(conv=>whnf);refine Br.mk (fun hc70 => ?_) (fun hc70 => ?_)
           ·replace hx89 := ite_t hc70 hx89;cases hx89;(conv=>whnf);refine ⟨(), trivial, Sub.eq rfl ?_ ?_⟩
            ·(repeat ((conv=>whnf);refine nr ?_));exact trivial
            ·exact trivial
           ·replace hx89 := ite_f hc70 hx89;cases hx89;(conv=>whnf);refine ⟨(), trivial, Sub.eq rfl ?_ ?_⟩
            ·(repeat ((conv=>whnf);refine nr ?_));exact trivial
            ·exact trivial
         ·rintro _ _;(conv=>whnf);refine ⟨(n2, (forHome15, forAway15, v19, w64 (v20 + 1))), hl2, Sub.eq rfl ?_ ?_, Nat.lt_succ_self _⟩
          ·(repeat ((conv=>whnf);refine nr ?_));exact trivial
          ·exact trivial
        ·replace hl2 := ite_f hc62 hl2;cases hl2;(conv=>whnf);refine ⟨(), trivial, Sub.eq rfl ?_ ?_⟩
         ·(repeat ((conv=>whnf);refine nr ?_));exact trivial
         ·exact trivial
      ·rintro _ _;(conv=>whnf);cases h;exact rfl
  ·(conv=>whnf);refine CallG.own (rateBookReadC hN hx2) id [] _ (fun y => [(145019, .cells y.1 [.d (I rb2), .d (I rc2), .d (I rd2), .d (I re2), .d (I rf2), .d (.list 1 (List.map I rg2)), .d (.list 6 (List.map RateSheet.enc rh2)), .d (.list 1 (List.map I ri2)), .mp 145017 y.2]), (145017, .map y.2 (List.map (fun p => (.agg [I p.1.fBowler, I p.1.fWeek], .agg [I p.2.fNumber, I p.2.fBowler, I p.2.fWeek, I p.2.fGames.a0, I p.2.fGames.a1, I p.2.fGames.a2])) rj2))]) (all2_le_refl _) trivial rfl trivial trivial (fun _ => AV.le_refl _) (fun _ => rfl) ?_;rintro ⟨b6, b7⟩ _;(conv=>whnf);intro b9;(conv=>whnf);refine sr ?_;obtain ⟨e4, hx99, h⟩ := obind h;(conv=>whnf)
   refine SeqG.mk Unit (fun y => [(2, .d (.list 1 (List.map I home1))), (3, .d (.list 1 (List.map I away1))), (4, .d (.ref (.agg [I b1.fLaw.fBase, I b1.fLaw.fPercent, I b1.fLaw.fCap, I b1.fLaw.fLeast, I b1.fLaw.fBlind, .list 1 (List.map I b1.fBowlers), .list 6 (List.map RateSheet.enc b1.fSheets), .list 1 (List.map I b1.fWithdrawn)]))), (5, .d (.ref (.agg [I w1]))), (8, .i .i64 0), (9, .i .i64 0), (10, .d (I e4)), (11, .ptr 11 b9 0)]) (fun y => [(11, .cells b9 [.ptr 145019 b6 0]), (145019, .cells b6 [.d (I rb2), .d (I rc2), .d (I rd2), .d (I re2), .d (I rf2), .d (.list 1 (List.map I rg2)), .d (.list 6 (List.map RateSheet.enc rh2)), .d (.list 1 (List.map I ri2)), .mp 145017 b7]), (145017, .map b7 (List.map (fun p => (.agg [I p.1.fBowler, I p.1.fWeek], .agg [I p.2.fNumber, I p.2.fBowler, I p.2.fWeek, I p.2.fGames.a0, I p.2.fGames.a1, I p.2.fGames.a2])) rj2))]) (fun _ => True) ?_ ?_
   ·obtain ⟨v22, hx101, hx99⟩ := obind hx99;(conv=>whnf)
    refine SeqG.mk Unit (fun y => [(2, .d (.list 1 (List.map I home1))), (3, .d (.list 1 (List.map I away1))), (4, .d (.ref (.agg [I b1.fLaw.fBase, I b1.fLaw.fPercent, I b1.fLaw.fCap, I b1.fLaw.fLeast, I b1.fLaw.fBlind, .list 1 (List.map I b1.fBowlers), .list 6 (List.map RateSheet.enc b1.fSheets), .list 1 (List.map I b1.fWithdrawn)]))), (5, .d (.ref (.agg [I w1]))), (8, .i .i64 0), (9, .i .i64 0), (10, .d (I ra2)), (11, .ptr 11 b9 0), (28, .d (.bool v22))]) (fun y => [(11, .cells b9 [.ptr 145019 b6 0]), (145019, .cells b6 [.d (I rb2), .d (I rc2), .d (I rd2), .d (I re2), .d (I rf2), .d (.list 1 (List.map I rg2)), .d (.list 6 (List.map RateSheet.enc rh2)), .d (.list 1 (List.map I ri2)), .mp 145017 b7]), (145017, .map b7 (List.map (fun p => (.agg [I p.1.fBowler, I p.1.fWeek], .agg [I p.2.fNumber, I p.2.fBowler, I p.2.fWeek, I p.2.fGames.a0, I p.2.fGames.a1, I p.2.fGames.a2])) rj2))]) (fun _ => True) ?_ ?_
    ·(conv=>whnf);refine Br.mk (fun hc75 => ?_) (fun hc75 => ?_)
     ·replace hx101 := ite_t hc75 hx101;obtain ⟨r16, hx102, hx101⟩ := obind hx101;(conv=>whnf);refine CallG.pure _ (rateWeekC hN hx102) ?_;cases hx101;(conv=>whnf);refine ⟨(), trivial, Sub.eq rfl ?_ ?_⟩
      ·(repeat ((conv=>whnf);refine nr ?_));exact trivial
      ·(conv=>whnf);refine no ?_;(conv=>whnf);refine no ?_;(conv=>whnf);refine no ?_;exact trivial
     ·replace hx101 := ite_f hc75 hx101;cases hx101;(conv=>whnf);refine ⟨(), trivial, Sub.eq rfl ?_ ?_⟩
      ·(repeat ((conv=>whnf);refine nr ?_));exact trivial
      ·(conv=>whnf);refine no ?_;(conv=>whnf);refine no ?_;(conv=>whnf);refine no ?_;exact trivial
    ·rintro _ _;(conv=>whnf);refine Br.mk (fun hc76 => ?_) (fun hc76 => ?_)
     ·replace hx99 := ite_t hc76 hx99;cases hx99;(conv=>whnf);refine ⟨(), trivial, Sub.eq rfl ?_ ?_⟩
      ·(repeat ((conv=>whnf);refine nr ?_));exact trivial
      ·(conv=>whnf);refine no ?_;(conv=>whnf);refine no ?_;(conv=>whnf);refine no ?_;exact trivial
     ·replace hx99 := ite_f hc76 hx99;cases hx99;(conv=>whnf);refine ⟨(), trivial, Sub.eq rfl ?_ ?_⟩
      ·(repeat ((conv=>whnf);refine nr ?_));exact trivial
      ·(conv=>whnf);refine no ?_;(conv=>whnf);refine no ?_;(conv=>whnf);refine no ?_;exact trivial
   ·rintro _ _;obtain ⟨e5, hx104, h⟩ := obind h;(conv=>whnf);refine SeqG.mk Unit (fun y => [(2, .d (.list 1 (List.map I home1))), (3, .d (.list 1 (List.map I away1))), (5, .d (.ref (.agg [I w1]))), (8, .i .i64 0), (9, .i .i64 0), (10, .d (I e5)), (11, .ptr 11 b9 0)]) (fun y => [(11, .cells b9 [.ptr 145019 b6 0]), (145019, .cells b6 [.d (I rb2), .d (I rc2), .d (I rd2), .d (I re2), .d (I rf2), .d (.list 1 (List.map I rg2)), .d (.list 6 (List.map RateSheet.enc rh2)), .d (.list 1 (List.map I ri2)), .mp 145017 b7]), (145017, .map b7 (List.map (fun p => (.agg [I p.1.fBowler, I p.1.fWeek], .agg [I p.2.fNumber, I p.2.fBowler, I p.2.fWeek, I p.2.fGames.a0, I p.2.fGames.a1, I p.2.fGames.a2])) rj2))]) (fun _ => True) ?_ ?_
    ·(conv=>whnf);refine Br.mk (fun hc78 => ?_) (fun hc78 => ?_)
     ·replace hx104 := ite_t hc78 hx104;obtain ⟨r18, hx105, hx104⟩ := obind hx104;(conv=>whnf);refine CallG.pure _ (rateBookTeamsC hN hx105) ?_;cases hx104;(conv=>whnf);refine ⟨(), trivial, Sub.eq rfl ?_ ?_⟩
      ·(repeat ((conv=>whnf);refine nr ?_));exact trivial
      ·(conv=>whnf);refine no ?_;(conv=>whnf);refine no ?_;(conv=>whnf);refine no ?_;exact trivial
     ·replace hx104 := ite_f hc78 hx104;cases hx104;(conv=>whnf);refine ⟨(), trivial, Sub.eq rfl ?_ ?_⟩
      ·(repeat ((conv=>whnf);refine nr ?_));exact trivial
      ·(conv=>whnf);refine no ?_;(conv=>whnf);refine no ?_;(conv=>whnf);refine no ?_;exact trivial
    ·rintro _ _;(conv=>whnf);refine Br.mk (fun hc80 => ?_) (fun hc80 => ?_)
     ·replace h := ite_t hc80 h;(conv=>whnf);cases h;exact rfl
     ·replace h := ite_f hc80 h;obtain ⟨r21, hx108, h⟩ := obind h;(conv=>whnf);refine CallG.own (rateMatch1XC (bo1 := b9) (bo2 := b6) (bo3 := b7) hN hx108) id [] _ (fun y => [(11, .cells b9 [.ptr 145019 b6 0]), (145019, .cells b6 [.d (I rb2), .d (I rc2), .d (I rd2), .d (I re2), .d (I rf2), .d (.list 1 (List.map I rg2)), .d (.list 6 (List.map RateSheet.enc rh2)), .d (.list 1 (List.map I ri2)), .mp 145017 b7]), (145017, .map b7 (List.map (fun p => (.agg [I p.1.fBowler, I p.1.fWeek], .agg [I p.2.fNumber, I p.2.fBowler, I p.2.fWeek, I p.2.fGames.a0, I p.2.fGames.a1, I p.2.fGames.a2])) rj2))]) (all2_le_refl _) (And.intro rfl (And.intro rfl (And.intro rfl trivial))) rfl (And.intro rfl (And.intro rfl (And.intro rfl trivial))) trivial (fun _ => AV.le_refl _) (fun _ => rfl) ?_;rintro _ _;obtain ⟨r22, hx109, h⟩ := obind h;(conv=>whnf)
      refine CallG.own (rateMatch1XC (bo1 := b9) (bo2 := b6) (bo3 := b7) hN hx109) id [] _ (fun y => [(11, .cells b9 [.ptr 145019 b6 0]), (145019, .cells b6 [.d (I rb2), .d (I rc2), .d (I rd2), .d (I re2), .d (I rf2), .d (.list 1 (List.map I rg2)), .d (.list 6 (List.map RateSheet.enc rh2)), .d (.list 1 (List.map I ri2)), .mp 145017 b7]), (145017, .map b7 (List.map (fun p => (.agg [I p.1.fBowler, I p.1.fWeek], .agg [I p.2.fNumber, I p.2.fBowler, I p.2.fWeek, I p.2.fGames.a0, I p.2.fGames.a1, I p.2.fGames.a2])) rj2))]) (all2_le_refl _) (And.intro rfl (And.intro rfl (And.intro rfl trivial))) rfl (And.intro rfl (And.intro rfl (And.intro rfl trivial))) trivial (fun _ => AV.le_refl _) (fun _ => rfl) ?_;rintro _ _;obtain ⟨⟨forHome23, forAway23⟩, hx149, h⟩ := obind h;(conv=>whnf);refine SeqG.mk Unit (fun y => [(8, .d (I forHome23)), (9, .d (I forAway23))]) (fun y => []) (fun _ => True) ?_ ?_
      ·(conv=>whnf);refine LnA.mk _ (List.length_map _) ?_;(conv=>whnf);refine LoopG.mk (Nat × (Int × Int × Int × Int)) (fun y => [(8, .d (I y.2.1)), (9, .d (I y.2.2.1)), (14, .d (.list 1 (List.map I r22))), (45, .d (.list 1 (List.map I r21))), (46, .d (I y.2.2.2.1)), (47, .d (I y.2.2.2.2))]) (fun y => []) (fun y => loopN (fun rr x => rateMatch_b2 N r21 r22 rr x.1 x.2.1 x.2.2.1 x.2.2.2) y.1 y.2 = some (forHome23, forAway23)) (fun y => y.1) (N, (0, 0, (r21.length : Int), 0)) hx149 (Sub.eq rfl ?_ ?_) ?_
       ·(repeat ((conv=>whnf);refine nr ?_));exact trivial
       ·exact trivial
       ·rintro ⟨n4, ⟨forHome29, forAway29, v39, v40⟩⟩ hl4;obtain ⟨n4, rfl, hl4⟩ := loopN_some hl4;replace hl4 : rateMatch_b2 N r21 r22 (loopN (fun rr x => rateMatch_b2 N r21 r22 rr x.1 x.2.1 x.2.2.1 x.2.2.2) n4) forHome29 forAway29 v39 v40 = some (forHome23, forAway23) := hl4;rw [rateMatch_b2] at hl4;(conv=>whnf);refine Br.mk (fun hc132 => ?_) (fun hc132 => ?_)
        ·replace hl4 := ite_t hc132 hl4;obtain ⟨⟨forHome30, forAway30⟩, hx182, hl4⟩ := obind hl4;(conv=>whnf);refine SeqG.mk Unit (fun y => [(8, .d (I forHome30)), (9, .d (I forAway30)), (14, .d (.list 1 (List.map I r22))), (45, .d (.list 1 (List.map I r21))), (46, .d (I v39)), (47, .d (I v40))]) (fun y => []) (fun _ => True) ?_ ?_
         ·obtain ⟨x140, hx184, hx182⟩ := obind hx182;(conv=>whnf);refine Side.mk rfl ⟨_, idx_0 hx184, idx_map _ hx184, ?_⟩;obtain ⟨x144, hx188, hx182⟩ := obind hx182;(conv=>whnf);refine Side.mk rfl ⟨_, idx_0 hx188, idx_map _ hx188, ?_⟩;(conv=>whnf);refine Br.mk (fun hc139 => ?_) (fun hc139 => ?_)
          ·replace hx182 := ite_t hc139 hx182;cases hx182;(conv=>whnf);refine ⟨(), trivial, Sub.eq rfl ?_ ?_⟩
           ·(repeat ((conv=>whnf);refine nr ?_));exact trivial
           ·exact trivial
          ·replace hx182 := ite_f hc139 hx182;(conv=>whnf);refine Side.mk rfl ⟨_, idx_0 hx188, idx_map _ hx188, ?_⟩;(conv=>whnf);refine Br.mk (fun hc140 => ?_) (fun hc140 => ?_)
           ·replace hx182 := ite_t hc140 hx182;cases hx182;(conv=>whnf);refine ⟨(), trivial, Sub.eq rfl ?_ ?_⟩
            ·(repeat ((conv=>whnf);refine nr ?_));exact trivial
            ·exact trivial
           ·replace hx182 := ite_f hc140 hx182;cases hx182;(conv=>whnf);refine ⟨(), trivial, Sub.eq rfl ?_ ?_⟩
            ·(repeat ((conv=>whnf);refine nr ?_));exact trivial
            ·exact trivial
         ·rintro _ _;(conv=>whnf);refine ⟨(n4, (forHome30, forAway30, v39, w64 (v40 + 1))), hl4, Sub.eq rfl ?_ ?_, Nat.lt_succ_self _⟩
          ·(repeat ((conv=>whnf);refine nr ?_));exact trivial
          ·exact trivial
        ·replace hl4 := ite_f hc132 hl4;cases hl4;(conv=>whnf);refine ⟨(), trivial, Sub.eq rfl ?_ ?_⟩
         ·(repeat ((conv=>whnf);refine nr ?_));exact trivial
         ·exact trivial
      ·rintro _ _;(conv=>whnf);cases h;exact rfl
theorem leagueWithinC {N : Nat} (hN : N ≤ 1073741824) {n1 : Int} {low1 : Int} {high1 : Int} {r : Bool} (h : leagueWithin N n1 low1 high1 = some r) :
    ACalls Tryz.prog 107 [.d (I n1), .d (I low1), .d (I high1)] [] fun e os => e = .ret (.d (.bool r)) ∧ os = [] := by
  refine acalls_f (fresh := false) tt_ok dr_ok ⟨[], [], [], [], [1], 0, []⟩ Tryz.func107 rfl Tryz.call107 rfl ?_
  unfold leagueWithin at h
  obtain ⟨v1, hx1, h⟩ := obind h;(conv=>whnf);refine SeqG.mk Unit (fun y => [(6, .d (.bool v1))]) (fun y => []) (fun _ => True) ?_ ?_
  ·(conv=>whnf);refine Br.mk (fun hc2 => ?_) (fun hc2 => ?_)
   ·replace hx1 := ite_t hc2 hx1;cases hx1;(conv=>whnf);refine ⟨(), trivial, Sub.eq rfl ?_ ?_⟩
    ·(repeat ((conv=>whnf);refine nr ?_));exact trivial
    ·exact trivial
   ·replace hx1 := ite_f hc2 hx1;cases hx1;(conv=>whnf);refine ⟨(), trivial, Sub.eq rfl ?_ ?_⟩
    ·(repeat ((conv=>whnf);refine nr ?_));exact trivial
    ·exact trivial
  ·rintro _ _;(conv=>whnf);cases h;exact rfl
theorem leagueTeamsC {N : Nat} (hN : N ≤ 1073741824) {n1 : Int} {r : Bool} (h : leagueTeams N n1 = some r) :
    ACalls Tryz.prog 70 [.d (I n1)] [] fun e os => e = .ret (.d (.bool r)) ∧ os = [] := by
  refine acalls_f (fresh := false) tt_ok dr_ok ⟨[], [], [], [], [], 0, []⟩ Tryz.func70 rfl Tryz.call70 rfl ?_
  unfold leagueTeams at h
  obtain ⟨r2, hx2, h⟩ := obind h;(conv=>whnf);refine CallG.pure _ (leagueWithinC hN hx2) ?_;(conv=>whnf);cases h;exact rfl
theorem leagueLeagueTeamC {N : Nat} (hN : N ≤ 1073741824) {l1 : LeagueLeague} {n1 : Int} {r : Bool} (h : leagueLeagueTeam N l1 n1 = some r) :
    ACalls Tryz.prog 82 [.d (.agg [I l1.fTeams, .list 5 (List.map LeagueGame.enc l1.fGames)]), .d (I n1)] [] fun e os => e = .ret (.d (.bool r)) ∧ os = [] := by
  refine acalls_f (fresh := false) tt_ok dr_ok ⟨[2], [], [], [], [], 0, []⟩ Tryz.func82 rfl Tryz.call82 rfl ?_
  unfold leagueLeagueTeam at h
  obtain ⟨r2, hx2, h⟩ := obind h;(conv=>whnf);refine CallG.pure _ (leagueWithinC hN hx2) ?_;(conv=>whnf);cases h;exact rfl
theorem leagueLeagueGameC {N : Nat} (hN : N ≤ 1073741824) {l1 : LeagueLeague} {g1 : LeagueGame} {r : Bool} (h : leagueLeagueGame N l1 g1 = some r) :
    ACalls Tryz.prog 72 [.d (.agg [I l1.fTeams, .list 5 (List.map LeagueGame.enc l1.fGames)]), .d (.agg [I g1.fA, I g1.fB, I g1.fPinsA, I g1.fPinsB, .bool g1.fOpen])] [] fun e os => e = .ret (.d (.bool r)) ∧ os = [] := by
  refine acalls_f (fresh := false) tt_ok dr_ok ⟨[2, 3], [], [], [], [1, 2], 0, []⟩ Tryz.func72 rfl Tryz.call72 rfl ?_
  unfold leagueLeagueGame at h
  obtain ⟨pins1, hx3, h⟩ := obind h;(conv=>whnf);refine SeqG.mk Unit (fun y => [(2, .d (.ref (.agg [I l1.fTeams, .list 5 (List.map LeagueGame.enc l1.fGames)]))), (3, .d (.ref (.agg [I g1.fA, I g1.fB, I g1.fPinsA, I g1.fPinsB, .bool g1.fOpen]))), (5, .d (.bool pins1))]) (fun y => []) (fun _ => True) ?_ ?_
  ·obtain ⟨r3, hx4, hx3⟩ := obind hx3;(conv=>whnf);refine CallG.pure _ (leagueWithinC hN hx4) ?_;(conv=>whnf);refine Br.mk (fun hc2 => ?_) (fun hc2 => ?_)
   ·replace hx3 := ite_t hc2 hx3;obtain ⟨r4, hx5, hx3⟩ := obind hx3;(conv=>whnf);refine CallG.pure _ (leagueWithinC hN hx5) ?_;cases hx3;(conv=>whnf);refine ⟨(), trivial, Sub.eq rfl ?_ ?_⟩
    ·(repeat ((conv=>whnf);refine nr ?_));exact trivial
    ·exact trivial
   ·replace hx3 := ite_f hc2 hx3;cases hx3;(conv=>whnf);refine ⟨(), trivial, Sub.eq rfl ?_ ?_⟩
    ·(repeat ((conv=>whnf);refine nr ?_));exact trivial
    ·exact trivial
  ·rintro _ _;obtain ⟨v1, hx8, h⟩ := obind h;(conv=>whnf);refine SeqG.mk Unit (fun y => [(4, .d (.bool v1))]) (fun y => []) (fun _ => True) ?_ ?_
   ·obtain ⟨r7, hx9, hx8⟩ := obind hx8;(conv=>whnf);refine CallG.pure _ (leagueLeagueTeamC hN hx9) ?_;(conv=>whnf);refine Br.mk (fun hc9 => ?_) (fun hc9 => ?_)
    ·replace hx8 := ite_t hc9 hx8;obtain ⟨r8, hx10, hx8⟩ := obind hx8;(conv=>whnf);refine CallG.pure _ (leagueLeagueTeamC hN hx10) ?_;(conv=>whnf);refine Br.mk (fun hc10 => ?_) (fun hc10 => ?_)
     ·replace hx8 := ite_t hc10 hx8;(conv=>whnf);refine Br.mk (fun hc11 => ?_) (fun hc11 => ?_)
      ·replace hx8 := ite_t hc11 hx8;(conv=>whnf);refine Br.mk (fun hc12 => ?_) (fun hc12 => ?_)
       ·replace hx8 := ite_t hc12 hx8;(conv=>whnf);refine Br.mk (fun hc13 => ?_) (fun hc13 => ?_)
        ·replace hx8 := ite_f hc13 hx8;(conv=>whnf);refine Br.mk (fun hc14 => ?_) (fun hc14 => ?_)
         ·replace hx8 := ite_t hc14 hx8;cases hx8;(conv=>whnf);refine ⟨(), trivial, Sub.eq rfl ?_ ?_⟩
          ·(repeat ((conv=>whnf);refine nr ?_));exact trivial
          ·exact trivial
         ·replace hx8 := ite_f hc14 hx8;cases hx8;(conv=>whnf);refine ⟨(), trivial, Sub.eq rfl ?_ ?_⟩
          ·(repeat ((conv=>whnf);refine nr ?_));exact trivial
          ·exact trivial
        ·replace hx8 := ite_t hc13 hx8;cases hx8;(conv=>whnf);refine ⟨(), trivial, Sub.eq rfl ?_ ?_⟩
         ·(repeat ((conv=>whnf);refine nr ?_));exact trivial
         ·exact trivial
       ·replace hx8 := ite_f hc12 hx8;cases hx8;(conv=>whnf);refine ⟨(), trivial, Sub.eq rfl ?_ ?_⟩
        ·(repeat ((conv=>whnf);refine nr ?_));exact trivial
        ·exact trivial
      ·replace hx8 := ite_f hc11 hx8;cases hx8;(conv=>whnf);refine ⟨(), trivial, Sub.eq rfl ?_ ?_⟩
       ·(repeat ((conv=>whnf);refine nr ?_));exact trivial
       ·exact trivial
     ·replace hx8 := ite_f hc10 hx8;cases hx8;(conv=>whnf);refine ⟨(), trivial, Sub.eq rfl ?_ ?_⟩
      ·(repeat ((conv=>whnf);refine nr ?_));exact trivial
      ·exact trivial
    ·replace hx8 := ite_f hc9 hx8;cases hx8;(conv=>whnf);refine ⟨(), trivial, Sub.eq rfl ?_ ?_⟩
     ·(repeat ((conv=>whnf);refine nr ?_));exact trivial
     ·exact trivial
   ·rintro _ _;(conv=>whnf);cases h;exact rfl
theorem leagueAll1C {N : Nat} (hN : N ≤ 1073741824) {x1 : LeagueGame} {a1 : LeagueLeague} {r : Bool} (h : leagueAll1 N x1 a1 = some r) :
    ACalls Tryz.prog 109 [.d (.agg [I x1.fA, I x1.fB, I x1.fPinsA, I x1.fPinsB, .bool x1.fOpen]), .d (.ref (.agg [.fn (.func 72) [.agg [I a1.fTeams, .list 5 (List.map LeagueGame.enc a1.fGames)]] []]))] [] fun e os => e = .ret (.d (.bool r)) ∧ os = [] := by
  refine acalls_f (fresh := false) tt_ok dr_ok ⟨[2], [], [], [], [], 0, []⟩ Tryz.func109 rfl Tryz.call109 rfl ?_
  unfold leagueAll1 at h
  obtain ⟨r2, hx2, h⟩ := obind h;(conv=>whnf);refine CallG.pure _ (leagueLeagueGameC hN hx2) ?_;(conv=>whnf);cases h;exact rfl
theorem slicesIndexFuncXXXXC {N : Nat} (hN : N ≤ 1073741824) {s1 : List LeagueGame} {f1 : LeagueLeague} {r : Int} (h : slicesIndexFuncXXXX N s1 f1 = some r) :
    ACalls Tryz.prog 140 [.d (.list 5 (List.map LeagueGame.enc s1)), .d (.fn (.func 109) [] [.ref (.agg [.fn (.func 72) [.agg [I f1.fTeams, .list 5 (List.map LeagueGame.enc f1.fGames)]] []])])] [] fun e os => e = .ret (.d (I r)) ∧ os = [] := by
  refine acalls_f (fresh := false) tt_ok dr_ok ⟨[], [], [], [], [1001], 0, []⟩ Tryz.func140 rfl Tryz.call140 rfl ?_
  unfold slicesIndexFuncXXXX at h
  (conv=>whnf);refine SeqG.mk Unit (fun y => []) (fun y => []) (fun y => slicesIndexFuncXXXX_k1 N = some r) ?_ ?_
  ·(conv=>whnf);refine LnA.mk _ (List.length_map _) ?_;(conv=>whnf);refine LoopG.mk (Nat × (Int × Int)) (fun y => [(0, .d (.list 5 (List.map LeagueGame.enc s1))), (1, .d (.fn (.func 109) [] [.ref (.agg [.fn (.func 72) [.agg [I f1.fTeams, .list 5 (List.map LeagueGame.enc f1.fGames)]] []])])), (7, .d (I y.2.1)), (8, .d (I y.2.2))]) (fun y => []) (fun y => loopN (fun rr x => slicesIndexFuncXXXX_b2 N s1 f1 rr x.1 x.2) y.1 y.2 = some r) (fun y => y.1) (N, ((s1.length : Int), 0)) h (Sub.eq rfl ?_ ?_) ?_
   ·(repeat ((conv=>whnf);refine nr ?_));exact trivial
   ·exact trivial
   ·rintro ⟨n2, ⟨v17, v18⟩⟩ hl2;obtain ⟨n2, rfl, hl2⟩ := loopN_some hl2;replace hl2 : slicesIndexFuncXXXX_b2 N s1 f1 (loopN (fun rr x => slicesIndexFuncXXXX_b2 N s1 f1 rr x.1 x.2) n2) v17 v18 = some r := hl2;rw [slicesIndexFuncXXXX_b2] at hl2;(conv=>whnf);refine Br.mk (fun hc22 => ?_) (fun hc22 => ?_)
    ·replace hl2 := ite_t hc22 hl2;obtain ⟨x24, hx47, hl2⟩ := obind hl2;(conv=>whnf);refine Side.mk rfl ⟨_, idx_0 hx47, idx_map _ hx47, ?_⟩;obtain ⟨r24, hx48, hl2⟩ := obind hl2;(conv=>whnf);refine CallG.pure _ (leagueAll1C hN hx48) ?_;(conv=>whnf);refine Br.mk (fun hc24 => ?_) (fun hc24 => ?_)
     ·replace hl2 := ite_t hc24 hl2;(conv=>whnf);cases hl2;exact rfl
     ·replace hl2 := ite_f hc24 hl2;(conv=>whnf);refine ⟨(n2, (v17, w64 (v18 + 1))), hl2, Sub.eq rfl ?_ ?_, Nat.lt_succ_self _⟩
      ·(repeat ((conv=>whnf);refine nr ?_));exact trivial
      ·exact trivial
    ·replace hl2 := ite_f hc22 hl2;(conv=>whnf);refine ⟨(), hl2, Sub.eq rfl ?_ ?_⟩
     ·(repeat ((conv=>whnf);refine nr ?_));exact trivial
     ·exact trivial
  ·clear h;rintro _ h;unfold slicesIndexFuncXXXX_k1 at h;(conv=>whnf);cases h;exact rfl
theorem slicesContainsFuncXXXXC {N : Nat} (hN : N ≤ 1073741824) {s1 : List LeagueGame} {f1 : LeagueLeague} {r : Bool} (h : slicesContainsFuncXXXX N s1 f1 = some r) :
    ACalls Tryz.prog 108 [.d (.list 5 (List.map LeagueGame.enc s1)), .d (.fn (.func 109) [] [.ref (.agg [.fn (.func 72) [.agg [I f1.fTeams, .list 5 (List.map LeagueGame.enc f1.fGames)]] []])])] [] fun e os => e = .ret (.d (.bool r)) ∧ os = [] := by
  refine acalls_f (fresh := false) tt_ok dr_ok ⟨[], [], [], [], [], 0, []⟩ Tryz.func108 rfl Tryz.call108 rfl ?_
  unfold slicesContainsFuncXXXX at h
  obtain ⟨r2, hx2, h⟩ := obind h;(conv=>whnf);refine CallG.pure _ (slicesIndexFuncXXXXC hN hx2) ?_;(conv=>whnf);cases h;exact rfl
theorem leagueAllC {N : Nat} (hN : N ≤ 1073741824) {l1 : List LeagueGame} {right1 : LeagueLeague} {r : Bool} (h : leagueAll N l1 right1 = some r) :
    ACalls Tryz.prog 71 [.d (.list 5 (List.map LeagueGame.enc l1)), .d (.fn (.func 72) [.agg [I right1.fTeams, .list 5 (List.map LeagueGame.enc right1.fGames)]] [])] [] fun e os => e = .ret (.d (.bool r)) ∧ os = [] := by
  refine acalls_f (fresh := false) tt_ok dr_ok ⟨[3], [], [], [], [], 0, []⟩ Tryz.func71 rfl Tryz.call71 rfl ?_
  unfold leagueAll at h
  obtain ⟨r2, hx2, h⟩ := obind h;(conv=>whnf);refine CallG.pure _ (slicesContainsFuncXXXXC hN hx2) ?_;(conv=>whnf);cases h;exact rfl
theorem leagueCheckLeagueC {N : Nat} (hN : N ≤ 1073741824) {l1 : LeagueLeague} {r : Int} (h : leagueCheckLeague N l1 = some r) :
    ACalls Tryz.prog 40 [.d (.agg [I l1.fTeams, .list 5 (List.map LeagueGame.enc l1.fGames)])] [] fun e os => e = .ret (.d (I r)) ∧ os = [] := by
  refine acalls_f (fresh := false) tt_ok dr_ok ⟨[1], [], [], [], [3], 0, []⟩ Tryz.func40 rfl Tryz.call40 rfl ?_
  unfold leagueCheckLeague at h
  (conv=>whnf);refine LnA.mk _ (List.length_map _) ?_;(conv=>whnf);refine Br.mk (fun hc5 => ?_) (fun hc5 => ?_)
  ·replace h := ite_t hc5 h;(conv=>whnf);cases h;exact rfl
  ·replace h := ite_f hc5 h;obtain ⟨v2, hx8, h⟩ := obind h;(conv=>whnf);refine SeqG.mk Unit (fun y => [(8, .d (.bool v2))]) (fun y => []) (fun _ => True) ?_ ?_
   ·obtain ⟨r7, hx9, hx8⟩ := obind hx8;(conv=>whnf);refine CallG.pure _ (leagueTeamsC hN hx9) ?_;(conv=>whnf);refine Br.mk (fun hc7 => ?_) (fun hc7 => ?_)
    ·replace hx8 := ite_f hc7 hx8;obtain ⟨r8, hx10, hx8⟩ := obind hx8;(conv=>whnf);refine CallG.pure _ (leagueAllC hN hx10) ?_;cases hx8;(conv=>whnf);refine ⟨(), trivial, Sub.eq rfl ?_ ?_⟩
     ·(repeat ((conv=>whnf);refine nr ?_));exact trivial
     ·exact trivial
    ·replace hx8 := ite_t hc7 hx8;cases hx8;(conv=>whnf);refine ⟨(), trivial, Sub.eq rfl ?_ ?_⟩
     ·(repeat ((conv=>whnf);refine nr ?_));exact trivial
     ·exact trivial
   ·rintro _ _;(conv=>whnf);refine Br.mk (fun hc8 => ?_) (fun hc8 => ?_)
    ·replace h := ite_t hc8 h;(conv=>whnf);cases h;exact rfl
    ·replace h := ite_f hc8 h;(conv=>whnf);cases h;exact rfl
theorem leagueRank1C {N : Nat} (hN : N ≤ 1073741824) {r1 : Int} {r : Bool} (h : leagueRank1 N r1 = some r) :
    ACalls Tryz.prog 42 [.d (.int .u8 r1)] [] fun e os => e = .ret (.d (.bool r)) ∧ os = [] := by
  refine acalls_f (fresh := false) tt_ok dr_ok ⟨[], [], [], [], [1], 0, []⟩ Tryz.func42 rfl Tryz.call42 rfl ?_
  unfold leagueRank1 at h
  obtain ⟨v1, hx1, h⟩ := obind h;(conv=>whnf);refine SeqG.mk Unit (fun y => [(2, .d (.bool v1))]) (fun y => []) (fun _ => True) ?_ ?_
  ·(conv=>whnf);refine Br.mk (fun hc2 => ?_) (fun hc2 => ?_)
   ·replace hx1 := ite_t hc2 hx1;cases hx1;(conv=>whnf);refine ⟨(), trivial, Sub.eq rfl ?_ ?_⟩
    ·(repeat ((conv=>whnf);refine nr ?_));exact trivial
    ·exact trivial
   ·replace hx1 := ite_f hc2 hx1;cases hx1;(conv=>whnf);refine ⟨(), trivial, Sub.eq rfl ?_ ?_⟩
    ·(repeat ((conv=>whnf);refine nr ?_));exact trivial
    ·exact trivial
  ·rintro _ _;(conv=>whnf);cases h;exact rfl
theorem leagueAll1XC {N : Nat} (hN : N ≤ 1073741824) {x1 : Int} {r : Bool} (h : leagueAll1X N x1 = some r) :
    ACalls Tryz.prog 74 [.d (.int .u8 x1), .d (.ref (.agg [.fn (.func 42) [] []]))] [] fun e os => e = .ret (.d (.bool r)) ∧ os = [] := by
  refine acalls_f (fresh := false) tt_ok dr_ok ⟨[], [], [], [], [], 0, []⟩ Tryz.func74 rfl Tryz.call74 rfl ?_
  unfold leagueAll1X at h
  obtain ⟨r2, hx2, h⟩ := obind h;(conv=>whnf);refine CallG.pure _ (leagueRank1C hN hx2) ?_;(conv=>whnf);cases h;exact rfl
theorem slicesIndexFuncXXXXXC {N : Nat} (hN : N ≤ 1073741824) {s1 : List Int} {r : Int} (h : slicesIndexFuncXXXXX N s1 = some r) :
    ACalls Tryz.prog 110 [.d (.list 1 (List.map (fun x => .int .u8 x) s1)), .d (.fn (.func 74) [] [.ref (.agg [.fn (.func 42) [] []])])] [] fun e os => e = .ret (.d (I r)) ∧ os = [] := by
  refine acalls_f (fresh := false) tt_ok dr_ok ⟨[], [], [], [], [1001], 0, []⟩ Tryz.func110 rfl Tryz.call110 rfl ?_
  unfold slicesIndexFuncXXXXX at h
  (conv=>whnf);refine SeqG.mk Unit (fun y => []) (fun y => []) (fun y => slicesIndexFuncXXXXX_k1 N = some r) ?_ ?_
  ·(conv=>whnf);refine LnA.mk _ (List.length_map _) ?_;(conv=>whnf);refine LoopG.mk (Nat × (Int × Int)) (fun y => [(0, .d (.list 1 (List.map (fun x => .int .u8 x) s1))), (1, .d (.fn (.func 74) [] [.ref (.agg [.fn (.func 42) [] []])])), (7, .d (I y.2.1)), (8, .d (I y.2.2))]) (fun y => []) (fun y => loopN (fun rr x => slicesIndexFuncXXXXX_b2 N s1 rr x.1 x.2) y.1 y.2 = some r) (fun y => y.1) (N, ((s1.length : Int), 0)) h (Sub.eq rfl ?_ ?_) ?_
   ·(repeat ((conv=>whnf);refine nr ?_));exact trivial
   ·exact trivial
   ·rintro ⟨n2, ⟨v17, v18⟩⟩ hl2;obtain ⟨n2, rfl, hl2⟩ := loopN_some hl2;replace hl2 : slicesIndexFuncXXXXX_b2 N s1 (loopN (fun rr x => slicesIndexFuncXXXXX_b2 N s1 rr x.1 x.2) n2) v17 v18 = some r := hl2;rw [slicesIndexFuncXXXXX_b2] at hl2;(conv=>whnf);refine Br.mk (fun hc22 => ?_) (fun hc22 => ?_)
    ·replace hl2 := ite_t hc22 hl2;obtain ⟨x24, hx47, hl2⟩ := obind hl2;(conv=>whnf);refine Side.mk rfl ⟨_, idx_0 hx47, idx_map _ hx47, ?_⟩;obtain ⟨r24, hx48, hl2⟩ := obind hl2;(conv=>whnf);refine CallG.pure _ (leagueAll1XC hN hx48) ?_;(conv=>whnf);refine Br.mk (fun hc24 => ?_) (fun hc24 => ?_)
     ·replace hl2 := ite_t hc24 hl2;(conv=>whnf);cases hl2;exact rfl
     ·replace hl2 := ite_f hc24 hl2;(conv=>whnf);refine ⟨(n2, (v17, w64 (v18 + 1))), hl2, Sub.eq rfl ?_ ?_, Nat.lt_succ_self _⟩
      ·(repeat ((conv=>whnf);refine nr ?_));exact trivial
      ·exact trivial
    ·replace hl2 := ite_f hc22 hl2;(conv=>whnf);refine ⟨(), hl2, Sub.eq rfl ?_ ?_⟩
     ·(repeat ((conv=>whnf);refine nr ?_));exact trivial
     ·exact trivial
  ·clear h;rintro _ h;unfold slicesIndexFuncXXXXX_k1 at h;(conv=>whnf);cases h;exact rfl
theorem slicesContainsFuncXXXXXC {N : Nat} (hN : N ≤ 1073741824) {s1 : List Int} {r : Bool} (h : slicesContainsFuncXXXXX N s1 = some r) :
    ACalls Tryz.prog 73 [.d (.list 1 (List.map (fun x => .int .u8 x) s1)), .d (.fn (.func 74) [] [.ref (.agg [.fn (.func 42) [] []])])] [] fun e os => e = .ret (.d (.bool r)) ∧ os = [] := by
  refine acalls_f (fresh := false) tt_ok dr_ok ⟨[], [], [], [], [], 0, []⟩ Tryz.func73 rfl Tryz.call73 rfl ?_
  unfold slicesContainsFuncXXXXX at h
  obtain ⟨r2, hx2, h⟩ := obind h;(conv=>whnf);refine CallG.pure _ (slicesIndexFuncXXXXXC hN hx2) ?_;(conv=>whnf);cases h;exact rfl
theorem leagueAllXC {N : Nat} (hN : N ≤ 1073741824) {l1 : List Int} {r : Bool} (h : leagueAllX N l1 = some r) :
    ACalls Tryz.prog 41 [.d (.list 1 (List.map (fun x => .int .u8 x) l1)), .d (.fn (.func 42) [] [])] [] fun e os => e = .ret (.d (.bool r)) ∧ os = [] := by
  refine acalls_f (fresh := false) tt_ok dr_ok ⟨[3], [], [], [], [], 0, []⟩ Tryz.func41 rfl Tryz.call41 rfl ?_
  unfold leagueAllX at h
  obtain ⟨r2, hx2, h⟩ := obind h;(conv=>whnf);refine CallG.pure _ (slicesContainsFuncXXXXXC hN hx2) ?_;(conv=>whnf);cases h;exact rfl
theorem leagueRuleC {N : Nat} (hN : N ≤ 1073741824) {code1 : Int} {r : Unit} (h : leagueRule N code1 = some r) :
    ACalls Tryz.prog 44 [.d (.int .u8 code1)] [] fun e os => e = .ret (.d (.agg [.fn (.func 78) [] []])) ∧ os = [] := by
  refine acalls_f (fresh := false) tt_ok dr_ok ⟨[], [], [], [], [], 0, []⟩ Tryz.func44 rfl Tryz.call44 rfl ?_
  unfold leagueRule at h
  (conv=>whnf);intro b2;(conv=>whnf);refine Br.mk (fun hc4 => ?_) (fun hc4 => ?_)
  ·replace h := ite_t hc4 h;(conv=>whnf);refine sr ?_;(conv=>whnf);refine sr ?_;(conv=>whnf)
   all_goals cases h
   all_goals exact rfl
  ·replace h := ite_f hc4 h;(conv=>whnf);refine Br.mk (fun hc5 => ?_) (fun hc5 => ?_)
   ·replace h := ite_t hc5 h;(conv=>whnf);refine sr ?_;cases h
   ·replace h := ite_f hc5 h;(conv=>whnf);refine Br.mk (fun hc6 => ?_) (fun hc6 => ?_)
    ·replace h := ite_t hc6 h;(conv=>whnf);refine sr ?_;cases h
    ·replace h := ite_f hc6 h;(conv=>whnf);refine sr ?_;cases h
theorem slicesClone0C {N : Nat} (hN : N ≤ 1073741824)  {r : (List Int)} (h : slicesClone0 N = some r) :
    ACalls Tryz.prog 75 [.nils 1] [] fun e os => e = .ret (.d (.list 1 (List.map I r))) ∧ os = [] := by
  refine acalls_f (fresh := false) tt_ok dr_ok ⟨[], [], [], [], [], 0, []⟩ Tryz.func75 rfl Tryz.call75 rfl ?_
  unfold slicesClone0 at h
  (conv=>whnf);cases h;exact rfl
theorem slicesClone1C {N : Nat} (hN : N ≤ 1073741824) {s1 : List Int} {r : (List Int)} (h : slicesClone1 N s1 = some r) :
    ACalls Tryz.prog 75 [.nn 1 (List.map I s1)] [] fun e os => e = .ret (.d (.list 1 (List.map I r))) ∧ os = [] := by
  refine acalls_f (fresh := false) tt_ok dr_ok ⟨[], [], [], [], [], 0, []⟩ Tryz.func75 rfl Tryz.call75 rfl ?_
  unfold slicesClone1 at h
  (conv=>whnf);intro hd3;obtain ⟨l2, hx2, h⟩ := obind h;(conv=>whnf);refine sr ?_;(conv=>whnf);refine Side.mk ⟨rfl, rfl, rfl⟩ (Need.mk (app_need hN hx2 (by decide)) (Eqv.mk (List.map I l2) (app_map _ hx2) ?_));(conv=>whnf);intro hd4;(conv=>whnf);refine sr ?_;(conv=>whnf);cases h;exact rfl
theorem slicesCloneC {N : Nat} (hN : N ≤ 1073741824) {l : List Int} {r : (List Int)} (h : slicesClone N l = some r) :
    ACalls Tryz.prog 75 [.d (.list 1 (List.map I l))] [] fun e os => e = .ret (.d (.list 1 (List.map I r))) ∧ os = [] := by
  unfold slicesClone at h
  refine ACalls.nils_or (fun e => ?_) (slicesClone1C hN h)
  have e2 := List.map_eq_nil_iff.1 e
  subst e2
  refine slicesClone0C hN ?_
  rw [← h]
  simp [slicesClone0, slicesClone1, slc, app, idx]
theorem leagueLeagueOfC {N : Nat} (hN : N ≤ 1073741824) {l1 : LeagueLeague} {team1 : Int} {r : LeagueLeague × Int} (h : leagueLeagueOf N l1 team1 = some r) :
    ACalls Tryz.prog 112 [.d (.agg [I l1.fTeams, .list 5 (List.map LeagueGame.enc l1.fGames)]), .d (I team1)] [] fun e os => e = .ret (.d (.fn (.func 141) [] [.ref (.agg [I r.1.fTeams, .list 5 (List.map LeagueGame.enc r.1.fGames)]), .ref (.agg [I r.2])])) ∧ os = [] := by
  refine acalls_f (fresh := false) tt_ok dr_ok ⟨[2, 3], [], [], [], [], 0, []⟩ Tryz.func112 rfl Tryz.call112 rfl ?_
  unfold leagueLeagueOf at h
  (conv=>whnf);cases h;exact rfl
theorem leagueGameGivesC {N : Nat} (hN : N ≤ 1073741824) {g1 : LeagueGame} {r : Int × Int} (h : leagueGameGives N g1 = some r) :
    ACalls Tryz.prog 113 [.d (.agg [I g1.fA, I g1.fB, I g1.fPinsA, I g1.fPinsB, .bool g1.fOpen])] [] fun e os => e = .ret (.d (.tup [I r.1, I r.2])) ∧ os = [] := by
  refine acalls_f (fresh := false) tt_ok dr_ok ⟨[1], [], [], [], [], 0, []⟩ Tryz.func113 rfl Tryz.call113 rfl ?_
  unfold leagueGameGives at h
  (conv=>whnf);refine Br.mk (fun hc4 => ?_) (fun hc4 => ?_)
  ·replace h := ite_t hc4 h;(conv=>whnf);cases h;exact rfl
  ·replace h := ite_f hc4 h;(conv=>whnf);refine Br.mk (fun hc5 => ?_) (fun hc5 => ?_)
   ·replace h := ite_t hc5 h;(conv=>whnf);cases h;exact rfl
   ·replace h := ite_f hc5 h;(conv=>whnf);refine Br.mk (fun hc6 => ?_) (fun hc6 => ?_)
    ·replace h := ite_t hc6 h;(conv=>whnf);cases h;exact rfl
    ·replace h := ite_f hc6 h;(conv=>whnf);cases h;exact rfl
theorem leagueSideAllC {N : Nat} (hN : N ≤ 1073741824) {x1 : LeagueSide} {v1 : List Int} {r : Int} (h : leagueSideAll N x1 v1 = some r) :
    ACalls Tryz.prog 78 [.d (.agg [I x1.fOther, I x1.fPoints, I x1.fPins]), .d (.list 1 (List.map I v1))] [] fun e os => e = .ret (.d (I r)) ∧ os = [] := by
  refine acalls_f (fresh := false) tt_ok dr_ok ⟨[2], [], [], [], [], 0, []⟩ Tryz.func78 rfl Tryz.call78 rfl ?_
  unfold leagueSideAll at h
  (conv=>whnf);cases h;exact rfl
theorem leagueTableNumberC {N : Nat} (hN : N ≤ 1073741824) {t1 : LeagueTable} {team1 : Int} {group1 : List Int} {r : Int} (h : leagueTableNumber N t1 team1 group1 = some r) :
    ACalls Tryz.prog 77 [.d (.agg [I t1.fLeague.fTeams, .list 5 (List.map LeagueGame.enc t1.fLeague.fGames)]), .d (.agg [.fn (.func 78) [] []]), .d (I team1), .d (.list 1 (List.map I group1))] [] fun e os => e = .ret (.d (I r)) ∧ os = [] := by
  refine acalls_f (fresh := false) tt_ok dr_ok ⟨[4, 5, 7], [], [], [], [1001], 0, []⟩ Tryz.func77 rfl Tryz.call77 rfl ?_
  unfold leagueTableNumber at h
  (conv=>whnf);intro b2;obtain ⟨c11, hx69, h⟩ := obind h;(conv=>whnf);refine SeqG.mk Unit (fun y => [(8, .ptr 8 b2 0)]) (fun y => [(8, .cells b2 [.d (I c11)])]) (fun _ => True) ?_ ?_
  ·obtain ⟨⟨ra16, rb16⟩, hx71, hx69⟩ := obind hx69;(conv=>whnf);refine CallG.pure _ (leagueLeagueOfC hN hx71) ?_;(conv=>whnf);intro lp2 rc2;refine IterG.mk _ _ ⟨[], [], [], [], [4], 2000, []⟩ Tryz.func141 rfl Tryz.call141 rfl rfl ?_;(conv=>whnf);refine LnA.mk _ (List.length_map _) ?_;(conv=>whnf);refine LoopG.mk (Nat × (Int × Int × Int)) (fun y => [(0, .fn (.yield lp2) [] []), (2, .d (.ref (.agg [I rb16]))), (9, .d (.list 5 (List.map LeagueGame.enc ra16.fGames))), (10, .d (I y.2.1)), (11, .d (I y.2.2.1))]) (fun y => [(8, .cells b2 [.d (I y.2.2.2)]), (1000, .loop lp2 rc2 none)]) (fun y => loopN (fun rr x => leagueTableNumber_b1 N group1 ra16 rb16 rr x.1 x.2.1 x.2.2) y.1 y.2 = some c11) (fun y => y.1) (N, ((ra16.fGames.length : Int), 0, 0)) hx69 (Sub.eq rfl ?_ ?_) ?_
   ·(repeat ((conv=>whnf);refine nr ?_));exact trivial
   ·(conv=>whnf);refine no ?_;(conv=>whnf);refine no ?_;exact trivial
   ·rintro ⟨n2, ⟨x30, v28, c19⟩⟩ hl2;obtain ⟨n2, rfl, hl2⟩ := loopN_some hl2;replace hl2 : leagueTableNumber_b1 N group1 ra16 rb16 (loopN (fun rr x => leagueTableNumber_b1 N group1 ra16 rb16 rr x.1 x.2.1 x.2.2) n2) x30 v28 c19 = some c11 := hl2;rw [leagueTableNumber_b1] at hl2;(conv=>whnf);refine Br.mk (fun hc72 => ?_) (fun hc72 => ?_)
    ·replace hl2 := ite_t hc72 hl2;obtain ⟨x34, hx128, hl2⟩ := obind hl2;(conv=>whnf);refine Side.mk rfl ⟨_, idx_0 hx128, idx_map _ hx128, ?_⟩;(conv=>whnf);intro b92;(conv=>whnf);refine sr ?_;(conv=>whnf);refine sr ?_;obtain ⟨⟨ra28, rb28⟩, hx130, hl2⟩ := obind hl2;(conv=>whnf);refine CallG.pure _ (leagueGameGivesC hN hx130) ?_;obtain ⟨⟨v31, v32, c21⟩, hx134, hl2⟩ := obind hl2;(conv=>whnf)
     refine SeqG.mk Unit (fun y => [(0, .fn (.yield lp2) [] []), (2, .d (.ref (.agg [I rb16]))), (9, .d (.list 5 (List.map LeagueGame.enc ra16.fGames))), (10, .d (I x30)), (11, .d (I v28)), (37, .ptr 2005 b92 1), (38, .d (I x34.fB)), (39, .d (I rb16)), (40, .d (.bool v31)), (41, .d (.bool v32)), (52, .b false), (53, .b false)]) (fun y => [(2005, .cells b92 [.d (I x34.fA), .d (I x34.fB), .d (I x34.fPinsA), .d (I x34.fPinsB), .d (.bool x34.fOpen)]), (8, .cells b2 [.d (I c21)]), (1000, .loop lp2 rc2 none)]) (fun _ => True) ?_ ?_
     ·(conv=>whnf);refine sr ?_;(conv=>whnf);refine Br.mk (fun hc82 => ?_) (fun hc82 => ?_)
      ·replace hx134 := ite_t hc82 hx134;(conv=>whnf);refine sr ?_;(conv=>whnf);refine sr ?_;(conv=>whnf);refine sr ?_;(conv=>whnf);refine Side.mk ⟨rfl, rfl, rfl⟩ ?_;(conv=>whnf);intro b96;(conv=>whnf);refine sr ?_;obtain ⟨r70, hx135, hx134⟩ := obind hx134;(conv=>whnf);refine DrawG.mk (.take 0 (.take 1 (.take 2 (.take 3 (.take 4 (.alt 5 [1, 0] (.take 6 (.alt 7 [] .done .nil)) .nil)))))) (by kernel_rfl) ?_;(conv=>whnf);refine sr ?_;(conv=>whnf);refine sr ?_;(conv=>whnf);refine Both.mk ?_ trivial;(conv=>whnf);refine CallG.pure _ (leagueSideAllC hN hx135) ?_;(conv=>whnf);refine nl ?_;(conv=>whnf);refine sr ?_;(conv=>whnf);refine nl ?_;(conv=>whnf);refine Both.mk ?_ trivial;(conv=>whnf);refine sr ?_;(conv=>whnf);refine sr ?_;(conv=>whnf);refine Br.mk (fun hc83 => ?_) (fun hc83 => ?_)
       ·replace hx134 := ite_t hc83 hx134;(conv=>whnf);refine sr ?_;(conv=>whnf);refine sr ?_;(conv=>whnf);refine sr ?_;(conv=>whnf);refine Side.mk ⟨rfl, rfl, rfl⟩ ?_;(conv=>whnf);intro b97;(conv=>whnf);refine sr ?_;obtain ⟨r71, hx136, hx134⟩ := obind hx134;(conv=>whnf);refine DrawG.mk (.take 0 (.take 1 (.take 2 (.take 3 (.take 4 (.alt 5 [1, 0] (.take 6 (.alt 7 [] .done .nil)) .nil)))))) (by kernel_rfl) ?_;(conv=>whnf);refine sr ?_;(conv=>whnf);refine sr ?_;(conv=>whnf);refine Both.mk ?_ trivial;(conv=>whnf);refine CallG.pure _ (leagueSideAllC hN hx136) ?_;(conv=>whnf);refine nl ?_;(conv=>whnf);refine sr ?_;(conv=>whnf);refine nl ?_;(conv=>whnf);refine Both.mk ?_ trivial;(conv=>whnf);refine sr ?_;cases hx134;(conv=>whnf);refine ⟨(), trivial, Sub.eq rfl ?_ ?_⟩
        ·(repeat ((conv=>whnf);refine nr ?_));exact trivial
        ·(conv=>whnf);refine no ?_;(conv=>whnf);refine no ?_;(conv=>whnf);refine no ?_;exact trivial
       ·replace hx134 := ite_f hc83 hx134;cases hx134;(conv=>whnf);refine ⟨(), trivial, Sub.eq rfl ?_ ?_⟩
        ·(repeat ((conv=>whnf);refine nr ?_));exact trivial
        ·(conv=>whnf);refine no ?_;(conv=>whnf);refine no ?_;(conv=>whnf);refine no ?_;exact trivial
      ·replace hx134 := ite_f hc82 hx134;(conv=>whnf);refine sr ?_;(conv=>whnf);refine Br.mk (fun hc84 => ?_) (fun hc84 => ?_)
       ·replace hx134 := ite_t hc84 hx134;(conv=>whnf);refine sr ?_;(conv=>whnf);refine sr ?_;(conv=>whnf);refine sr ?_;(conv=>whnf);refine Side.mk ⟨rfl, rfl, rfl⟩ ?_;(conv=>whnf);intro b98;(conv=>whnf);refine sr ?_;obtain ⟨r72, hx137, hx134⟩ := obind hx134;(conv=>whnf);refine DrawG.mk (.take 0 (.take 1 (.take 2 (.take 3 (.take 4 (.alt 5 [1, 0] (.take 6 (.alt 7 [] .done .nil)) .nil)))))) (by kernel_rfl) ?_;(conv=>whnf);refine sr ?_;(conv=>whnf);refine sr ?_;(conv=>whnf);refine Both.mk ?_ trivial;(conv=>whnf);refine CallG.pure _ (leagueSideAllC hN hx137) ?_;(conv=>whnf);refine nl ?_;(conv=>whnf);refine sr ?_;(conv=>whnf);refine nl ?_;(conv=>whnf);refine Both.mk ?_ trivial;(conv=>whnf);refine sr ?_;cases hx134;(conv=>whnf);refine ⟨(), trivial, Sub.eq rfl ?_ ?_⟩
        ·(repeat ((conv=>whnf);refine nr ?_));exact trivial
        ·(conv=>whnf);refine no ?_;(conv=>whnf);refine no ?_;(conv=>whnf);refine no ?_;exact trivial
       ·replace hx134 := ite_f hc84 hx134;cases hx134;(conv=>whnf);refine ⟨(), trivial, Sub.eq rfl ?_ ?_⟩
        ·(repeat ((conv=>whnf);refine nr ?_));exact trivial
        ·(conv=>whnf);refine no ?_;(conv=>whnf);refine no ?_;(conv=>whnf);refine no ?_;exact trivial
     ·rintro _ _;(conv=>whnf);refine ⟨(n2, (x30, w64 (v28 + 1), c21)), hl2, Sub.eq rfl ?_ ?_, Nat.lt_succ_self _⟩
      ·(repeat ((conv=>whnf);refine nr ?_));exact trivial
      ·(conv=>whnf);refine no ?_;(conv=>whnf);refine no ?_;exact trivial
    ·replace hl2 := ite_f hc72 hl2;(conv=>whnf);refine Side.mk ⟨rfl, rfl⟩ ?_;cases hl2;(conv=>whnf);refine ⟨(), trivial, Sub.eq rfl ?_ ?_⟩
     ·(repeat ((conv=>whnf);refine nr ?_));exact trivial
     ·(conv=>whnf);refine no ?_;exact trivial
  ·rintro _ _;(conv=>whnf);refine sr ?_;(conv=>whnf);refine sr ?_;(conv=>whnf);refine sr ?_;(conv=>whnf);cases h;exact rfl
theorem slicesMaxC {N : Nat} (hN : N ≤ 1073741824) {x1 : List Int} {r : Int} (h : slicesMax N x1 = some r) :
    ACalls Tryz.prog 111 [.d (.list 1 (List.map I x1))] [] fun e os => e = .ret (.d (I r)) ∧ os = [] := by
  refine acalls_f (fresh := false) tt_ok dr_ok ⟨[], [], [], [], [1004], 0, []⟩ Tryz.func111 rfl Tryz.call111 rfl ?_
  unfold slicesMax at h
  (conv=>whnf);refine LnA.mk _ (List.length_map _) ?_;(conv=>whnf);refine Br.mk (fun hc2 => ?_) (fun hc2 => ?_)
  ·replace h := ite_t hc2 h;cases h
  ·replace h := ite_f hc2 h;obtain ⟨x3, hx2, h⟩ := obind h;(conv=>whnf);refine Side.mk rfl ⟨_, idx_0 hx2, idx_map _ hx2, ?_⟩;obtain ⟨m5, hx9, h⟩ := obind h;(conv=>whnf);refine SeqG.mk Unit (fun y => [(3, .d (I m5))]) (fun y => []) (fun _ => True) ?_ ?_
   ·(conv=>whnf);refine LoopG.mk (Nat × (Int × Int)) (fun y => [(0, .d (.list 1 (List.map I x1))), (3, .d (I y.2.1)), (4, .d (I y.2.2))]) (fun y => []) (fun y => loopN (fun rr x => slicesMax_b1 N x1 rr x.1 x.2) y.1 y.2 = some m5) (fun y => y.1) (N, (x3, 1)) hx9 (Sub.eq rfl ?_ ?_) ?_
    ·(repeat ((conv=>whnf);refine nr ?_));exact trivial
    ·exact trivial
    ·rintro ⟨n2, ⟨m9, i8⟩⟩ hl2;obtain ⟨n2, rfl, hl2⟩ := loopN_some hl2;replace hl2 : slicesMax_b1 N x1 (loopN (fun rr x => slicesMax_b1 N x1 rr x.1 x.2) n2) m9 i8 = some m5 := hl2;rw [slicesMax_b1] at hl2;(conv=>whnf);refine LnA.mk _ (List.length_map _) ?_;(conv=>whnf);refine Br.mk (fun hc14 => ?_) (fun hc14 => ?_)
     ·replace hl2 := ite_t hc14 hl2;obtain ⟨x15, hx15, hl2⟩ := obind hl2;(conv=>whnf);refine Side.mk rfl ⟨_, idx_0 hx15, idx_map _ hx15, ?_⟩;(conv=>whnf);refine ⟨(n2, (max m9 x15, w64 (i8 + 1))), hl2, Sub.eq rfl ?_ ?_, Nat.lt_succ_self _⟩
      ·(repeat ((conv=>whnf);refine nr ?_));exact trivial
      ·exact trivial
     ·replace hl2 := ite_f hc14 hl2;cases hl2;(conv=>whnf);refine ⟨(), trivial, Sub.eq rfl ?_ ?_⟩
      ·(repeat ((conv=>whnf);refine nr ?_));exact trivial
      ·exact trivial
   ·rintro _ _;(conv=>whnf);cases h;exact rfl
theorem leagueGreatestC {N : Nat} (hN : N ≤ 1073741824) {l1 : List Int} {r : Int} (h : leagueGreatest N l1 = some r) :
    ACalls Tryz.prog 76 [.d (.list 1 (List.map I l1))] [] fun e os => e = .ret (.d (I r)) ∧ os = [] := by
  refine acalls_f (fresh := false) tt_ok dr_ok ⟨[], [], [], [], [], 0, []⟩ Tryz.func76 rfl Tryz.call76 rfl ?_
  unfold leagueGreatest at h
  obtain ⟨r2, hx2, h⟩ := obind h;(conv=>whnf);refine CallG.pure _ (slicesMaxC hN hx2) ?_;(conv=>whnf);cases h;exact rfl
theorem leagueTableFallC {N : Nat} (hN : N ≤ 1073741824) {t1 : LeagueTable} {group1 : List Int} {r : (List (List Int))} (h : leagueTableFall N t1 group1 = some r) :
    ACalls Tryz.prog 43 [.d (.agg [I t1.fLeague.fTeams, .list 5 (List.map LeagueGame.enc t1.fLeague.fGames)]), .d (.agg [.fn (.func 78) [] []]), .d (.list 1 (List.map I group1))] [] fun e os => e = .ret (.d (.list 1 (List.map (fun x => .list 1 (List.map I x)) r))) ∧ os = [] := by
  refine acalls_f (fresh := false) tt_ok dr_ok ⟨[3, 4], [], [], [], [1002, 1004, 1010, 1012], 0, [16, 61]⟩ Tryz.func43 rfl Tryz.call43 rfl ?_
  unfold leagueTableFall at h
  obtain ⟨r2, hx2, h⟩ := obind h;(conv=>whnf);refine CallG.pure _ (slicesCloneC hN hx2) ?_;obtain ⟨l170, hx390, h⟩ := obind h;(conv=>whnf);refine SeqG.mk Value (fun y => [(6, .sl 60 y)]) (fun y => [(60, .arr y 24 1 false (List.map (fun x => .list 1 (List.map I x)) l170))]) (fun _ => True) ?_ ?_
  ·(conv=>whnf);refine LoopG.mk (Nat × ((List Int) × (List (List Int))) × Value) (fun y => [(2, .d (.list 1 (List.map I group1))), (3, .d (.ref (.agg [I t1.fLeague.fTeams, .list 5 (List.map LeagueGame.enc t1.fLeague.fGames)]))), (4, .d (.ref (.agg [.fn (.func 78) [] []]))), (6, .sl 60 y.2.2), (7, .d (.list 1 (List.map I y.2.1.1)))]) (fun y => [(60, .arr y.2.2 24 1 false (List.map (fun x => .list 1 (List.map I x)) y.2.1.2))]) (fun y => loopN (fun rr x => leagueTableFall_b4 N t1 group1 rr x.1 x.2) y.1 y.2.1 = some l170) (fun y => y.1) (N, (r2, []), (.slice none 0 0)) hx390 (Sub.eq rfl ?_ ?_) ?_
   ·(repeat ((conv=>whnf);refine nr ?_));exact trivial
   ·(conv=>whnf);refine Need.mk (OLe.nil _ _ _ _) ?_;exact trivial
   ·rintro ⟨n22, ⟨rest8, l284⟩, hd469⟩ hl22;obtain ⟨n22, rfl, hl22⟩ := loopN_some hl22;replace hl22 : leagueTableFall_b4 N t1 group1 (loopN (fun rr x => leagueTableFall_b4 N t1 group1 rr x.1 x.2) n22) rest8 l284 = some l170 := hl22;rw [leagueTableFall_b4] at hl22;(conv=>whnf);refine SeqG.mk Unit (fun y => [(2, .d (.list 1 (List.map I group1))), (3, .d (.ref (.agg [I t1.fLeague.fTeams, .list 5 (List.map LeagueGame.enc t1.fLeague.fGames)]))), (4, .d (.ref (.agg [.fn (.func 78) [] []]))), (6, .sl 60 hd469), (7, .d (.list 1 (List.map I rest8)))]) (fun y => [(60, .arr hd469 24 1 false (List.map (fun x => .list 1 (List.map I x)) l284))]) (fun y => leagueTableFall_k3 N t1 group1 rest8 l284 (loopN (fun rr x => leagueTableFall_b4 N t1 group1 rr x.1 x.2) n22) = some l170) ?_ ?_
    ·(conv=>whnf);refine LnA.mk _ (List.length_map _) ?_;(conv=>whnf);refine Br.mk (fun hc228 => ?_) (fun hc228 => ?_)
     ·replace hl22 := ite_t hc228 hl22;(conv=>whnf);refine ⟨(), hl22, Sub.eq rfl ?_ ?_⟩
      ·(repeat ((conv=>whnf);refine nr ?_));exact trivial
      ·(conv=>whnf);refine no ?_;exact trivial
     ·replace hl22 := ite_f hc228 hl22;cases hl22;(conv=>whnf);refine ⟨hd469, trivial, Sub.eq rfl ?_ ?_⟩
      ·(repeat ((conv=>whnf);refine nr ?_));exact trivial
      ·(conv=>whnf);refine no ?_;exact trivial
    ·rintro _ h;unfold leagueTableFall_k3 at h;obtain ⟨best50, hx673, h⟩ := obind h;(conv=>whnf);refine SeqG.mk Unit (fun y => [(2, .d (.list 1 (List.map I group1))), (3, .d (.ref (.agg [I t1.fLeague.fTeams, .list 5 (List.map LeagueGame.enc t1.fLeague.fGames)]))), (4, .d (.ref (.agg [.fn (.func 78) [] []]))), (6, .sl 60 hd469), (7, .d (.list 1 (List.map I rest8))), (8, .d (I best50))]) (fun y => [(60, .arr hd469 24 1 false (List.map (fun x => .list 1 (List.map I x)) l284))]) (fun _ => True) ?_ ?_
     ·(conv=>whnf);refine LnA.mk _ (List.length_map _) ?_;(conv=>whnf);refine LoopG.mk (Nat × (Int × Int × Int)) (fun y => [(2, .d (.list 1 (List.map I group1))), (3, .d (.ref (.agg [I t1.fLeague.fTeams, .list 5 (List.map LeagueGame.enc t1.fLeague.fGames)]))), (4, .d (.ref (.agg [.fn (.func 78) [] []]))), (6, .sl 60 hd469), (7, .d (.list 1 (List.map I rest8))), (8, .d (I y.2.1)), (20, .d (.list 1 (List.map I rest8))), (21, .d (I y.2.2.1)), (22, .d (I y.2.2.2))]) (fun y => [(60, .arr hd469 24 1 false (List.map (fun x => .list 1 (List.map I x)) l284))]) (fun y => loopN (fun rr x => leagueTableFall_b1 N t1 group1 rest8 rr x.1 x.2.1 x.2.2) y.1 y.2 = some best50) (fun y => y.1) (N, ((-1), (rest8.length : Int), 0)) hx673 (Sub.eq rfl ?_ ?_) ?_
      ·(repeat ((conv=>whnf);refine nr ?_));exact trivial
      ·(conv=>whnf);refine no ?_;exact trivial
      ·rintro ⟨n24, ⟨best54, v197, v198⟩⟩ hl24;obtain ⟨n24, rfl, hl24⟩ := loopN_some hl24;replace hl24 : leagueTableFall_b1 N t1 group1 rest8 (loopN (fun rr x => leagueTableFall_b1 N t1 group1 rest8 rr x.1 x.2.1 x.2.2) n24) best54 v197 v198 = some best50 := hl24;rw [leagueTableFall_b1] at hl24;(conv=>whnf);refine Br.mk (fun hc203 => ?_) (fun hc203 => ?_)
       ·replace hl24 := ite_t hc203 hl24;obtain ⟨x264, hx695, hl24⟩ := obind hl24;(conv=>whnf);refine Side.mk rfl ⟨_, idx_0 hx695, idx_map _ hx695, ?_⟩;obtain ⟨r265, hx696, hl24⟩ := obind hl24;(conv=>whnf);refine CallG.pure _ (leagueTableNumberC hN hx696) ?_;(conv=>whnf);intro hd481;obtain ⟨r266, hx697, hl24⟩ := obind hl24;(conv=>whnf);refine sr ?_;(conv=>whnf);refine CallG.pure _ (leagueGreatestC hN hx697) ?_;(conv=>whnf);refine ⟨(n24, (r266, v197, w64 (v198 + 1))), hl24, Sub.eq rfl ?_ ?_, Nat.lt_succ_self _⟩
        ·(repeat ((conv=>whnf);refine nr ?_));exact trivial
        ·(conv=>whnf);refine no ?_;exact trivial
       ·replace hl24 := ite_f hc203 hl24;cases hl24;(conv=>whnf);refine ⟨(), trivial, Sub.eq rfl ?_ ?_⟩
        ·(repeat ((conv=>whnf);refine nr ?_));exact trivial
        ·(conv=>whnf);refine no ?_;exact trivial
     ·rintro _ _;obtain ⟨⟨l311, l312⟩, hx737, h⟩ := obind h;(conv=>whnf);refine SeqG.mk (Value × Value) (fun y => [(2, .d (.list 1 (List.map I group1))), (3, .d (.ref (.agg [I t1.fLeague.fTeams, .list 5 (List.map LeagueGame.enc t1.fLeague.fGames)]))), (4, .d (.ref (.agg [.fn (.func 78) [] []]))), (6, .sl 60 hd469), (11, .sl 51 y.1), (12, .sl 55 y.2)]) (fun y => [(60, .arr hd469 24 1 false (List.map (fun x => .list 1 (List.map I x)) l284)), (51, .arr y.1 3 1 false (List.map I l311)), (55, .arr y.2 3 1 false (List.map I l312))]) (fun _ => True) ?_ ?_
      ·(conv=>whnf);refine LnA.mk _ (List.length_map _) ?_;(conv=>whnf)
       refine LoopG.mk (Nat × (Int × Int × (List Int) × (List Int)) × Value × Value) (fun y => [(2, .d (.list 1 (List.map I group1))), (3, .d (.ref (.agg [I t1.fLeague.fTeams, .list 5 (List.map LeagueGame.enc t1.fLeague.fGames)]))), (4, .d (.ref (.agg [.fn (.func 78) [] []]))), (6, .sl 60 hd469), (8, .d (I best50)), (11, .sl 51 y.2.2.1), (12, .sl 55 y.2.2.2), (35, .d (.list 1 (List.map I rest8))), (36, .d (I y.2.1.1)), (37, .d (I y.2.1.2.1))]) (fun y => [(60, .arr hd469 24 1 false (List.map (fun x => .list 1 (List.map I x)) l284)), (51, .arr y.2.2.1 3 1 false (List.map I y.2.1.2.2.1)), (55, .arr y.2.2.2 3 1 false (List.map I y.2.1.2.2.2))]) (fun y => loopN (fun rr x => leagueTableFall_b2 N t1 group1 rest8 best50 rr x.1 x.2.1 x.2.2.1 x.2.2.2) y.1 y.2.1 = some (l311, l312)) (fun y => y.1) (N, ((rest8.length : Int), 0, [], []), (.slice none 0 0), (.slice none 0 0)) hx737 (Sub.eq rfl ?_ ?_) ?_
       ·(repeat ((conv=>whnf);refine nr ?_));exact trivial
       ·(conv=>whnf);refine no ?_;(conv=>whnf);refine Need.mk (OLe.nil _ _ _ _) ?_;(conv=>whnf);refine Need.mk (OLe.nil _ _ _ _) ?_;exact trivial
       ·rintro ⟨n26, ⟨v215, v216, l331, l332⟩, hd548, hd549⟩ hl26;obtain ⟨n26, rfl, hl26⟩ := loopN_some hl26;replace hl26 : leagueTableFall_b2 N t1 group1 rest8 best50 (loopN (fun rr x => leagueTableFall_b2 N t1 group1 rest8 best50 rr x.1 x.2.1 x.2.2.1 x.2.2.2) n26) v215 v216 l331 l332 = some (l311, l312) := hl26;rw [leagueTableFall_b2] at hl26;(conv=>whnf);refine Br.mk (fun hc225 => ?_) (fun hc225 => ?_)
        ·replace hl26 := ite_t hc225 hl26;obtain ⟨⟨l335, l336⟩, hx770, hl26⟩ := obind hl26;(conv=>whnf);refine SeqG.mk (Value × Value) (fun y => [(2, .d (.list 1 (List.map I group1))), (3, .d (.ref (.agg [I t1.fLeague.fTeams, .list 5 (List.map LeagueGame.enc t1.fLeague.fGames)]))), (4, .d (.ref (.agg [.fn (.func 78) [] []]))), (6, .sl 60 hd469), (8, .d (I best50)), (11, .sl 51 y.1), (12, .sl 55 y.2), (35, .d (.list 1 (List.map I rest8))), (36, .d (I v215)), (37, .d (I v216))]) (fun y => [(60, .arr hd469 24 1 false (List.map (fun x => .list 1 (List.map I x)) l284)), (51, .arr y.1 3 1 false (List.map I l335)), (55, .arr y.2 3 1 false (List.map I l336))]) (fun _ => True) ?_ ?_
         ·obtain ⟨x288, hx772, hx770⟩ := obind hx770;(conv=>whnf);refine Side.mk rfl ⟨_, idx_0 hx772, idx_map _ hx772, ?_⟩;obtain ⟨r290, hx774, hx770⟩ := obind hx770;(conv=>whnf);refine CallG.pure _ (leagueTableNumberC hN hx774) ?_;(conv=>whnf);refine Br.mk (fun hc227 => ?_) (fun hc227 => ?_)
          ·replace hx770 := ite_t hc227 hx770;(conv=>whnf);intro hd556;obtain ⟨l337, hx775, hx770⟩ := obind hx770;(conv=>whnf);refine Side.mk ⟨rfl, rfl⟩ ?_;(conv=>whnf);refine Side.mk ⟨rfl, rfl, rfl⟩ (Need.mk (app_need hN hx775 (by decide)) (Eqv.mk (List.map I l337) (app_map _ hx775) ?_));(conv=>whnf);intro hd557;cases hx770;(conv=>whnf);refine ⟨(hd557, hd549), trivial, Sub.eq rfl ?_ ?_⟩
           ·(repeat ((conv=>whnf);refine nr ?_));exact trivial
           ·(conv=>whnf);refine no ?_;(conv=>whnf);refine no ?_;(conv=>whnf);refine no ?_;exact trivial
          ·replace hx770 := ite_f hc227 hx770;(conv=>whnf);intro hd558;obtain ⟨l338, hx776, hx770⟩ := obind hx770;(conv=>whnf);refine Side.mk ⟨rfl, rfl⟩ ?_;(conv=>whnf);refine Side.mk ⟨rfl, rfl, rfl⟩ (Need.mk (app_need hN hx776 (by decide)) (Eqv.mk (List.map I l338) (app_map _ hx776) ?_));(conv=>whnf);intro hd559;cases hx770;(conv=>whnf);refine ⟨(hd548, hd559), trivial, Sub.eq rfl ?_ ?_⟩
           ·(repeat ((conv=>whnf);refine nr ?_));exact trivial
           ·(conv=>whnf);refine no ?_;(conv=>whnf);refine no ?_;(conv=>whnf);refine no ?_;exact trivial
         ·rintro ⟨hd554, hd555⟩ _;(conv=>whnf);refine ⟨(n26, (v215, w64 (v216 + 1), l335, l336), hd554, hd555), hl26, Sub.eq rfl ?_ ?_, Nat.lt_succ_self _⟩
          ·(repeat ((conv=>whnf);refine nr ?_));exact trivial
          ·(conv=>whnf);refine no ?_;(conv=>whnf);refine no ?_;(conv=>whnf);refine no ?_;exact trivial
        ·replace hl26 := ite_f hc225 hl26;cases hl26;(conv=>whnf);refine ⟨(hd548, hd549), trivial, Sub.eq rfl ?_ ?_⟩
         ·(repeat ((conv=>whnf);refine nr ?_));exact trivial
         ·(conv=>whnf);refine no ?_;(conv=>whnf);refine no ?_;(conv=>whnf);refine no ?_;exact trivial
      ·rintro ⟨hd520, hd521⟩ _;(conv=>whnf);refine sr ?_;(conv=>whnf);intro hd560;obtain ⟨l339, hx777, h⟩ := obind h;(conv=>whnf);refine Side.mk ⟨rfl, rfl⟩ ?_;(conv=>whnf);refine Side.mk ⟨rfl, rfl, rfl⟩ (Need.mk (app_need hN hx777 (by decide)) (Eqv.mk (List.map (fun x => .list 1 (List.map I x)) l339) (app_map _ hx777) ?_));(conv=>whnf);intro hd561;(conv=>whnf);refine sr ?_;(conv=>whnf);refine ⟨(n22, (l312, l339), hd561), h, Sub.eq rfl ?_ ?_, Nat.lt_succ_self _⟩
       ·(repeat ((conv=>whnf);refine nr ?_));exact trivial
       ·(conv=>whnf);refine no ?_;exact trivial
  ·rintro hd281 _;(conv=>whnf);refine sr ?_;(conv=>whnf);cases h;exact rfl
end Go.Proofs.YtignpdbcgjllkaaGreat
