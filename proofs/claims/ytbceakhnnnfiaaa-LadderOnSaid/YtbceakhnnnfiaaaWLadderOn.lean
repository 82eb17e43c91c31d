/-
  The walk of the law LadderOn.
-/
import Derived.Test.YtbceakhnnnfiaaaDLadderOn
import Derived.Test.YtbceakhnnnfiaaaWe
import Derived.Test.YtbceakhnnnfiaaaVb
import Derived.Test.YtbceakhnnnfiaaaVc
import Derived.Test.YtbceakhnnnfiaaaVd
import Derived.Test.YtbceakhnnnfiaaaVe
import Derived.Test.YtbceakhnnnfiaaaVf
import Derived.Test.YtbceakhnnnfiaaaVg
import Derived.Test.YtbceakhnnnfiaaaVo
namespace Go.Proofs.Ytbceakhnnnfiaaa
open Go Go.Abs Go.Kp
set_option maxRecDepth 100000
set_option maxHeartbeats 8000000
set_option linter.all false

theorem law09LadderOnC {N : Nat} (hN : N ≤ 1073741824) {c1 : Ref09Cup} {which1 : Int} {who1 : Int} {r : Bool} (h : law09LadderOn N c1 which1 who1 = some r) :
    ACalls Try.prog 8 [.d (.agg [.int .u8 c1.fForm, I c1.fPlayers, I c1.fGames, .list 3 (List.map Ref09Result.enc c1.fResults)]), .d (.int .u8 which1), .d (.int .u8 who1)] [] fun e os => e = .ret (.d (.bool r)) ∧ os = [] := by
  refine acalls_f (fresh := false) tt_ok dr_ok ⟨[3], [], [], [], [5, 10, 19, 23, 1013, 1017], 0, [135]⟩ Try.func8 rfl Try.call8 rfl ?_
  unfold law09LadderOn at h
  obtain ⟨r6, hx6, h⟩ := obind h;(conv=>whnf);refine CallG.pure _ (law09ReadyC hN hx6) ?_;(conv=>whnf);refine Br.mk (fun hc2 => ?_) (fun hc2 => ?_)
  ·replace h := ite_t hc2 h;obtain ⟨r8, hx8, h⟩ := obind h;(conv=>whnf);refine CallG.pure _ (law09WakesC hN hx8) ?_;(conv=>whnf);cases h;exact rfl
  ·replace h := ite_f hc2 h;obtain ⟨r10, hx11, h⟩ := obind h;(conv=>whnf);refine CallG.pure _ (law09CupC hN hx11) ?_;obtain ⟨⟨ra2, rb2⟩, hx12, h⟩ := obind h;(conv=>whnf);refine CallG.pure _ (ladderNextC hN hx12) ?_;obtain ⟨r12, hx14, h⟩ := obind h;(conv=>whnf);refine CallG.pure _ (ref09WonC hN hx14) ?_;obtain ⟨v2, hx16, h⟩ := obind h;(conv=>whnf);refine SeqG.mk Unit (fun y => [(1, .d (.int .u8 which1)), (2, .d (.int .u8 who1)), (3, .d (.ref (.agg [.int .u8 c1.fForm, I c1.fPlayers, I c1.fGames, .list 3 (List.map Ref09Result.enc c1.fResults)]))), (7, .d (.list 5 (List.map LadderMatch.enc ra2))), (38, .d (.bool v2))]) (fun y => []) (fun _ => True) ?_ ?_
   ·(conv=>whnf);refine Br.mk (fun hc7 => ?_) (fun hc7 => ?_)
    ·replace hx16 := ite_f hc7 hx16;(conv=>whnf);refine LnA.mk _ (List.length_map _) ?_;cases hx16;(conv=>whnf);refine ⟨(), trivial, Sub.eq rfl ?_ ?_⟩
     ·(repeat ((conv=>whnf);refine nr ?_));exact trivial
     ·exact trivial
    ·replace hx16 := ite_t hc7 hx16;cases hx16;(conv=>whnf);refine ⟨(), trivial, Sub.eq rfl ?_ ?_⟩
     ·(repeat ((conv=>whnf);refine nr ?_));exact trivial
     ·exact trivial
   ·rintro _ _;(conv=>whnf);refine Br.mk (fun hc8 => ?_) (fun hc8 => ?_)
    ·replace h := ite_t hc8 h;(conv=>whnf);cases h;exact rfl
    ·replace h := ite_f hc8 h;(conv=>whnf);refine LnA.mk _ (List.length_map _) ?_;(conv=>whnf);refine Br.mk (fun hc10 => ?_) (fun hc10 => ?_)
     ·replace h := ite_t hc10 h;obtain ⟨r16, hx20, h⟩ := obind h;(conv=>whnf);refine CallG.pure _ (law09WakesC hN hx20) ?_;(conv=>whnf);cases h;exact rfl
     ·replace h := ite_f hc10 h;(conv=>whnf);refine LnA.mk _ (List.length_map _) ?_;obtain ⟨_, hx23, h⟩ := obind h;(conv=>whnf);refine Need.mk (nz_ne hx23) ?_;obtain ⟨x2, hx24, h⟩ := obind h;(conv=>whnf);refine Side.mk rfl ⟨_, idx_0 hx24, idx_map _ hx24, ?_⟩;(conv=>whnf);intro b2;(conv=>whnf);refine sr ?_;obtain ⟨v4, hx26, h⟩ := obind h;(conv=>whnf);refine SeqG.mk Unit (fun y => [(2, .d (.int .u8 who1)), (3, .d (.ref (.agg [.int .u8 c1.fForm, I c1.fPlayers, I c1.fGames, .list 3 (List.map Ref09Result.enc c1.fResults)]))), (10, .ptr 10 b2 0), (77, .d (.bool v4))]) (fun y => [(10, .cells b2 [.d (I x2.fNumber), .d (I x2.fFirst), .d (I x2.fSecond), .d (I x2.fWon), .d (I x2.fLost)])]) (fun _ => True) ?_ ?_
      ·(conv=>whnf);refine sr ?_;(conv=>whnf);refine Br.mk (fun hc21 => ?_) (fun hc21 => ?_)
       ·replace hx26 := ite_f hc21 hx26;(conv=>whnf);refine sr ?_;(conv=>whnf);refine Br.mk (fun hc22 => ?_) (fun hc22 => ?_)
        ·replace hx26 := ite_f hc22 hx26;(conv=>whnf);refine sr ?_;(conv=>whnf);refine Br.mk (fun hc23 => ?_) (fun hc23 => ?_)
         ·replace hx26 := ite_f hc23 hx26;(conv=>whnf);refine sr ?_;cases hx26;(conv=>whnf);refine ⟨(), trivial, Sub.eq rfl ?_ ?_⟩
          ·(repeat ((conv=>whnf);refine nr ?_));exact trivial
          ·(conv=>whnf);refine no ?_;exact trivial
         ·replace hx26 := ite_t hc23 hx26;cases hx26;(conv=>whnf);refine ⟨(), trivial, Sub.eq rfl ?_ ?_⟩
          ·(repeat ((conv=>whnf);refine nr ?_));exact trivial
          ·(conv=>whnf);refine no ?_;exact trivial
        ·replace hx26 := ite_t hc22 hx26;cases hx26;(conv=>whnf);refine ⟨(), trivial, Sub.eq rfl ?_ ?_⟩
         ·(repeat ((conv=>whnf);refine nr ?_));exact trivial
         ·(conv=>whnf);refine no ?_;exact trivial
       ·replace hx26 := ite_t hc21 hx26;cases hx26;(conv=>whnf);refine ⟨(), trivial, Sub.eq rfl ?_ ?_⟩
        ·(repeat ((conv=>whnf);refine nr ?_));exact trivial
        ·(conv=>whnf);refine no ?_;exact trivial
      ·rintro _ _;(conv=>whnf);refine Br.mk (fun hc24 => ?_) (fun hc24 => ?_)
       ·replace h := ite_t hc24 h;(conv=>whnf);cases h;exact rfl
       ·replace h := ite_f hc24 h;(conv=>whnf);refine sr ?_;obtain ⟨p1, hx27, h⟩ := obind h;(conv=>whnf);refine SeqG.mk Unit (fun y => [(3, .d (.ref (.agg [.int .u8 c1.fForm, I c1.fPlayers, I c1.fGames, .list 3 (List.map Ref09Result.enc c1.fResults)]))), (10, .ptr 10 b2 0), (11, .d (I p1))]) (fun y => [(10, .cells b2 [.d (I x2.fNumber), .d (I x2.fFirst), .d (I x2.fSecond), .d (I x2.fWon), .d (I x2.fLost)])]) (fun _ => True) ?_ ?_
        ·(conv=>whnf);refine Need.mk (by decide) ?_;(conv=>whnf);refine Br.mk (fun hc26 => ?_) (fun hc26 => ?_)
         ·replace hx27 := ite_t hc26 hx27;(conv=>whnf);refine sr ?_;cases hx27;(conv=>whnf);refine ⟨(), trivial, Sub.eq rfl ?_ ?_⟩
          ·(repeat ((conv=>whnf);refine nr ?_));exact trivial
          ·(conv=>whnf);refine no ?_;exact trivial
         ·replace hx27 := ite_f hc26 hx27;cases hx27;(conv=>whnf);refine ⟨(), trivial, Sub.eq rfl ?_ ?_⟩
          ·(repeat ((conv=>whnf);refine nr ?_));exact trivial
          ·(conv=>whnf);refine no ?_;exact trivial
        ·rintro _ _;(conv=>whnf);intro b4;(conv=>whnf);refine sr ?_;(conv=>whnf);intro hd3;obtain ⟨l2, hx29, h⟩ := obind h;(conv=>whnf);refine sr ?_;(conv=>whnf);refine Side.mk ⟨rfl, rfl, rfl⟩ (Need.mk (app_need hN hx29 (by decide)) (Eqv.mk (List.map Ref09Result.enc l2) (app_map _ hx29) ?_));(conv=>whnf);intro hd4;(conv=>whnf);refine sr ?_;(conv=>whnf);refine SeqG.mk ((List Ref09Result) × Value) (fun y => [(12, .ptr 12 b4 0)]) (fun y => [(12, .cells b4 [.d (.int .u8 c1.fForm), .d (I c1.fPlayers), .d (I c1.fGames), .sl 86 y.2]), (86, .arr y.2 45 3 false (List.map Ref09Result.enc y.1))]) (fun y => law09LadderOn_k1 N c1 y.1 = some r) ?_ ?_
         ·(conv=>whnf);refine sr ?_;obtain ⟨r35, hx58, h⟩ := obind h;(conv=>whnf);refine CallG.pure _ (ref09FindC hN hx58) ?_;(conv=>whnf);refine Br.mk (fun hc36 => ?_) (fun hc36 => ?_)
          ·replace h := ite_t hc36 h;obtain ⟨v9, hx69, h⟩ := obind h;(conv=>whnf);refine SeqG.mk Unit (fun y => [(11, .d (I p1)), (12, .ptr 12 b4 0), (13, .d (I r35)), (122, .d (.bool v9))]) (fun y => [(12, .cells b4 [.d (.int .u8 c1.fForm), .d (I c1.fPlayers), .d (I c1.fGames), .sl 86 hd4]), (86, .arr hd4 45 3 false (List.map Ref09Result.enc l2))]) (fun _ => True) ?_ ?_
           ·obtain ⟨x11, hx70, hx69⟩ := obind hx69;obtain ⟨r42, hx71, hx69⟩ := obind hx69;(conv=>whnf);refine DrawG.mk (.take 0 (.take 1 (.take 2 (.take 3 (.take 4 (.take 5 (.take 6 (.take 7 (.take 9 (.take 10 (.alt 8 [10, 9, 6, 4, 3, 2, 1, 0] (.take 11 (.take 12 (.spl 109 (.take 13 (.take 14 (.take 15 (.take 16 (.take 17 (.take 18 (.take 19 (.take 20 (.take 22 (.take 23 (.alt 21 [23, 22, 19, 17, 16, 15, 14, 13, 11, 10, 9, 6, 4, 3, 2, 1, 0] (.take 24 (.take 25 .done)) .nil)))))))))))))) .nil))))))))))) (by kernel_rfl) ?_;(conv=>whnf);refine Side.mk rfl ⟨_, idx_0 hx70, idx_map _ hx70, ?_⟩;(conv=>whnf);refine sr ?_;(conv=>whnf);refine sr ?_;(conv=>whnf);refine Both.mk ?_ trivial;(conv=>whnf);refine CallG.pure _ (ref09WinsC hN hx71) ?_;(conv=>whnf);refine sr ?_;(conv=>whnf);refine nl ?_;(conv=>whnf);refine nl ?_;(conv=>whnf);refine nl ?_;(conv=>whnf);refine nl ?_;(conv=>whnf)
            refine Side.mk rfl ⟨_, idx_0 hx70, idx_map _ hx70, ?_⟩;(conv=>whnf);refine nl ?_;(conv=>whnf);refine nl ?_;(conv=>whnf);refine nl ?_;(conv=>whnf);refine nl ?_;(conv=>whnf);refine Br.mk (fun hc41 => ?_) (fun hc41 => ?_)
            ·replace hx69 := ite_t hc41 hx69;(conv=>whnf);refine Both.mk ?_ trivial;(conv=>whnf);refine nr ?_;(conv=>whnf);refine nr ?_;(conv=>whnf);refine nr ?_;(conv=>whnf);refine nr ?_;(conv=>whnf);refine nr ?_;(conv=>whnf);refine nr ?_;(conv=>whnf);refine nr ?_;(conv=>whnf);refine nr ?_;(conv=>whnf);refine nl ?_;(conv=>whnf);refine sr ?_;(conv=>whnf);refine nl ?_;(conv=>whnf);refine nl ?_;(conv=>whnf);refine nl ?_;(conv=>whnf);refine nl ?_;(conv=>whnf);refine Side.mk rfl ⟨_, idx_0 hx70, idx_map _ hx70, ?_⟩;(conv=>whnf);refine nl ?_;(conv=>whnf);refine nl ?_;(conv=>whnf);refine nl ?_;(conv=>whnf);refine nl ?_;cases hx69;(conv=>whnf);refine ⟨(), trivial, Sub.eq rfl ?_ ?_⟩
             ·(repeat ((conv=>whnf);refine nr ?_));exact trivial
             ·(conv=>whnf);refine no ?_;(conv=>whnf);refine no ?_;exact trivial
            ·replace hx69 := ite_f hc41 hx69;obtain ⟨r43, hx72, hx69⟩ := obind hx69;(conv=>whnf);refine Side.mk rfl ⟨_, idx_0 hx70, idx_map _ hx70, ?_⟩;(conv=>whnf);refine sr ?_;(conv=>whnf);refine sr ?_;(conv=>whnf);refine Both.mk ?_ trivial;(conv=>whnf);refine CallG.pure _ (ref09WinsC hN hx72) ?_;(conv=>whnf);refine sr ?_;(conv=>whnf);refine nl ?_;(conv=>whnf);refine nl ?_;(conv=>whnf);refine nl ?_;(conv=>whnf);refine nl ?_;(conv=>whnf);refine Side.mk rfl ⟨_, idx_0 hx70, idx_map _ hx70, ?_⟩;(conv=>whnf);refine nl ?_;(conv=>whnf);refine nl ?_;(conv=>whnf);refine nl ?_;(conv=>whnf);refine nl ?_;(conv=>whnf);refine nl ?_;(conv=>whnf);refine sr ?_;(conv=>whnf);refine nl ?_;(conv=>whnf);refine nl ?_;(conv=>whnf);refine nl ?_;(conv=>whnf);refine nl ?_;(conv=>whnf);refine Side.mk rfl ⟨_, idx_0 hx70, idx_map _ hx70, ?_⟩;(conv=>whnf);refine nl ?_;(conv=>whnf);refine nl ?_;(conv=>whnf)
             refine nl ?_;(conv=>whnf);refine nl ?_;cases hx69;(conv=>whnf);refine ⟨(), trivial, Sub.eq rfl ?_ ?_⟩
             ·(repeat ((conv=>whnf);refine nr ?_));exact trivial
             ·(conv=>whnf);refine no ?_;(conv=>whnf);refine no ?_;exact trivial
           ·rintro _ _;(conv=>whnf);refine Br.mk (fun hc42 => ?_) (fun hc42 => ?_)
            ·replace h := ite_t hc42 h;(conv=>whnf);cases h;exact rfl
            ·replace h := ite_f hc42 h;obtain ⟨x12, hx73, h⟩ := obind h;obtain ⟨r44, hx74, h⟩ := obind h;obtain ⟨l6, hx75, h⟩ := obind h;(conv=>whnf);refine DrawG.mk (.take 0 (.take 1 (.take 2 (.take 3 (.take 4 (.take 5 (.take 6 (.take 7 (.take 8 (.take 10 (.alt 9 [10, 7, 6, 5, 4, 3, 2, 1, 0] (.alt 11 [7, 6, 5, 4, 3, 2, 1, 0] (.alt 12 [7, 6, 5, 4, 3, 2, 1, 0] (.take 13 (.take 14 (.alt 15 [13] .done .nil))) .nil) .nil) (.alt 11 [8, 7, 6, 5, 4, 3, 2, 1, 0] (.alt 9 [7, 6, 5, 4, 3, 2, 1, 0] (.alt 12 [7, 6, 5, 4, 3, 2, 1, 0] (.take 13 (.take 14 (.alt 15 [13] .done .nil))) .nil) .nil) .nil)))))))))))) (by kernel_rfl) ?_;(conv=>whnf);refine sr ?_;(conv=>whnf);refine sr ?_;(conv=>whnf);refine Side.mk ⟨rfl, rfl⟩ (Need.mk (idx_need _ hx73) ?_);(conv=>whnf);refine Side.mk ⟨rfl, rfl⟩ ⟨_, Int.natCast_nonneg _, idx_el _ hx73, ?_⟩;(conv=>whnf);refine Both.mk ?_ ?_
             ·(conv=>whnf);refine CallG.fresh 132 (law09ListC hN hx74) ?_;intro hd21;(conv=>whnf);refine nl ?_;(conv=>whnf);refine nl ?_;(conv=>whnf);refine Side.mk ⟨rfl, rfl⟩ (Need.mk (idx_need _ hx73) ?_);(conv=>whnf);refine nl ?_;(conv=>whnf);refine nl ?_;(conv=>whnf);refine sr ?_;(conv=>whnf);refine nl ?_;(conv=>whnf);refine nl ?_;(conv=>whnf);refine nl ?_;(conv=>whnf);refine sr ?_;(conv=>whnf);refine nl ?_;(conv=>whnf);refine nl ?_;(conv=>whnf);refine Both.mk ?_ trivial;(conv=>whnf);intro hd22;(conv=>whnf);refine nl ?_;(conv=>whnf);refine Side.mk ⟨rfl, rfl⟩ (Need.mk (idx_need _ hx73) ?_);(conv=>whnf);refine nl ?_;(conv=>whnf);refine nl ?_;(conv=>whnf);refine sr ?_;(conv=>whnf);refine nl ?_;(conv=>whnf);refine nl ?_;(conv=>whnf);refine nl ?_;(conv=>whnf);refine sr ?_;(conv=>whnf);refine nl ?_;(conv=>whnf);refine nl ?_;(conv=>whnf);refine Both.mk ?_ trivial;(conv=>whnf)
              refine Side.mk ⟨rfl, rfl⟩ ?_;(conv=>whnf);refine Side.mk ⟨rfl, rfl, rfl⟩ (Need.mk (app_need hN hx75 (by decide)) (Eqv.mk (List.map I l6) (app_map _ hx75) ?_));(conv=>whnf);intro hd23;(conv=>whnf);refine nl ?_;(conv=>whnf);refine Side.mk ⟨rfl, rfl⟩ (Need.mk (idx_need _ hx73) ?_);(conv=>whnf);refine nl ?_;(conv=>whnf);refine nl ?_;(conv=>whnf);refine sr ?_;(conv=>whnf);refine nl ?_;(conv=>whnf);refine nl ?_;(conv=>whnf);refine nl ?_;(conv=>whnf);refine sr ?_;(conv=>whnf);refine nl ?_;(conv=>whnf);refine nl ?_;(conv=>whnf);refine Side.mk ⟨rfl, rfl⟩ (Need.mk (idx_need _ hx73) ?_);(conv=>whnf);refine Both.mk ?_ trivial;(conv=>whnf);refine sr ?_;(conv=>whnf);refine Side.mk ⟨rfl, rfl⟩ ⟨_, Int.natCast_nonneg _, idx_el _ hx73, ?_⟩;(conv=>whnf);refine Eqv.mk (List.map Ref09Result.enc (List.set l2 (Int.toNat r35) (Ref09Result.mk x12.fMatch l6 x12.fProtested))) (set_map _ _ _ _ rfl) ?_
              (conv=>whnf);refine Side.mk ⟨rfl, rfl⟩ (Need.mk (idx_need_set _ hx73) ?_);(conv=>whnf);refine nl ?_;(conv=>whnf);refine ⟨((List.set l2 (Int.toNat r35) (Ref09Result.mk x12.fMatch l6 x12.fProtested)), hd4), h, Sub.eq rfl ?_ ?_⟩
              ·(repeat ((conv=>whnf);refine nr ?_));exact trivial
              ·(conv=>whnf);refine no ?_;(conv=>whnf);refine no ?_;exact trivial
             ·(conv=>whnf);refine Both.mk ?_ trivial;(conv=>whnf);intro hd24;(conv=>whnf);refine Side.mk ⟨rfl, rfl⟩ ⟨_, Int.natCast_nonneg _, idx_el _ hx73, ?_⟩;(conv=>whnf);refine nl ?_;(conv=>whnf);refine nl ?_;(conv=>whnf);refine Side.mk ⟨rfl, rfl⟩ (Need.mk (idx_need _ hx73) ?_);(conv=>whnf);refine nl ?_;(conv=>whnf);refine nl ?_;(conv=>whnf);refine sr ?_;(conv=>whnf);refine nl ?_;(conv=>whnf);refine nl ?_;(conv=>whnf);refine nl ?_;(conv=>whnf);refine sr ?_;(conv=>whnf);refine nl ?_;(conv=>whnf);refine nl ?_;(conv=>whnf);refine Both.mk ?_ trivial;(conv=>whnf);refine CallG.fresh 132 (law09ListC hN hx74) ?_;intro hd25;(conv=>whnf);refine nl ?_;(conv=>whnf);refine Side.mk ⟨rfl, rfl⟩ (Need.mk (idx_need _ hx73) ?_);(conv=>whnf);refine nl ?_;(conv=>whnf);refine nl ?_;(conv=>whnf);refine sr ?_;(conv=>whnf);refine nl ?_;(conv=>whnf);refine nl ?_;(conv=>whnf);refine nl ?_;(conv=>whnf)
              refine sr ?_;(conv=>whnf);refine nl ?_;(conv=>whnf);refine nl ?_;(conv=>whnf);refine Both.mk ?_ trivial;(conv=>whnf);refine Side.mk ⟨rfl, rfl⟩ ?_;(conv=>whnf);refine Side.mk ⟨rfl, rfl, rfl⟩ (Need.mk (app_need hN hx75 (by decide)) (Eqv.mk (List.map I l6) (app_map _ hx75) ?_));(conv=>whnf);intro hd26;(conv=>whnf);refine nl ?_;(conv=>whnf);refine Side.mk ⟨rfl, rfl⟩ (Need.mk (idx_need _ hx73) ?_);(conv=>whnf);refine nl ?_;(conv=>whnf);refine nl ?_;(conv=>whnf);refine sr ?_;(conv=>whnf);refine nl ?_;(conv=>whnf);refine nl ?_;(conv=>whnf);refine nl ?_;(conv=>whnf);refine sr ?_;(conv=>whnf);refine nl ?_;(conv=>whnf);refine nl ?_;(conv=>whnf);refine Side.mk ⟨rfl, rfl⟩ (Need.mk (idx_need _ hx73) ?_);(conv=>whnf);refine Both.mk ?_ trivial;(conv=>whnf);refine sr ?_;(conv=>whnf);refine Side.mk ⟨rfl, rfl⟩ ⟨_, Int.natCast_nonneg _, idx_el _ hx73, ?_⟩;(conv=>whnf)
              refine Eqv.mk (List.map Ref09Result.enc (List.set l2 (Int.toNat r35) (Ref09Result.mk x12.fMatch l6 x12.fProtested))) (set_map _ _ _ _ rfl) ?_;(conv=>whnf);refine Side.mk ⟨rfl, rfl⟩ (Need.mk (idx_need_set _ hx73) ?_);(conv=>whnf);refine nl ?_;(conv=>whnf);refine ⟨((List.set l2 (Int.toNat r35) (Ref09Result.mk x12.fMatch l6 x12.fProtested)), hd4), h, Sub.eq rfl ?_ ?_⟩
              ·(repeat ((conv=>whnf);refine nr ?_));exact trivial
              ·(conv=>whnf);refine no ?_;(conv=>whnf);refine no ?_;exact trivial
          ·replace h := ite_f hc36 h;(conv=>whnf);refine sr ?_;(conv=>whnf);refine sr ?_;(conv=>whnf);intro hd27;(conv=>whnf);refine sr ?_;(conv=>whnf);intro hd28;obtain ⟨l7, hx76, h⟩ := obind h;(conv=>whnf);refine Side.mk ⟨rfl, rfl⟩ ?_;(conv=>whnf);refine Side.mk ⟨rfl, rfl, rfl⟩ (Need.mk (app_need hN hx76 (by decide)) (Eqv.mk (List.map Ref09Result.enc l7) (app_map _ hx76) ?_));(conv=>whnf);intro hd29;(conv=>whnf);refine sr ?_;(conv=>whnf);refine ⟨(l7, hd29), h, Sub.eq rfl ?_ ?_⟩
           ·(repeat ((conv=>whnf);refine nr ?_));exact trivial
           ·(conv=>whnf);refine no ?_;(conv=>whnf);refine no ?_;exact trivial
         ·clear h;rintro ⟨l5, hd17⟩ h;unfold law09LadderOn_k1 at h;obtain ⟨v7, hx53, h⟩ := obind h;(conv=>whnf);refine SeqG.mk Unit (fun y => [(6, .d (.bool v7))]) (fun y => []) (fun _ => True) ?_ ?_
          ·(conv=>whnf);refine sr ?_;obtain ⟨r31, hx54, hx53⟩ := obind hx53;(conv=>whnf);refine sr ?_;(conv=>whnf);refine CallG.pure _ (law09CupC hN hx54) ?_;obtain ⟨r32, hx55, hx53⟩ := obind hx53;(conv=>whnf);refine CallG.pure _ (ladderCheckCupC hN hx55) ?_;(conv=>whnf);refine Br.mk (fun hc35 => ?_) (fun hc35 => ?_)
           ·replace hx53 := ite_t hc35 hx53;obtain ⟨r33, hx56, hx53⟩ := obind hx53;(conv=>whnf);refine CallG.pure _ (law09WakesC hN hx56) ?_;cases hx53;(conv=>whnf);refine ⟨(), trivial, Sub.eq rfl ?_ ?_⟩
            ·(repeat ((conv=>whnf);refine nr ?_));exact trivial
            ·exact trivial
           ·replace hx53 := ite_f hc35 hx53;cases hx53;(conv=>whnf);refine ⟨(), trivial, Sub.eq rfl ?_ ?_⟩
            ·(repeat ((conv=>whnf);refine nr ?_));exact trivial
            ·exact trivial
          ·rintro _ _;(conv=>whnf);cases h;exact rfl
end Go.Proofs.Ytbceakhnnnfiaaa
